-- Printed by wip/px/px.py of this claim's repository (the kit's printer, extended there). Lean checks it.
import Derived.Test.YtjnbhieppghidaaFKinds
import Derived.Test.YtjnbhieppghidaaFimplNettoward
import Derived.Test.YtjnbhieppghidaaFimplNetfirstArc
namespace Go.Proofs.Ytjnbhieppghidaa.F
open Go.RowKit Go.Proofs.YtjnbhieppghidaaW.PrintWords Go.Proofs.YtjnbhieppghidaaW.PrintLast Go.Proofs.YtjnbhieppghidaaW.PrintMore
attribute [local go_sem] max2_int min2_int max_two min_two max_three min_three max_four min_four   -- for this text's walks alone
set_option linter.unusedVariables false
set_option linter.unusedSimpArgs false

/-! ### impl_Net_best: function 16 -/
def impl_Net_best.l0 : Nat → Int → Int → List (S64) → List Int → Int → List (S60) → Option (List Int × Bool)
 | 0, _, _, _, _, _, _ => none
 | k + 1, x1, x2, x8, x9, x217000, x217001 => if x1 = x2 then (some (x9, true)) else ((impl_Net_firstArc.f x217000 x217001 x8 x1).bind fun t225 => (if x9.length < 17592186044416 then (if 0 ≤ t225 then (if t225 < (x217001.length : Int) then (impl_Net_best.l0 k ((rd_T60 x217001 t225).f1) x2 x8 (x9 ++ [t225]) x217000 x217001) else (none)) else (none)) else (none)))
def impl_Net_best.f (k : Nat) (a0_0 : Int) (l0_1 : List (S60)) (a1 : Int) (a2 : Int) : Option (List Int × Bool) := (impl_Net_toward.f k a0_0 l0_1 a2).bind fun t217 => (if 0 ≤ a1 then (if a1 < (t217.length : Int) then (if ((rd_T64 t217 a1).f0) = 99999 then (some (([] : List Int), false)) else (if 0 ≤ ((rd_T64 t217 a1).f1) then (if ((rd_T64 t217 a1).f1 : Int).toNat ≤ 35184372088832 then (impl_Net_best.l0 k a1 a2 t217 (([] : List Int)) a0_0 l0_1) else (none)) else (none))) else (none)) else (none))
theorem impl_Net_best.mono_l : ∀ k, (∀ y0 y1 y2 y3 y4 y5, LeO (impl_Net_best.l0 k y0 y1 y2 y3 y4 y5) (impl_Net_best.l0 (k + 1) y0 y1 y2 y3 y4 y5))
 | 0 => fun _ _ _ _ _ _ r h => by simp [impl_Net_best.l0] at h
 | k + 1 => by
  have ih0 := impl_Net_best.mono_l k
  ·intro y0 y1 y2 y3 y4 y5
   unfold impl_Net_best.l0
   repeat' first | (with_reducible exact ih0 _ _ _ _ _ _) | (with_reducible exact LeO.refl _) | (with_reducible refine LeO.ite ?_ ?_) | (with_reducible refine LeO.bind ?_ (fun _ => ?_))
theorem impl_Net_best.mono : ∀ a0 a1 a2 a3 k, LeO (impl_Net_best.f k a0 a1 a2 a3) (impl_Net_best.f (k + 1) a0 a1 a2 a3) := by
 intro a0 a1 a2 a3 k
 have ih0 := impl_Net_best.mono_l k
 unfold impl_Net_best.f
 repeat' first | (with_reducible exact ih0 _ _ _ _ _ _) | (with_reducible exact impl_Net_toward.mono _ _ _ _) | (with_reducible exact LeO.refl _) | (with_reducible refine LeO.ite ?_ ?_) | (with_reducible refine LeO.bind ?_ (fun _ => ?_))
set_option maxHeartbeats 8000000 in
set_option maxRecDepth 100000 in
theorem impl_Net_best.calls (k : Nat) (a0_0 : Int) (A0_1 : Option Addr) (c0_1 : Nat) (l0_1 : List (S60)) (a1 : Int) (a2 : Int) (r1 : List Int) (r2 : Bool) (w : World) (hr0_1 : Kd.C k60 w A0_1 l0_1.length l0_1) (hc0_1 : l0_1.length ≤ c0_1) (h : impl_Net_best.f k a0_0 l0_1 a1 a2 = some (r1, r2)) :
  Calls Try.prog 16 #[.agg #[.int .i64 a0_0, .slice A0_1 l0_1.length c0_1], .int .i64 a1, .int .i64 a2] w fun e w' => ∃ v0_ : Value, e = .returned (.tuple #[v0_, .bool r2]) ∧ Kd.R (Kd.int .i64) 3 w' w.heap.size (fun _ => True) v0_ r1 ∧ Below w.heap.size w w' := by
 have hu25 := Try.underlying25
 have HR0_1 := ak hr0_1
 have HC0_1 := ak hc0_1
 clear hr0_1 hc0_1
 have HB := ak (Below.refl w.heap.size w)
 have H : ((impl_Net_toward.f k a0_0 l0_1 a2).bind fun t217 => (if 0 ≤ a1 then (if a1 < (t217.length : Int) then (if ((rd_T64 t217 a1).f0) = 99999 then (some (([] : List Int), false)) else (if 0 ≤ ((rd_T64 t217 a1).f1) then (if ((rd_T64 t217 a1).f1 : Int).toNat ≤ 35184372088832 then (impl_Net_best.l0 k a1 a2 t217 (([] : List Int)) a0_0 l0_1) else (none)) else (none))) else (none)) else (none))) = some (r1, r2) := h
 clear h
 replace H := Option.bind_eq_some_iff.mp H
 obtain ⟨t217, A40, H⟩ := H
 have A4 := ak A40
 clear A40
 by_cases c5 : 0 ≤ a1
 rotate_left
 ·rw [if_neg c5] at H
  exact absurd H (by simp)
 rw [if_pos c5] at H
 have c5b0 : decide (0 ≤ a1) = true := decide_eq_true c5
 clear c5
 by_cases c6 : a1 < (t217.length : Int)
 rotate_left
 ·rw [if_neg c6] at H
  exact absurd H (by simp)
 rw [if_pos c6] at H
 have c6b0 : decide (a1 < (t217.length : Int)) = true := decide_eq_true c6
 clear c6
 by_cases c7 : ((rd_T64 t217 a1).f0) = 99999
 ·rw [if_pos c7] at H
  have c7b0 : (((rd_T64 t217 a1).f0) == 99999) = true := beq_iff_eq.mpr c7
  have c7b1 : (((rd_T64 t217 a1).f0) != 99999) = false := bne_eq_false_iff_eq.mpr c7
  clear c7
  simp only [Option.some.injEq, Prod.mk.injEq] at H
  obtain ⟨rfl, rfl⟩ := H
  go_enter Try.func16, Try.ntmps16
  go_wp2_with (first | ((with_reducible refine gate_dst (N := 3) rfl ?_); refine box_event ?hg (N := 3) ?hd (cs := #[.int .i64 a0_0, .slice A0_1 l0_1.length c0_1]) (t := 25) ?hr ?_; (case hd => rfl); (case hg => rfl); (case hr => (go_simp; done)); intro gb216 hg w8 hbox hb; have BK216 := ak (hbox); have GW216 := ak ((by rw [hg]; exact (below_size (bl HB)) : w.heap.size ≤ gb216)); have GE216 := ak ((by rw [hg]; exact (below_size (bl HB)) : w.heap.size ≤ gb216)); replace HB := ak (below_step (bl HB) hb); clear hb hbox hg; have hcz9_0 := bc w8 BK216 0 (.int .i64 a0_0) rfl; have hcz9_1 := bc w8 BK216 1 (.slice A0_1 l0_1.length c0_1) rfl; have hfz9_0 := fz BK216 0; have hfz9_1 := fz BK216 1) | ((with_reducible refine gate_callee (f := 35) rfl ?_); refine goesL_ (some 13) rfl rfl Try.func35 (by kernel_rfl) rfl #[.agg #[.int .i64 a0_0, .slice A0_1 l0_1.length c0_1], .int .i64 a2] rfl (by (try simp only [List.map_toArray, List.map_cons, List.map_nil]); rfl) ?_; (with_reducible refine (impl_Net_toward.calls k a0_0 _ _ l0_1 a2 t217 _ ?side1 ?side2 A4.out).mono ?_); (case side1 => repeat (exact (Kd.C_below HR0_1.out HB.out))); (case side2 => exact HC0_1.out); rintro e w10 ⟨v218, rfl, ho0, hb⟩; refine ⟨_, rfl, ?_⟩; have HO219 := ak (Kd.R_lower ho0 (below_size (bl1 HB GE216))); replace BK216 := ak (blk_below (bk BK216) hb); replace HB := ak (below_step (bl1 HB GE216) hb); (try clear hb); (try clear hb2); (try clear hk); (try clear hi); (try clear ho0); obtain ⟨Ao11, co11, eo11⟩ := Kd.R_slice HO219.out; subst eo11; have p220 : 0 ≤ (a1 : Int) := oT (by (with_reducible assumption)); have q220 : a1 < (t217.length : Int) := oT (by (with_reducible assumption)); obtain ⟨ad220, e220, hx220_0, hx220_1⟩ := at_T64 (Kd.R_reads' HO219.out).2.2 a1 p220 q220; cases e220; replace p220 := eq_true p220; replace q220 := eq_true q220))
  go_ret2
  exact ⟨_, by rfl, by exact Kd.R_nil _ _ _ _ _, bl1 HB GE216⟩
 rw [if_neg c7] at H
 have c7b0 : (((rd_T64 t217 a1).f0) == 99999) = false := beq_eq_false_iff_ne.mpr c7
 have c7b1 : (((rd_T64 t217 a1).f0) != 99999) = true := bne_iff_ne.mpr c7
 by_cases c12 : 0 ≤ ((rd_T64 t217 a1).f1)
 rotate_left
 ·rw [if_neg c12] at H
  exact absurd H (by simp)
 rw [if_pos c12] at H
 have c12b0 := eq_true c12
 have c12b1 : decide (0 ≤ ((rd_T64 t217 a1).f1)) = true := decide_eq_true c12
 clear c12
 by_cases c13 : ((rd_T64 t217 a1).f1 : Int).toNat ≤ 35184372088832
 rotate_left
 ·rw [if_neg c13] at H
  exact absurd H (by simp)
 rw [if_pos c13] at H
 have c13b0 := eq_true c13
 have c13b1 : decide (((rd_T64 t217 a1).f1 : Int).toNat ≤ 35184372088832) = true := decide_eq_true c13
 clear c13
 obtain ⟨y222, hy222⟩ : ∃ y_ : List Int, y_ = (([] : List Int)) := ⟨_, rfl⟩
 replace H : (impl_Net_best.l0 k a1 a2 t217 y222 a0_0 l0_1) = some (r1, r2) := by (rw [hy222]; with_reducible exact H)
 have Ny222 := ak hy222
 clear hy222
 have H' := ak H
 clear H
 go_enter Try.func16, Try.ntmps16
 go_wp2_with (first | ((with_reducible refine gate_dst (N := 3) rfl ?_); refine box_event ?hg (N := 3) ?hd (cs := #[.int .i64 a0_0, .slice A0_1 l0_1.length c0_1]) (t := 25) ?hr ?_; (case hd => rfl); (case hg => rfl); (case hr => (go_simp; done)); intro gb216 hg w14 hbox hb; have BK216 := ak (hbox); have GW216 := ak ((by rw [hg]; exact (below_size (bl HB)) : w.heap.size ≤ gb216)); have GE216 := ak ((by rw [hg]; exact (below_size (bl HB)) : w.heap.size ≤ gb216)); replace HB := ak (below_step (bl HB) hb); clear hb hbox hg; have hcz15_0 := bc w14 BK216 0 (.int .i64 a0_0) rfl; have hcz15_1 := bc w14 BK216 1 (.slice A0_1 l0_1.length c0_1) rfl; have hfz15_0 := fz BK216 0; have hfz15_1 := fz BK216 1) | ((with_reducible refine gate_callee (f := 35) rfl ?_); refine goesL_ (some 13) rfl rfl Try.func35 (by kernel_rfl) rfl #[.agg #[.int .i64 a0_0, .slice A0_1 l0_1.length c0_1], .int .i64 a2] rfl (by (try simp only [List.map_toArray, List.map_cons, List.map_nil]); rfl) ?_; (with_reducible refine (impl_Net_toward.calls k a0_0 _ _ l0_1 a2 t217 _ ?side1 ?side2 A4.out).mono ?_); (case side1 => repeat (exact (Kd.C_below HR0_1.out HB.out))); (case side2 => exact HC0_1.out); rintro e w16 ⟨v218, rfl, ho0, hb⟩; refine ⟨_, rfl, ?_⟩; have HO219 := ak (Kd.R_lower ho0 (below_size (bl1 HB GE216))); replace BK216 := ak (blk_below (bk BK216) hb); replace HB := ak (below_step (bl1 HB GE216) hb); (try clear hb); (try clear hb2); (try clear hk); (try clear hi); (try clear ho0); obtain ⟨Ao17, co17, eo17⟩ := Kd.R_slice HO219.out; subst eo17; have p220 : 0 ≤ (a1 : Int) := oT (by (with_reducible assumption)); have q220 : a1 < (t217.length : Int) := oT (by (with_reducible assumption)); obtain ⟨ad220, e220, hx220_0, hx220_1⟩ := at_T64 (Kd.R_reads' HO219.out).2.2 a1 p220 q220; cases e220; replace p220 := eq_true p220; replace q220 := eq_true q220; have p221 : 0 ≤ (a1 : Int) := oT (by (with_reducible assumption)); have q221 : a1 < (t217.length : Int) := oT (by (with_reducible assumption)); obtain ⟨ad221, e221, hx221_0, hx221_1⟩ := at_T64 (Kd.R_reads' HO219.out).2.2 a1 p221 q221; obtain rfl : ad220 = ad221 := (by injection e221); replace p221 := eq_true p221; replace q221 := eq_true q221) | ((with_reducible refine gate_dst (N := 25) rfl ?_); refine Kd.R_make0 (Kd.int .i64) _ 3 rfl (N := 25) rfl 28 _ _ rfl ((rd_T64 t217 a1).f1) rfl rfl Try.underlying28 (.int .i64 0) 8 info3 (by decide) (ok := fun _ => True) trivial (oT (by (with_reducible assumption))) (Nat.le_trans (Nat.mul_le_mul_right _ (oT (by (with_reducible assumption)) : ((rd_T64 t217 a1).f1).toNat ≤ 35184372088832)) (by omega)) (Below.refl _ _) (Nat.le_refl _) ?_; intro v223 w18 ho19 hb hg_ hnew_; clear hg_ hnew_; (rw [← Ny222.out] at ho19); replace HO219 := ak (Kd.R_below (rk HO219) hb); have HO224 := ak (Kd.R_lower ho19 (below_size (bl1 HB GE216))); replace BK216 := ak (blk_below (bk BK216) hb); replace HB := ak (below_step (bl1 HB GE216) hb); clear hb ho19))
 go_loopg [1, 9] k (fun kq v1 v9 w' => ∃ (x1_1 : Int) (x9_1 : List Int), v1 = .int .i64 x1_1 ∧ Aside0 (impl_Net_best.l0 kq x1_1 a2 t217 x9_1 a0_0 l0_1 = some (r1, r2)) ∧ Aside0 (kq ≤ k) ∧ Aside0 (Kd.R k64 64 w' w.heap.size (fun _ => True) (.slice (some ad220) t217.length co17) t217) ∧ Aside0 (Kd.R (Kd.int .i64) 3 w' w.heap.size (fun _ => True) v9 x9_1) ∧ Aside0 (w'.heap[gb216]? = some (.cells #[.int .i64 a0_0, (.slice A0_1 l0_1.length c0_1)] 25 (0, 0))) ∧ Aside0 (Below w.heap.size w w'))
 case atStart => exact ⟨(a1), (y222), (by rfl), H', ⟨Nat.le_refl _⟩, ⟨rk HO219⟩, ⟨rk HO224⟩, ⟨bk BK216⟩, ⟨bl1 HB GE216⟩⟩
 clear H'
 try clear c1
 try clear p2
 try clear q2
 try clear hx2
 try clear c3
 try clear c5
 try clear c5b0
 try clear c6
 try clear c6b0
 try clear c7
 try clear c7b0
 try clear c7b1
 try clear c12
 try clear c12b0
 try clear c12b1
 try clear c13
 try clear c13b0
 try clear c13b1
 try clear c16
 try clear hcz15_0
 try clear hcz15_1
 try clear hcz9_0
 try clear hcz9_1
 try clear hfz15_0
 try clear hfz15_1
 try clear hfz9_0
 try clear hfz9_1
 try clear hx220_0
 try clear hx220_1
 try clear hx221_0
 try clear hx221_1
 try clear p220
 try clear p221
 try clear q220
 try clear q221
 obtain ⟨x1_1, x9_1, rfl, HA, HK1, HO_8, HO_9, BK216, HB⟩ := hrel
 cases gk with
 | zero => exact absurd HA.out (by simp [impl_Net_best.l0])
 | succ k1 =>
  have H := HA.out
  clear HA
  simp only [impl_Net_best.l0] at H
  by_cases c20 : x1_1 = a2
  ·rw [if_pos c20] at H
   have c20b0 : (x1_1 == a2) = true := beq_iff_eq.mpr c20
   have c20b1 : (x1_1 != a2) = false := bne_eq_false_iff_eq.mpr c20
   clear c20
   simp only [Option.some.injEq, Prod.mk.injEq] at H
   obtain ⟨rfl, rfl⟩ := H
   go_wp2
   go_ret2
   exact ⟨_, by rfl, rk HO_9, bl1 HB GE216⟩
  rw [if_neg c20] at H
  have c20b0 : (x1_1 == a2) = false := beq_eq_false_iff_ne.mpr c20
  have c20b1 : (x1_1 != a2) = true := bne_iff_ne.mpr c20
  replace H := Option.bind_eq_some_iff.mp H
  obtain ⟨t225, A210, H⟩ := H
  have A21 := ak A210
  clear A210
  by_cases c22 : x9_1.length < 17592186044416
  rotate_left
  ·rw [if_neg c22] at H
   exact absurd H (by simp)
  rw [if_pos c22] at H
  have LMc22 := ak c22
  clear c22
  obtain ⟨y226, hy226⟩ : ∃ y_ : List Int, y_ = (x9_1 ++ [t225]) := ⟨_, rfl⟩
  replace H : (if 0 ≤ t225 then (if t225 < (l0_1.length : Int) then (impl_Net_best.l0 k1 ((rd_T60 l0_1 t225).f1) a2 t217 y226 a0_0 l0_1) else (none)) else (none)) = some (r1, r2) := by (rw [hy226]; with_reducible exact H)
  have Ny226 := ak hy226
  clear hy226
  by_cases c23 : 0 ≤ t225
  rotate_left
  ·rw [if_neg c23] at H
   exact absurd H (by simp)
  rw [if_pos c23] at H
  have c23b0 : decide (0 ≤ t225) = true := decide_eq_true c23
  clear c23
  by_cases c24 : t225 < (l0_1.length : Int)
  rotate_left
  ·rw [if_neg c24] at H
   exact absurd H (by simp)
  rw [if_pos c24] at H
  have c24b0 : decide (t225 < (l0_1.length : Int)) = true := decide_eq_true c24
  clear c24
  have H' := ak H
  clear H
  have hcz25_0 := bc wr BK216 0 (.int .i64 a0_0) rfl
  have hcz25_1 := bc wr BK216 1 (.slice A0_1 l0_1.length c0_1) rfl
  have hfz25_0 := fz BK216 0
  have hfz25_1 := fz BK216 1
  go_wp2_with (first | ((with_reducible refine gate_callee (f := 36) rfl ?_); refine goesL_ (some 32) rfl rfl Try.func36 (by kernel_rfl) rfl #[.agg #[.int .i64 a0_0, .slice A0_1 l0_1.length c0_1], .slice (some ad220) t217.length co17, .int .i64 x1_1] rfl (by (try simp only [List.map_toArray, List.map_cons, List.map_nil]); rfl) ?_; (with_reducible refine (impl_Net_firstArc.calls a0_0 _ _ l0_1 _ _ t217 x1_1 t225 _ ?side1 ?side2 ?side3 ?side4 A21.out).mono ?_); (case side1 => repeat (exact (Kd.C_below HR0_1.out HB.out))); (case side2 => exact HC0_1.out); (case side3 => repeat (exact (Kd.R_reads' HO_8.out).2.2)); (case side4 => exact (Kd.R_reads' HO_8.out).2.1); rintro e w26 ⟨rfl, hb⟩; refine ⟨_, rfl, ?_⟩; replace HO_8 := ak (Kd.R_below (rk HO_8) hb); replace HO_9 := ak (Kd.R_below (rk HO_9) hb); replace BK216 := ak (blk_below (bk BK216) hb); replace HB := ak (below_step (bl1 HB GE216) hb); (try clear hb); (try clear hb2); (try clear hk); (try clear hi)) | ((with_reducible refine gate_builtin (b := .append) (xs := #[.tmp 33, .tmp 35]) rfl ?_); at_builtin; refine Kd.R_append (Kd.int .i64) (w0 := w) w.heap.size rfl (.tmp 33) (.tmp 35) 28 3 (.int .i64 0) 8 rfl Try.underlying28 info3 rfl (by decide) (by omega) u9 x9_1 t225 [.int .i64 t225] (fun _ => True) (fun _ => False) rfl rfl ?aP (fun _ hk => hk.elim) ?aF ?aO ?aB ?aS ?aL ?_; (case aP => exact rfl); (case aB => exact (bl1 HB GE216)); (case aF => exact (fun _ _ => trivial)); (case aO => exact (rk HO_9)); (case aS => exact (below_size (bl1 HB GE216))); (case aL => have := LMc22.out; omega); intro v227 w27 ho hb hg hat; rw [← Ny226.out] at ho; have n0_ := ak (Kd.R_over' (rk HO_8) (Kd.R_typed (rk HO_9)) (by decide) hg); have n1_ := ak (blk_grown (bk BK216) hg (Kd.R_ne HO_9.out BK216.out (by decide))); have n2_ := ak (hb); have n3_ := ak (ho); clear HO_8; clear BK216; clear HB; clear HO_9; have HO_8 := n0_; have BK216 := n1_; have HB := n2_; have HO228 := n3_; clear n0_ n1_ n2_ n3_; clear ho hb hg hat; have hcz28_0 := bc w27 BK216 0 (.int .i64 a0_0) rfl; have hcz28_1 := bc w27 BK216 1 (.slice A0_1 l0_1.length c0_1) rfl; have hfz28_0 := fz BK216 0; have hfz28_1 := fz BK216 1; have p229 : 0 ≤ (t225 : Int) := oT (by (with_reducible assumption)); have q229 : t225 < (l0_1.length : Int) := oT (by (with_reducible assumption)); obtain ⟨ad229, e229, hx229_0, hx229_1, hx229_2, hx229_3, hx229_4⟩ := at_T60 HR0_1.out t225 p229 q229; cases e229; replace hx229_0 := hcb HB.out hx229_0; replace hx229_1 := hcb HB.out hx229_1; replace hx229_2 := hcb HB.out hx229_2; replace hx229_3 := hcb HB.out hx229_3; replace hx229_4 := hcb HB.out hx229_4; replace p229 := eq_true p229; replace q229 := eq_true q229))
  go_roundg k1
  case measure => have := HK1.out; omega
  case rel => exact ⟨((rd_T60 l0_1 t225).f1), (y226), (by rfl), H', ⟨by have := HK1.out; omega⟩, ⟨rk HO_8⟩, ⟨rk HO228⟩, ⟨bk BK216⟩, ⟨bl1 HB GE216⟩⟩

end Go.Proofs.Ytjnbhieppghidaa.F
