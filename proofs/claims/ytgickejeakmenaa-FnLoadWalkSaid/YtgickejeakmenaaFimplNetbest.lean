-- Printed by wip/px/px.py of this claim's repository (the kit's printer, extended there). Lean checks it.
import Derived.Test.YtgickejeakmenaaFKinds
import Derived.Test.YtgickejeakmenaaFimplNettoward
import Derived.Test.YtgickejeakmenaaFimplNetfirstArc
namespace Go.Proofs.Ytgickejeakmenaa.F
open Go.RowKit Go.Proofs.YtgickejeakmenaaW.PrintWords Go.Proofs.YtgickejeakmenaaW.PrintLast Go.Proofs.YtgickejeakmenaaW.PrintMore
attribute [local go_sem] max2_int min2_int max_two min_two max_three min_three max_four min_four   -- for this text's walks alone
set_option linter.unusedVariables false
set_option linter.unusedSimpArgs false

/-! ### impl_Net_best: function 68 -/
def impl_Net_best.l0 : Nat → Int → Int → List (S108) → List Int → Int → List (S41) → Option (List Int × Bool)
 | 0, _, _, _, _, _, _ => none
 | k + 1, x1, x2, x8, x9, x544000, x544001 => if x1 = x2 then (some (x9, true)) else ((impl_Net_firstArc.f x544000 x544001 x8 x1).bind fun t552 => (if x9.length < 17592186044416 then (if 0 ≤ t552 then (if t552 < (x544001.length : Int) then (impl_Net_best.l0 k ((rd_T41 x544001 t552).f1) x2 x8 (x9 ++ [t552]) x544000 x544001) else (none)) else (none)) else (none)))
def impl_Net_best.f (k : Nat) (a0_0 : Int) (l0_1 : List (S41)) (a1 : Int) (a2 : Int) : Option (List Int × Bool) := (impl_Net_toward.f k a0_0 l0_1 a2).bind fun t544 => (if 0 ≤ a1 then (if a1 < (t544.length : Int) then (if ((rd_T108 t544 a1).f0) = 99999 then (some (([] : List Int), false)) else (if 0 ≤ ((rd_T108 t544 a1).f1) then (if ((rd_T108 t544 a1).f1 : Int).toNat ≤ 35184372088832 then (impl_Net_best.l0 k a1 a2 t544 (([] : List Int)) a0_0 l0_1) else (none)) else (none))) else (none)) else (none))
theorem impl_Net_best.mono_l : ∀ k, (∀ y0 y1 y2 y3 y4 y5, LeO (impl_Net_best.l0 k y0 y1 y2 y3 y4 y5) (impl_Net_best.l0 (k + 1) y0 y1 y2 y3 y4 y5))
 | 0 => fun _ _ _ _ _ _ r h => by simp [impl_Net_best.l0] at h
 | k + 1 => by
  have ih0 := impl_Net_best.mono_l k
  ·intro y0 y1 y2 y3 y4 y5
   unfold impl_Net_best.l0
   repeat' first | (with_reducible exact ih0 _ _ _ _ _ _) | (with_reducible exact LeO.refl _) | (with_reducible refine LeO.ite ?_ ?_) | (with_reducible refine LeO.bind ?_ (fun _ => ?_))
theorem impl_Net_best.mono : ∀ a0 a1 a2 a3 k, LeO (impl_Net_best.f k a0 a1 a2 a3) (impl_Net_best.f (k + 1) a0 a1 a2 a3) := by
 intro a0 a1 a2 a3 k
 have ih0 := impl_Net_best.mono_l k
 unfold impl_Net_best.f
 repeat' first | (with_reducible exact ih0 _ _ _ _ _ _) | (with_reducible exact impl_Net_toward.mono _ _ _ _) | (with_reducible exact LeO.refl _) | (with_reducible refine LeO.ite ?_ ?_) | (with_reducible refine LeO.bind ?_ (fun _ => ?_))
set_option maxHeartbeats 8000000 in
set_option maxRecDepth 100000 in
theorem impl_Net_best.calls (k : Nat) (a0_0 : Int) (A0_1 : Option Addr) (c0_1 : Nat) (l0_1 : List (S41)) (a1 : Int) (a2 : Int) (r1 : List Int) (r2 : Bool) (w : World) (hr0_1 : Kd.C k41 w A0_1 l0_1.length l0_1) (hc0_1 : l0_1.length ≤ c0_1) (h : impl_Net_best.f k a0_0 l0_1 a1 a2 = some (r1, r2)) :
  Calls Try.prog 68 #[.agg #[.int .i64 a0_0, .slice A0_1 l0_1.length c0_1], .int .i64 a1, .int .i64 a2] w fun e w' => ∃ v0_ : Value, e = .returned (.tuple #[v0_, .bool r2]) ∧ Kd.R (Kd.int .i64) 3 w' w.heap.size (fun _ => True) v0_ r1 ∧ Below w.heap.size w w' := by
 have hu25 := Try.underlying25
 have HR0_1 := Aside0.mk hr0_1
 have HC0_1 := Aside0.mk hc0_1
 clear hr0_1 hc0_1
 have HB := Aside0.mk (Below.refl w.heap.size w)
 have H : ((impl_Net_toward.f k a0_0 l0_1 a2).bind fun t544 => (if 0 ≤ a1 then (if a1 < (t544.length : Int) then (if ((rd_T108 t544 a1).f0) = 99999 then (some (([] : List Int), false)) else (if 0 ≤ ((rd_T108 t544 a1).f1) then (if ((rd_T108 t544 a1).f1 : Int).toNat ≤ 35184372088832 then (impl_Net_best.l0 k a1 a2 t544 (([] : List Int)) a0_0 l0_1) else (none)) else (none))) else (none)) else (none))) = some (r1, r2) := h
 clear h
 replace H := Option.bind_eq_some_iff.mp H
 obtain ⟨t544, A40, H⟩ := H
 have A4 := Aside0.mk A40
 clear A40
 by_cases c5 : 0 ≤ a1
 rotate_left
 ·rw [if_neg c5] at H
  exact absurd H (by simp)
 rw [if_pos c5] at H
 have c5b0 : decide (0 ≤ a1) = true := decide_eq_true c5
 clear c5
 by_cases c6 : a1 < (t544.length : Int)
 rotate_left
 ·rw [if_neg c6] at H
  exact absurd H (by simp)
 rw [if_pos c6] at H
 have c6b0 : decide (a1 < (t544.length : Int)) = true := decide_eq_true c6
 clear c6
 by_cases c7 : ((rd_T108 t544 a1).f0) = 99999
 ·rw [if_pos c7] at H
  have c7b0 : (((rd_T108 t544 a1).f0) == 99999) = true := beq_iff_eq.mpr c7
  have c7b1 : (((rd_T108 t544 a1).f0) != 99999) = false := bne_eq_false_iff_eq.mpr c7
  clear c7
  simp only [Option.some.injEq, Prod.mk.injEq] at H
  obtain ⟨rfl, rfl⟩ := H
  go_enter Try.func68, Try.ntmps68
  go_wp2_with (first | ((with_reducible refine gate_dst (N := 3) rfl ?_); refine box_event ?hg (N := 3) ?hd (cs := #[.int .i64 a0_0, .slice A0_1 l0_1.length c0_1]) (t := 25) ?hr ?_; (case hd => rfl); (case hg => rfl); (case hr => (go_simp; done)); intro gb543 hg w8 hbox hb; have BK543 := Aside0.mk (hbox); have GW543 := Aside0.mk ((by rw [hg]; exact (below_size (bl HB)) : w.heap.size ≤ gb543)); have GE543 := Aside0.mk ((by rw [hg]; exact (below_size (bl HB)) : w.heap.size ≤ gb543)); replace HB := Aside0.mk (below_step (bl HB) hb); clear hb hbox hg; have hcz9_0 := bc w8 BK543 0 (.int .i64 a0_0) rfl; have hcz9_1 := bc w8 BK543 1 (.slice A0_1 l0_1.length c0_1) rfl; have hfz9_0 := fz BK543 0; have hfz9_1 := fz BK543 1) | ((with_reducible refine gate_callee (f := 106) rfl ?_); refine goesL_ (some 13) rfl rfl Try.func106 (by kernel_rfl) rfl #[.agg #[.int .i64 a0_0, .slice A0_1 l0_1.length c0_1], .int .i64 a2] rfl (by (try simp only [List.map_toArray, List.map_cons, List.map_nil]); rfl) ?_; (with_reducible refine (impl_Net_toward.calls k a0_0 _ _ l0_1 a2 t544 _ ?side1 ?side2 A4.out).mono ?_); (case side1 => repeat (exact (Kd.C_below HR0_1.out HB.out))); (case side2 => exact HC0_1.out); rintro e w10 ⟨v545, rfl, ho0, hb⟩; refine ⟨_, rfl, ?_⟩; have HO546 := Aside0.mk (Kd.R_lower ho0 (below_size (bl1 HB GE543))); replace BK543 := Aside0.mk (blk_below (bk BK543) hb); replace HB := Aside0.mk (below_step (bl1 HB GE543) hb); (try clear hb); (try clear hb2); (try clear hk); (try clear hi); (try clear ho0); obtain ⟨Ao11, co11, eo11⟩ := Kd.R_slice HO546.out; subst eo11; have p547 : 0 ≤ (a1 : Int) := oT (by (with_reducible assumption)); have q547 : a1 < (t544.length : Int) := oT (by (with_reducible assumption)); obtain ⟨ad547, e547, hx547_0, hx547_1⟩ := at_T108 (Kd.R_reads' HO546.out).2.2 a1 p547 q547; cases e547; replace p547 := eq_true p547; replace q547 := eq_true q547))
  go_ret2
  exact ⟨_, by rfl, by exact Kd.R_nil _ _ _ _ _, bl1 HB GE543⟩
 rw [if_neg c7] at H
 have c7b0 : (((rd_T108 t544 a1).f0) == 99999) = false := beq_eq_false_iff_ne.mpr c7
 have c7b1 : (((rd_T108 t544 a1).f0) != 99999) = true := bne_iff_ne.mpr c7
 by_cases c12 : 0 ≤ ((rd_T108 t544 a1).f1)
 rotate_left
 ·rw [if_neg c12] at H
  exact absurd H (by simp)
 rw [if_pos c12] at H
 have c12b0 := eq_true c12
 have c12b1 : decide (0 ≤ ((rd_T108 t544 a1).f1)) = true := decide_eq_true c12
 clear c12
 by_cases c13 : ((rd_T108 t544 a1).f1 : Int).toNat ≤ 35184372088832
 rotate_left
 ·rw [if_neg c13] at H
  exact absurd H (by simp)
 rw [if_pos c13] at H
 have c13b0 := eq_true c13
 have c13b1 : decide (((rd_T108 t544 a1).f1 : Int).toNat ≤ 35184372088832) = true := decide_eq_true c13
 clear c13
 obtain ⟨y549, hy549⟩ : ∃ y_ : List Int, y_ = (([] : List Int)) := ⟨_, rfl⟩
 replace H : (impl_Net_best.l0 k a1 a2 t544 y549 a0_0 l0_1) = some (r1, r2) := by (rw [hy549]; with_reducible exact H)
 have Ny549 := Aside0.mk hy549
 clear hy549
 have H' := Aside0.mk H
 clear H
 go_enter Try.func68, Try.ntmps68
 go_wp2_with (first | ((with_reducible refine gate_dst (N := 3) rfl ?_); refine box_event ?hg (N := 3) ?hd (cs := #[.int .i64 a0_0, .slice A0_1 l0_1.length c0_1]) (t := 25) ?hr ?_; (case hd => rfl); (case hg => rfl); (case hr => (go_simp; done)); intro gb543 hg w14 hbox hb; have BK543 := Aside0.mk (hbox); have GW543 := Aside0.mk ((by rw [hg]; exact (below_size (bl HB)) : w.heap.size ≤ gb543)); have GE543 := Aside0.mk ((by rw [hg]; exact (below_size (bl HB)) : w.heap.size ≤ gb543)); replace HB := Aside0.mk (below_step (bl HB) hb); clear hb hbox hg; have hcz15_0 := bc w14 BK543 0 (.int .i64 a0_0) rfl; have hcz15_1 := bc w14 BK543 1 (.slice A0_1 l0_1.length c0_1) rfl; have hfz15_0 := fz BK543 0; have hfz15_1 := fz BK543 1) | ((with_reducible refine gate_callee (f := 106) rfl ?_); refine goesL_ (some 13) rfl rfl Try.func106 (by kernel_rfl) rfl #[.agg #[.int .i64 a0_0, .slice A0_1 l0_1.length c0_1], .int .i64 a2] rfl (by (try simp only [List.map_toArray, List.map_cons, List.map_nil]); rfl) ?_; (with_reducible refine (impl_Net_toward.calls k a0_0 _ _ l0_1 a2 t544 _ ?side1 ?side2 A4.out).mono ?_); (case side1 => repeat (exact (Kd.C_below HR0_1.out HB.out))); (case side2 => exact HC0_1.out); rintro e w16 ⟨v545, rfl, ho0, hb⟩; refine ⟨_, rfl, ?_⟩; have HO546 := Aside0.mk (Kd.R_lower ho0 (below_size (bl1 HB GE543))); replace BK543 := Aside0.mk (blk_below (bk BK543) hb); replace HB := Aside0.mk (below_step (bl1 HB GE543) hb); (try clear hb); (try clear hb2); (try clear hk); (try clear hi); (try clear ho0); obtain ⟨Ao17, co17, eo17⟩ := Kd.R_slice HO546.out; subst eo17; have p547 : 0 ≤ (a1 : Int) := oT (by (with_reducible assumption)); have q547 : a1 < (t544.length : Int) := oT (by (with_reducible assumption)); obtain ⟨ad547, e547, hx547_0, hx547_1⟩ := at_T108 (Kd.R_reads' HO546.out).2.2 a1 p547 q547; cases e547; replace p547 := eq_true p547; replace q547 := eq_true q547; have p548 : 0 ≤ (a1 : Int) := oT (by (with_reducible assumption)); have q548 : a1 < (t544.length : Int) := oT (by (with_reducible assumption)); obtain ⟨ad548, e548, hx548_0, hx548_1⟩ := at_T108 (Kd.R_reads' HO546.out).2.2 a1 p548 q548; obtain rfl : ad547 = ad548 := (by injection e548); replace p548 := eq_true p548; replace q548 := eq_true q548) | ((with_reducible refine gate_dst (N := 25) rfl ?_); refine Kd.R_make0 (Kd.int .i64) _ 3 rfl (N := 25) rfl 26 _ _ rfl ((rd_T108 t544 a1).f1) rfl rfl Try.underlying26 (.int .i64 0) 8 info3 (by decide) (ok := fun _ => True) trivial (oT (by (with_reducible assumption))) (Nat.le_trans (Nat.mul_le_mul_right _ (oT (by (with_reducible assumption)) : ((rd_T108 t544 a1).f1).toNat ≤ 35184372088832)) (by omega)) (Below.refl _ _) (Nat.le_refl _) ?_; intro v550 w18 ho19 hb hg_ hnew_; clear hg_ hnew_; (rw [← Ny549.out] at ho19); replace HO546 := Aside0.mk (Kd.R_below (rk HO546) hb); have HO551 := Aside0.mk (Kd.R_lower ho19 (below_size (bl1 HB GE543))); replace BK543 := Aside0.mk (blk_below (bk BK543) hb); replace HB := Aside0.mk (below_step (bl1 HB GE543) hb); clear hb ho19))
 go_loopg [1, 9] k (fun kq v1 v9 w' => ∃ (x1_1 : Int) (x9_1 : List Int), v1 = .int .i64 x1_1 ∧ Aside0 (impl_Net_best.l0 kq x1_1 a2 t544 x9_1 a0_0 l0_1 = some (r1, r2)) ∧ Aside0 (kq ≤ k) ∧ Aside0 (Kd.R k108 108 w' w.heap.size (fun _ => True) (.slice (some ad547) t544.length co17) t544) ∧ Aside0 (Kd.R (Kd.int .i64) 3 w' w.heap.size (fun _ => True) v9 x9_1) ∧ Aside0 (w'.heap[gb543]? = some (.cells #[.int .i64 a0_0, (.slice A0_1 l0_1.length c0_1)] 25 (0, 0))) ∧ Aside0 (Below w.heap.size w w'))
 case atStart => exact ⟨(a1), (y549), (by rfl), H', ⟨Nat.le_refl _⟩, ⟨rk HO546⟩, ⟨rk HO551⟩, ⟨bk BK543⟩, ⟨bl1 HB GE543⟩⟩
 clear H'
 try clear c1
 try clear p2
 try clear c5
 try clear c5b0
 try clear p5
 try clear q5
 try clear hx5
 try clear c6
 try clear c6b0
 try clear c7
 try clear c7b0
 try clear c7b1
 try clear c10
 try clear c12
 try clear c12b0
 try clear c12b1
 try clear c13
 try clear c13b0
 try clear c13b1
 try clear hcz15_0
 try clear hcz15_1
 try clear hcz9_0
 try clear hcz9_1
 try clear hfz15_0
 try clear hfz15_1
 try clear hfz9_0
 try clear hfz9_1
 try clear hx547_0
 try clear hx547_1
 try clear hx548_0
 try clear hx548_1
 try clear p547
 try clear p548
 try clear q547
 try clear q548
 obtain ⟨x1_1, x9_1, rfl, HA, HK1, HO_8, HO_9, BK543, HB⟩ := hrel
 cases gk with
 | zero => exact absurd HA.out (by simp [impl_Net_best.l0])
 | succ k1 =>
  have H := HA.out
  clear HA
  simp only [impl_Net_best.l0] at H
  by_cases c20 : x1_1 = a2
  ·rw [if_pos c20] at H
   have c20b0 : (x1_1 == a2) = true := beq_iff_eq.mpr c20
   have c20b1 : (x1_1 != a2) = false := bne_eq_false_iff_eq.mpr c20
   clear c20
   simp only [Option.some.injEq, Prod.mk.injEq] at H
   obtain ⟨rfl, rfl⟩ := H
   go_wp2
   go_ret2
   exact ⟨_, by rfl, rk HO_9, bl1 HB GE543⟩
  rw [if_neg c20] at H
  have c20b0 : (x1_1 == a2) = false := beq_eq_false_iff_ne.mpr c20
  have c20b1 : (x1_1 != a2) = true := bne_iff_ne.mpr c20
  replace H := Option.bind_eq_some_iff.mp H
  obtain ⟨t552, A210, H⟩ := H
  have A21 := Aside0.mk A210
  clear A210
  by_cases c22 : x9_1.length < 17592186044416
  rotate_left
  ·rw [if_neg c22] at H
   exact absurd H (by simp)
  rw [if_pos c22] at H
  have LMc22 := Aside0.mk c22
  clear c22
  obtain ⟨y553, hy553⟩ : ∃ y_ : List Int, y_ = (x9_1 ++ [t552]) := ⟨_, rfl⟩
  replace H : (if 0 ≤ t552 then (if t552 < (l0_1.length : Int) then (impl_Net_best.l0 k1 ((rd_T41 l0_1 t552).f1) a2 t544 y553 a0_0 l0_1) else (none)) else (none)) = some (r1, r2) := by (rw [hy553]; with_reducible exact H)
  have Ny553 := Aside0.mk hy553
  clear hy553
  by_cases c23 : 0 ≤ t552
  rotate_left
  ·rw [if_neg c23] at H
   exact absurd H (by simp)
  rw [if_pos c23] at H
  have c23b0 : decide (0 ≤ t552) = true := decide_eq_true c23
  clear c23
  by_cases c24 : t552 < (l0_1.length : Int)
  rotate_left
  ·rw [if_neg c24] at H
   exact absurd H (by simp)
  rw [if_pos c24] at H
  have c24b0 : decide (t552 < (l0_1.length : Int)) = true := decide_eq_true c24
  clear c24
  have H' := Aside0.mk H
  clear H
  have hcz25_0 := bc wr BK543 0 (.int .i64 a0_0) rfl
  have hcz25_1 := bc wr BK543 1 (.slice A0_1 l0_1.length c0_1) rfl
  have hfz25_0 := fz BK543 0
  have hfz25_1 := fz BK543 1
  go_wp2_with (first | ((with_reducible refine gate_callee (f := 111) rfl ?_); refine goesL_ (some 32) rfl rfl Try.func111 (by kernel_rfl) rfl #[.agg #[.int .i64 a0_0, .slice A0_1 l0_1.length c0_1], .slice (some ad547) t544.length co17, .int .i64 x1_1] rfl (by (try simp only [List.map_toArray, List.map_cons, List.map_nil]); rfl) ?_; (with_reducible refine (impl_Net_firstArc.calls a0_0 _ _ l0_1 _ _ t544 x1_1 t552 _ ?side1 ?side2 ?side3 ?side4 A21.out).mono ?_); (case side1 => repeat (exact (Kd.C_below HR0_1.out HB.out))); (case side2 => exact HC0_1.out); (case side3 => repeat (exact (Kd.R_reads' HO_8.out).2.2)); (case side4 => exact (Kd.R_reads' HO_8.out).2.1); rintro e w26 ⟨rfl, hb⟩; refine ⟨_, rfl, ?_⟩; replace HO_8 := Aside0.mk (Kd.R_below (rk HO_8) hb); replace HO_9 := Aside0.mk (Kd.R_below (rk HO_9) hb); replace BK543 := Aside0.mk (blk_below (bk BK543) hb); replace HB := Aside0.mk (below_step (bl1 HB GE543) hb); (try clear hb); (try clear hb2); (try clear hk); (try clear hi)) | ((with_reducible refine gate_builtin (b := .append) (xs := #[.tmp 33, .tmp 35]) rfl ?_); at_builtin; refine Kd.R_append (Kd.int .i64) (w0 := w) w.heap.size rfl (.tmp 33) (.tmp 35) 26 3 (.int .i64 0) 8 rfl Try.underlying26 info3 rfl (by decide) (by omega) u9 x9_1 t552 [.int .i64 t552] (fun _ => True) (fun _ => False) rfl rfl ?aP (fun _ hk => hk.elim) ?aF ?aO ?aB ?aS ?aL ?_; (case aP => exact rfl); (case aB => exact (bl1 HB GE543)); (case aF => exact (fun _ _ => trivial)); (case aO => exact (rk HO_9)); (case aS => exact (below_size (bl1 HB GE543))); (case aL => have := LMc22.out; omega); intro v554 w27 ho hb hg hat; rw [← Ny553.out] at ho; have n0_ := Aside0.mk (Kd.R_over' (rk HO_8) (Kd.R_typed (rk HO_9)) (by decide) hg); have n1_ := Aside0.mk (blk_grown (bk BK543) hg (Kd.R_ne HO_9.out BK543.out (by decide))); have n2_ := Aside0.mk (hb); have n3_ := Aside0.mk (ho); clear HO_8; clear BK543; clear HB; clear HO_9; have HO_8 := n0_; have BK543 := n1_; have HB := n2_; have HO555 := n3_; clear n0_ n1_ n2_ n3_; clear ho hb hg hat; have hcz28_0 := bc w27 BK543 0 (.int .i64 a0_0) rfl; have hcz28_1 := bc w27 BK543 1 (.slice A0_1 l0_1.length c0_1) rfl; have hfz28_0 := fz BK543 0; have hfz28_1 := fz BK543 1; have p556 : 0 ≤ (t552 : Int) := oT (by (with_reducible assumption)); have q556 : t552 < (l0_1.length : Int) := oT (by (with_reducible assumption)); obtain ⟨ad556, e556, hx556_0, hx556_1, hx556_2, hx556_3, hx556_4⟩ := at_T41 HR0_1.out t552 p556 q556; cases e556; replace hx556_0 := hcb HB.out hx556_0; replace hx556_1 := hcb HB.out hx556_1; replace hx556_2 := hcb HB.out hx556_2; replace hx556_3 := hcb HB.out hx556_3; replace hx556_4 := hcb HB.out hx556_4; replace p556 := eq_true p556; replace q556 := eq_true q556))
  go_roundg k1
  case measure => have := HK1.out; omega
  case rel => exact ⟨((rd_T41 l0_1 t552).f1), (y553), (by rfl), H', ⟨by have := HK1.out; omega⟩, ⟨rk HO_8⟩, ⟨rk HO555⟩, ⟨bk BK543⟩, ⟨bl1 HB GE543⟩⟩

end Go.Proofs.Ytgickejeakmenaa.F
