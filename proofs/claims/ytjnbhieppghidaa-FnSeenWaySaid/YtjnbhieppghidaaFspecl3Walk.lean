-- Printed by wip/px/px.py of this claim's repository (the kit's printer, extended there). Lean checks it.
import Derived.Test.YtjnbhieppghidaaFKinds
import Derived.Test.YtjnbhieppghidaaFspecl3All
import Derived.Test.YtjnbhieppghidaaFspecl1Back
import Derived.Test.YtjnbhieppghidaaFspecl3Steps
namespace Go.Proofs.Ytjnbhieppghidaa.F
open Go.RowKit Go.Proofs.YtjnbhieppghidaaW.PrintWords Go.Proofs.YtjnbhieppghidaaW.PrintLast Go.Proofs.YtjnbhieppghidaaW.PrintMore
attribute [local go_sem] max2_int min2_int max_two min_two max_three min_three max_four min_four   -- for this text's walks alone
set_option linter.unusedVariables false
set_option linter.unusedSimpArgs false

/-! ### spec_l3Walk: function 19 -/
mutual
def spec_l3Walk.l0 : Nat → Int → List Int → List Int → List Int → Int → Int → List (S60) → Option (List Int × Bool)
 | 0, _, _, _, _, _, _, _ => none
 | k + 1, x2, x8, x9, x10, x11, x292000, x292001 => if x11 = x2 then (some (x10, true)) else (spec_l3Walk.l1 k x2 x8 x9 x10 x11 0 x292000 x292001)
def spec_l3Walk.l1 : Nat → Int → List Int → List Int → List Int → Int → Int → Int → List (S60) → Option (List Int × Bool)
 | 0, _, _, _, _, _, _, _, _ => none
 | k + 1, x2, x8, x9, x10, x11, x12, x292000, x292001 => if x12 < (x292001.length : Int) then (if 0 ≤ x12 then (if ((rd_T60 x292001 x12).f0) = x11 then (if 0 ≤ ((rd_T60 x292001 x12).f1) then (if ((rd_T60 x292001 x12).f1) < (x8.length : Int) then (if (rd x8 ((rd_T60 x292001 x12).f1)) < 99999 then (if 0 ≤ x11 then (if x11 < (x8.length : Int) then (if (rd x8 x11) = (wrap64 (((rd_T60 x292001 x12).f2) + (rd x8 ((rd_T60 x292001 x12).f1)))) then (if x11 < (x9.length : Int) then (if ((rd_T60 x292001 x12).f1) < (x9.length : Int) then (if (rd x9 x11) = (wrap64 ((rd x9 ((rd_T60 x292001 x12).f1)) + 1)) then (if x10.length < 17592186044416 then (spec_l3Walk.l0 k x2 x8 x9 (x10 ++ [x12]) ((rd_T60 x292001 x12).f1) x292000 x292001) else (none)) else (spec_l3Walk.l1 k x2 x8 x9 x10 x11 (wrap64 (x12 + 1)) x292000 x292001)) else (none)) else (none)) else (spec_l3Walk.l1 k x2 x8 x9 x10 x11 (wrap64 (x12 + 1)) x292000 x292001)) else (none)) else (none)) else (spec_l3Walk.l1 k x2 x8 x9 x10 x11 (wrap64 (x12 + 1)) x292000 x292001)) else (none)) else (none)) else (spec_l3Walk.l1 k x2 x8 x9 x10 x11 (wrap64 (x12 + 1)) x292000 x292001)) else (none)) else (spec_l3Walk.l0 k x2 x8 x9 x10 x11 x292000 x292001)
end
def spec_l3Walk.f (k : Nat) (a0_0 : Int) (l0_1 : List (S60)) (a1 : Int) (a2 : Int) : Option (List Int × Bool) := (spec_l1Back.f k a0_0 l0_1).bind fun bt292 => ((spec_l3All.f k bt292.1 bt292.2 a2).bind fun t296 => ((spec_l3Steps.f k a0_0 l0_1 a2).bind fun t299 => ((some (([] : List Int) : List Int)).bind fun y302 => (if 0 ≤ a1 then (if a1 < (t296.length : Int) then (if (rd t296 a1) ≥ 99999 then (some (y302, false)) else (spec_l3Walk.l0 k a2 t296 t299 y302 a1 a0_0 l0_1)) else (none)) else (none)))))
theorem spec_l3Walk.mono_l : ∀ k, (∀ y0 y1 y2 y3 y4 y5 y6, LeO (spec_l3Walk.l0 k y0 y1 y2 y3 y4 y5 y6) (spec_l3Walk.l0 (k + 1) y0 y1 y2 y3 y4 y5 y6)) ∧ (∀ y0 y1 y2 y3 y4 y5 y6 y7, LeO (spec_l3Walk.l1 k y0 y1 y2 y3 y4 y5 y6 y7) (spec_l3Walk.l1 (k + 1) y0 y1 y2 y3 y4 y5 y6 y7))
 | 0 => ⟨fun _ _ _ _ _ _ _ r h => by simp [spec_l3Walk.l0] at h, fun _ _ _ _ _ _ _ _ r h => by simp [spec_l3Walk.l1] at h⟩
 | k + 1 => by
  obtain ⟨ih0, ih1⟩ := spec_l3Walk.mono_l k
  refine ⟨?_, ?_⟩
  ·intro y0 y1 y2 y3 y4 y5 y6
   unfold spec_l3Walk.l0
   repeat' first | (with_reducible exact ih1 _ _ _ _ _ _ _ _) | (with_reducible exact LeO.refl _) | (with_reducible refine LeO.ite ?_ ?_)
  ·intro y0 y1 y2 y3 y4 y5 y6 y7
   unfold spec_l3Walk.l1
   repeat' first | (with_reducible exact ih0 _ _ _ _ _ _ _) | (with_reducible exact ih1 _ _ _ _ _ _ _ _) | (with_reducible exact LeO.refl _) | (with_reducible refine LeO.ite ?_ ?_)
theorem spec_l3Walk.mono : ∀ a0 a1 a2 a3 k, LeO (spec_l3Walk.f k a0 a1 a2 a3) (spec_l3Walk.f (k + 1) a0 a1 a2 a3) := by
 intro a0 a1 a2 a3 k
 obtain ⟨ih0, ih1⟩ := spec_l3Walk.mono_l k
 unfold spec_l3Walk.f
 repeat' first | (with_reducible exact ih0 _ _ _ _ _ _ _) | (with_reducible exact spec_l1Back.mono _ _ _) | (with_reducible exact spec_l3All.mono _ _ _ _) | (with_reducible exact spec_l3Steps.mono _ _ _ _) | (with_reducible exact LeO.refl _) | (with_reducible refine LeO.ite ?_ ?_) | (with_reducible refine LeO.bind ?_ (fun _ => ?_))
set_option maxHeartbeats 8000000 in
set_option maxRecDepth 100000 in
theorem spec_l3Walk.calls (k : Nat) (a0_0 : Int) (A0_1 : Option Addr) (c0_1 : Nat) (l0_1 : List (S60)) (a1 : Int) (a2 : Int) (r1 : List Int) (r2 : Bool) (w : World) (hr0_1 : Kd.C k60 w A0_1 l0_1.length l0_1) (hc0_1 : l0_1.length ≤ c0_1) (h : spec_l3Walk.f k a0_0 l0_1 a1 a2 = some (r1, r2)) :
  Calls Try.prog 19 #[.agg #[.int .i64 a0_0, .slice A0_1 l0_1.length c0_1], .int .i64 a1, .int .i64 a2] w fun e w' => ∃ v0_ : Value, e = .returned (.tuple #[v0_, .bool r2]) ∧ Kd.R (Kd.int .i64) 3 w' w.heap.size (fun _ => True) v0_ r1 ∧ Below w.heap.size w w' := by
 have hu25 := Try.underlying25
 have hu60 := Try.underlying60
 have HR0_1 := ak hr0_1
 have HC0_1 := ak hc0_1
 clear hr0_1 hc0_1
 have HB := ak (Below.refl w.heap.size w)
 have H : ((spec_l1Back.f k a0_0 l0_1).bind fun bt292 => ((spec_l3All.f k bt292.1 bt292.2 a2).bind fun t296 => ((spec_l3Steps.f k a0_0 l0_1 a2).bind fun t299 => ((some (([] : List Int) : List Int)).bind fun y302 => (if 0 ≤ a1 then (if a1 < (t296.length : Int) then (if (rd t296 a1) ≥ 99999 then (some (y302, false)) else (spec_l3Walk.l0 k a2 t296 t299 y302 a1 a0_0 l0_1)) else (none)) else (none)))))) = some (r1, r2) := h
 clear h
 replace H := Option.bind_eq_some_iff.mp H
 obtain ⟨⟨t292, t293⟩, A40, H⟩ := H
 have A4 := ak A40
 clear A40
 replace H := Option.bind_eq_some_iff.mp H
 obtain ⟨t296, A50, H⟩ := H
 have A5 := ak A50
 clear A50
 replace H := Option.bind_eq_some_iff.mp H
 obtain ⟨t299, A60, H⟩ := H
 have A6 := ak A60
 clear A60
 obtain ⟨y302, hy302⟩ : ∃ y_ : List Int, y_ = (([] : List Int)) := ⟨_, rfl⟩
 replace H : (if 0 ≤ a1 then (if a1 < (t296.length : Int) then (if (rd t296 a1) ≥ 99999 then (some (y302, false)) else (spec_l3Walk.l0 k a2 t296 t299 y302 a1 a0_0 l0_1)) else (none)) else (none)) = some (r1, r2) := by (have H2_ := (Option.bind_some _ _).symm.trans H; rw [hy302]; with_reducible exact H2_)
 have Ny302 := ak hy302
 clear hy302
 by_cases c7 : 0 ≤ a1
 rotate_left
 ·rw [if_neg c7] at H
  exact absurd H (by simp)
 rw [if_pos c7] at H
 have c7b0 : decide (0 ≤ a1) = true := decide_eq_true c7
 clear c7
 by_cases c8 : a1 < (t296.length : Int)
 rotate_left
 ·rw [if_neg c8] at H
  exact absurd H (by simp)
 rw [if_pos c8] at H
 have c8b0 : decide (a1 < (t296.length : Int)) = true := decide_eq_true c8
 clear c8
 by_cases c9 : (rd t296 a1) ≥ 99999
 ·rw [if_pos c9] at H
  have c9b0 : decide (99999 ≤ (rd t296 a1)) = true := decide_eq_true c9
  clear c9
  simp only [Option.some.injEq, Prod.mk.injEq] at H
  obtain ⟨rfl, rfl⟩ := H
  go_enter Try.func19, Try.ntmps19
  go_wp2_with (first | ((with_reducible refine gate_dst (N := 3) rfl ?_); refine box_event ?hg (N := 3) ?hd (cs := #[.int .i64 a0_0, .slice A0_1 l0_1.length c0_1]) (t := 25) ?hr ?_; (case hd => rfl); (case hg => rfl); (case hr => (go_simp; done)); intro gb291 hg w10 hbox hb; have BK291 := ak (hbox); have GW291 := ak ((by rw [hg]; exact (below_size (bl HB)) : w.heap.size ≤ gb291)); have GE291 := ak ((by rw [hg]; exact (below_size (bl HB)) : w.heap.size ≤ gb291)); replace HB := ak (below_step (bl HB) hb); clear hb hbox hg; have hcz11_0 := bc w10 BK291 0 (.int .i64 a0_0) rfl; have hcz11_1 := bc w10 BK291 1 (.slice A0_1 l0_1.length c0_1) rfl; have hfz11_0 := fz BK291 0; have hfz11_1 := fz BK291 1) | (go_at_call 38; (with_reducible refine (spec_l1Back.calls k a0_0 _ _ l0_1 t292 t293 _ ?side1 ?side2 A4.out).mono ?_); (case side1 => repeat (exact (Kd.C_below HR0_1.out HB.out))); (case side2 => exact HC0_1.out); rintro e w12 ⟨v294, rfl, ho0, hb⟩; have n0_ := ak (Kd.R_lower ho0 (below_size (bl1 HB GE291))); have n1_ := ak (blk_below (bk BK291) hb); have n2_ := ak (below_step (bl1 HB GE291) hb); clear BK291; clear HB; have HO295 := n0_; have BK291 := n1_; have HB := n2_; clear n0_ n1_ n2_; (try clear hb); (try clear hb2); (try clear hk); (try clear hi); (try clear ho0); obtain ⟨Ao13, co13, eo13⟩ := Kd.R_slice HO295.out; subst eo13) | (go_at_call 37; (with_reducible refine (spec_l3All.calls k t292 _ _ t293 a2 t296 _ ?side1 ?side2 A5.out).mono ?_); (case side1 => repeat (exact (Kd.R_reads' HO295.out).2.2)); (case side2 => exact (Kd.R_reads' HO295.out).2.1); rintro e w14 ⟨v297, rfl, ho0, hb⟩; have n0_ := ak (Kd.R_below (rk HO295) hb); have n1_ := ak (Kd.R_lower ho0 (below_size (bl1 HB GE291))); have n2_ := ak (blk_below (bk BK291) hb); have n3_ := ak (below_step (bl1 HB GE291) hb); clear HO295; clear BK291; clear HB; have HO295 := n0_; have HO298 := n1_; have BK291 := n2_; have HB := n3_; clear n0_ n1_ n2_ n3_; (try clear hb); (try clear hb2); (try clear hk); (try clear hi); (try clear ho0); have hcz15_0 := bc w14 BK291 0 (.int .i64 a0_0) rfl; have hcz15_1 := bc w14 BK291 1 (.slice A0_1 l0_1.length c0_1) rfl; have hfz15_0 := fz BK291 0; have hfz15_1 := fz BK291 1) | (go_at_call 39; (with_reducible refine (spec_l3Steps.calls k a0_0 _ _ l0_1 a2 t299 _ ?side1 ?side2 A6.out).mono ?_); (case side1 => repeat (exact (Kd.C_below HR0_1.out HB.out))); (case side2 => exact HC0_1.out); rintro e w16 ⟨v300, rfl, ho0, hb⟩; have n0_ := ak (Kd.R_below (rk HO295) hb); have n1_ := ak (Kd.R_elder' (rk HO298) (Kd.R_base ho0) hb); have n2_ := ak (Kd.R_lower (Kd.R_new' ho0 (Kd.R_lt (rk HO298))) (below_size (bl1 HB GE291))); have n3_ := ak (blk_below (bk BK291) hb); have n4_ := ak (below_step (bl1 HB GE291) hb); clear HO295; clear HO298; clear BK291; clear HB; have HO295 := n0_; have HO298 := n1_; have HO301 := n2_; have BK291 := n3_; have HB := n4_; clear n0_ n1_ n2_ n3_ n4_; (try clear hb); (try clear hb2); (try clear hk); (try clear hi); (try clear ho0)) | ((with_reducible refine gate_dst (N := 21) rfl ?_); refine Kd.R_lit (Kd.int .i64) _ 3 ?hg (N := 21) ?hd (xs := ([] : List Int)) (inner := []) (ok := fun _ => True) (okp := fun _ => True) ?hr ?hp (fun _ hk => hk) trivial (Below.refl _ _) (Nat.le_refl _) (by simp) ?_; (case hd => rfl); (case hg => rfl); (case hr => (go_simp; done)); (case hp => exact (Reps.none _ _)); intro v303 w17 ho18 hb hg_ hnew_; clear hg_ hnew_; (rw [← Ny302.out] at ho18); replace HO295 := ak (Kd.R_below (rk HO295) hb); have HO304 := ak (Kd.R_lower (Kd.R_new' (Kd.R_new' ho18 (Kd.R_lt (rk HO298))) (Kd.R_lt (rk HO301))) (below_size (bl1 HB GE291))); replace HO298 := ak (Kd.R_elder' (rk HO298) (Kd.R_base ho18) hb); replace HO301 := ak (Kd.R_elder' (rk HO301) (Kd.R_base ho18) hb); replace BK291 := ak (blk_below (bk BK291) hb); replace HB := ak (below_step (bl1 HB GE291) hb); clear hb ho18; obtain ⟨Ao19, co19, eo19⟩ := Kd.R_slice HO298.out; subst eo19; have p305 : 0 ≤ (a1 : Int) := oT (by (with_reducible assumption)); have q305 : a1 < (t296.length : Int) := oT (by (with_reducible assumption)); obtain ⟨ad305, e305, hx305_0⟩ := Kd.at_int (Kd.R_reads' HO298.out).2.2 a1 p305 q305; cases e305; replace p305 := eq_true p305; replace q305 := eq_true q305) | go_step)
  go_ret2
  exact ⟨_, by rfl, by exact Kd.R_mono HO304.out (fun _ hk => trivial), bl1 HB GE291⟩
 rw [if_neg c9] at H
 have c9b0 : decide (99999 ≤ (rd t296 a1)) = false := decide_eq_false c9
 clear c9
 have H' := ak H
 clear H
 go_enter Try.func19, Try.ntmps19
 go_wp2_with (first | ((with_reducible refine gate_dst (N := 3) rfl ?_); refine box_event ?hg (N := 3) ?hd (cs := #[.int .i64 a0_0, .slice A0_1 l0_1.length c0_1]) (t := 25) ?hr ?_; (case hd => rfl); (case hg => rfl); (case hr => (go_simp; done)); intro gb291 hg w20 hbox hb; have BK291 := ak (hbox); have GW291 := ak ((by rw [hg]; exact (below_size (bl HB)) : w.heap.size ≤ gb291)); have GE291 := ak ((by rw [hg]; exact (below_size (bl HB)) : w.heap.size ≤ gb291)); replace HB := ak (below_step (bl HB) hb); clear hb hbox hg; have hcz21_0 := bc w20 BK291 0 (.int .i64 a0_0) rfl; have hcz21_1 := bc w20 BK291 1 (.slice A0_1 l0_1.length c0_1) rfl; have hfz21_0 := fz BK291 0; have hfz21_1 := fz BK291 1) | (go_at_call 38; (with_reducible refine (spec_l1Back.calls k a0_0 _ _ l0_1 t292 t293 _ ?side1 ?side2 A4.out).mono ?_); (case side1 => repeat (exact (Kd.C_below HR0_1.out HB.out))); (case side2 => exact HC0_1.out); rintro e w22 ⟨v294, rfl, ho0, hb⟩; have n0_ := ak (Kd.R_lower ho0 (below_size (bl1 HB GE291))); have n1_ := ak (blk_below (bk BK291) hb); have n2_ := ak (below_step (bl1 HB GE291) hb); clear BK291; clear HB; have HO295 := n0_; have BK291 := n1_; have HB := n2_; clear n0_ n1_ n2_; (try clear hb); (try clear hb2); (try clear hk); (try clear hi); (try clear ho0); obtain ⟨Ao23, co23, eo23⟩ := Kd.R_slice HO295.out; subst eo23) | (go_at_call 37; (with_reducible refine (spec_l3All.calls k t292 _ _ t293 a2 t296 _ ?side1 ?side2 A5.out).mono ?_); (case side1 => repeat (exact (Kd.R_reads' HO295.out).2.2)); (case side2 => exact (Kd.R_reads' HO295.out).2.1); rintro e w24 ⟨v297, rfl, ho0, hb⟩; have n0_ := ak (Kd.R_below (rk HO295) hb); have n1_ := ak (Kd.R_lower ho0 (below_size (bl1 HB GE291))); have n2_ := ak (blk_below (bk BK291) hb); have n3_ := ak (below_step (bl1 HB GE291) hb); clear HO295; clear BK291; clear HB; have HO295 := n0_; have HO298 := n1_; have BK291 := n2_; have HB := n3_; clear n0_ n1_ n2_ n3_; (try clear hb); (try clear hb2); (try clear hk); (try clear hi); (try clear ho0); have hcz25_0 := bc w24 BK291 0 (.int .i64 a0_0) rfl; have hcz25_1 := bc w24 BK291 1 (.slice A0_1 l0_1.length c0_1) rfl; have hfz25_0 := fz BK291 0; have hfz25_1 := fz BK291 1) | (go_at_call 39; (with_reducible refine (spec_l3Steps.calls k a0_0 _ _ l0_1 a2 t299 _ ?side1 ?side2 A6.out).mono ?_); (case side1 => repeat (exact (Kd.C_below HR0_1.out HB.out))); (case side2 => exact HC0_1.out); rintro e w26 ⟨v300, rfl, ho0, hb⟩; have n0_ := ak (Kd.R_below (rk HO295) hb); have n1_ := ak (Kd.R_elder' (rk HO298) (Kd.R_base ho0) hb); have n2_ := ak (Kd.R_lower (Kd.R_new' ho0 (Kd.R_lt (rk HO298))) (below_size (bl1 HB GE291))); have n3_ := ak (blk_below (bk BK291) hb); have n4_ := ak (below_step (bl1 HB GE291) hb); clear HO295; clear HO298; clear BK291; clear HB; have HO295 := n0_; have HO298 := n1_; have HO301 := n2_; have BK291 := n3_; have HB := n4_; clear n0_ n1_ n2_ n3_ n4_; (try clear hb); (try clear hb2); (try clear hk); (try clear hi); (try clear ho0)) | ((with_reducible refine gate_dst (N := 21) rfl ?_); refine Kd.R_lit (Kd.int .i64) _ 3 ?hg (N := 21) ?hd (xs := ([] : List Int)) (inner := []) (ok := fun _ => True) (okp := fun _ => True) ?hr ?hp (fun _ hk => hk) trivial (Below.refl _ _) (Nat.le_refl _) (by simp) ?_; (case hd => rfl); (case hg => rfl); (case hr => (go_simp; done)); (case hp => exact (Reps.none _ _)); intro v303 w27 ho28 hb hg_ hnew_; clear hg_ hnew_; (rw [← Ny302.out] at ho28); replace HO295 := ak (Kd.R_below (rk HO295) hb); have HO304 := ak (Kd.R_lower (Kd.R_new' (Kd.R_new' ho28 (Kd.R_lt (rk HO298))) (Kd.R_lt (rk HO301))) (below_size (bl1 HB GE291))); replace HO298 := ak (Kd.R_elder' (rk HO298) (Kd.R_base ho28) hb); replace HO301 := ak (Kd.R_elder' (rk HO301) (Kd.R_base ho28) hb); replace BK291 := ak (blk_below (bk BK291) hb); replace HB := ak (below_step (bl1 HB GE291) hb); clear hb ho28; obtain ⟨Ao29, co29, eo29⟩ := Kd.R_slice HO298.out; subst eo29; have p305 : 0 ≤ (a1 : Int) := oT (by (with_reducible assumption)); have q305 : a1 < (t296.length : Int) := oT (by (with_reducible assumption)); obtain ⟨ad305, e305, hx305_0⟩ := Kd.at_int (Kd.R_reads' HO298.out).2.2 a1 p305 q305; cases e305; replace p305 := eq_true p305; replace q305 := eq_true q305) | go_step)
 go_loopg [10, 11] k (fun kq v10 v11 w' => ∃ (x10_1 : List Int) (x11_1 : Int), v11 = .int .i64 x11_1 ∧ Aside0 (spec_l3Walk.l0 kq a2 t296 t299 x10_1 x11_1 a0_0 l0_1 = some (r1, r2)) ∧ Aside0 (kq ≤ k) ∧ Aside0 (Kd.R (Kd.int .i64) 3 w' w.heap.size (fun k_ => some k_ ≠ (v300 : Value).ownBlock ∧ some k_ ≠ (v10 : Value).ownBlock) (.slice (some ad305) t296.length co29) t296) ∧ Aside0 (Kd.R (Kd.int .i64) 3 w' w.heap.size (fun k_ => some k_ ≠ ((.slice (some ad305) t296.length co29) : Value).ownBlock ∧ some k_ ≠ (v10 : Value).ownBlock) v300 t299) ∧ Aside0 (Kd.R (Kd.int .i64) 3 w' w.heap.size (fun k_ => some k_ ≠ ((.slice (some ad305) t296.length co29) : Value).ownBlock ∧ some k_ ≠ (v300 : Value).ownBlock) v10 x10_1) ∧ Aside0 (w'.heap[gb291]? = some (.cells #[.int .i64 a0_0, (.slice A0_1 l0_1.length c0_1)] 25 (0, 0))) ∧ Aside0 (Below w.heap.size w w'))
 case atStart => exact ⟨(y302), (a1), (by rfl), H', ⟨Nat.le_refl _⟩, ⟨by exact Kd.R_mono HO298.out (fun _ hk => ⟨hk.1.2, hk.2⟩)⟩, ⟨by exact Kd.R_mono HO301.out (fun _ hk => ⟨hk.1.2, hk.2⟩)⟩, ⟨by exact Kd.R_mono HO304.out (fun _ hk => ⟨hk.1.2, hk.2⟩)⟩, ⟨bk BK291⟩, ⟨bl1 HB GE291⟩⟩
 clear H'
 try clear c1
 try clear p2
 try clear p3
 try clear q3
 try clear hx3
 try clear c7
 try clear c7b0
 try clear c8
 try clear c8b0
 try clear c9
 try clear c9b0
 try clear c19
 try clear hcz11_0
 try clear hcz11_1
 try clear hcz15_0
 try clear hcz15_1
 try clear hcz21_0
 try clear hcz21_1
 try clear hcz25_0
 try clear hcz25_1
 try clear hfz11_0
 try clear hfz11_1
 try clear hfz15_0
 try clear hfz15_1
 try clear hfz21_0
 try clear hfz21_1
 try clear hfz25_0
 try clear hfz25_1
 try clear hx305_0
 try clear p305
 try clear q305
 obtain ⟨x10_1, x11_1, rfl, HA, HK1, HO_8, HO_9, HO_10, BK291, HB⟩ := hrel
 cases gk with
 | zero => exact absurd HA.out (by simp [spec_l3Walk.l0])
 | succ k1 =>
  have H := HA.out
  clear HA
  simp only [spec_l3Walk.l0] at H
  by_cases c30 : x11_1 = a2
  ·rw [if_pos c30] at H
   have c30b0 : (x11_1 == a2) = true := beq_iff_eq.mpr c30
   have c30b1 : (x11_1 != a2) = false := bne_eq_false_iff_eq.mpr c30
   clear c30
   simp only [Option.some.injEq, Prod.mk.injEq] at H
   obtain ⟨rfl, rfl⟩ := H
   go_wp2
   repeat (go_quiet (fail); try go_wp2)
   go_ret2
   exact ⟨_, by rfl, by exact Kd.R_mono HO_10.out (fun _ hk => trivial), bl1 HB GE291⟩
  rw [if_neg c30] at H
  have c30b0 : (x11_1 == a2) = false := beq_eq_false_iff_ne.mpr c30
  have c30b1 : (x11_1 != a2) = true := bne_iff_ne.mpr c30
  have H' := ak H
  clear H
  go_wp2
  repeat (go_quiet (fail); try go_wp2)
  go_loopg [10, 11, 12] k1 (fun kq v10 v11 v12 w' => ∃ (x10_2 : List Int) (x11_2 : Int) (x12_2 : Int), v11 = .int .i64 x11_2 ∧ v12 = .int .i64 x12_2 ∧ Aside0 (spec_l3Walk.l1 kq a2 t296 t299 x10_2 x11_2 x12_2 a0_0 l0_1 = some (r1, r2)) ∧ Aside0 (kq ≤ k1) ∧ Aside0 (Kd.R (Kd.int .i64) 3 w' w.heap.size (fun k_ => some k_ ≠ (v300 : Value).ownBlock ∧ some k_ ≠ (v10 : Value).ownBlock) (.slice (some ad305) t296.length co29) t296) ∧ Aside0 (Kd.R (Kd.int .i64) 3 w' w.heap.size (fun k_ => some k_ ≠ ((.slice (some ad305) t296.length co29) : Value).ownBlock ∧ some k_ ≠ (v10 : Value).ownBlock) v300 t299) ∧ Aside0 (Kd.R (Kd.int .i64) 3 w' w.heap.size (fun k_ => some k_ ≠ ((.slice (some ad305) t296.length co29) : Value).ownBlock ∧ some k_ ≠ (v300 : Value).ownBlock) v10 x10_2) ∧ Aside0 (w'.heap[gb291]? = some (.cells #[.int .i64 a0_0, (.slice A0_1 l0_1.length c0_1)] 25 (0, 0))) ∧ Aside0 (Below w.heap.size w w'))
  case atStart => exact ⟨(x10_1), (x11_1), (0), (by rfl), (by rfl), H', ⟨Nat.le_refl _⟩, ⟨rk HO_8⟩, ⟨rk HO_9⟩, ⟨rk HO_10⟩, ⟨bk BK291⟩, ⟨bl1 HB GE291⟩⟩
  clear H'
  try clear c1
  try clear p2
  try clear c3
  try clear p3
  try clear q3
  try clear hx3
  try clear c7
  try clear c7b0
  try clear c8
  try clear c8b0
  try clear c9
  try clear c9b0
  try clear c19
  try clear c30
  try clear c30b0
  try clear c30b1
  try clear p30
  try clear q30
  try clear hx30
  try clear hcz11_0
  try clear hcz11_1
  try clear hcz15_0
  try clear hcz15_1
  try clear hcz21_0
  try clear hcz21_1
  try clear hcz25_0
  try clear hcz25_1
  try clear hfz11_0
  try clear hfz11_1
  try clear hfz15_0
  try clear hfz15_1
  try clear hfz21_0
  try clear hfz21_1
  try clear hfz25_0
  try clear hfz25_1
  try clear hx305_0
  try clear p2
  try clear p3
  try clear p305
  try clear q3
  try clear q305
  obtain ⟨x10_2, x11_2, x12_2, rfl, rfl, HA, HK2, HO_8, HO_9, HO_10, BK291, HB⟩ := hrel
  cases gk with
  | zero => exact absurd HA.out (by simp [spec_l3Walk.l1])
  | succ k2 =>
   have H := HA.out
   clear HA
   simp only [spec_l3Walk.l1] at H
   by_cases c31 : x12_2 < (l0_1.length : Int)
   rotate_left
   ·rw [if_neg c31] at H
    have c31b0 : decide (x12_2 < (l0_1.length : Int)) = false := decide_eq_false c31
    clear c31
    have H' := ak H
    clear H
    have hcz68_0 := bc wr BK291 0 (.int .i64 a0_0) rfl
    have hcz68_1 := bc wr BK291 1 (.slice A0_1 l0_1.length c0_1) rfl
    have hfz68_0 := fz BK291 0
    have hfz68_1 := fz BK291 1
    go_wp2
    repeat (go_quiet (fail); try go_wp2)
    go_roundg k2
    case measure => have := HK1.out; have := HK2.out; omega
    case rel => exact ⟨(x10_2), (x11_2), (by rfl), H', ⟨by have := HK1.out; have := HK2.out; omega⟩, ⟨rk HO_8⟩, ⟨rk HO_9⟩, ⟨rk HO_10⟩, ⟨bk BK291⟩, ⟨bl1 HB GE291⟩⟩
   rw [if_pos c31] at H
   have c31b0 : decide (x12_2 < (l0_1.length : Int)) = true := decide_eq_true c31
   clear c31
   by_cases c32 : 0 ≤ x12_2
   rotate_left
   ·rw [if_neg c32] at H
    exact absurd H (by simp)
   rw [if_pos c32] at H
   have c32b0 : decide (0 ≤ x12_2) = true := decide_eq_true c32
   clear c32
   by_cases c33 : ((rd_T60 l0_1 x12_2).f0) = x11_2
   rotate_left
   ·rw [if_neg c33] at H
    have c33b0 : (((rd_T60 l0_1 x12_2).f0) == x11_2) = false := beq_eq_false_iff_ne.mpr c33
    have c33b1 : (((rd_T60 l0_1 x12_2).f0) != x11_2) = true := bne_iff_ne.mpr c33
    have H' := ak H
    clear H
    have hcz64_0 := bc wr BK291 0 (.int .i64 a0_0) rfl
    have hcz64_1 := bc wr BK291 1 (.slice A0_1 l0_1.length c0_1) rfl
    have hfz64_0 := fz BK291 0
    have hfz64_1 := fz BK291 1
    have p306 : 0 ≤ (x12_2 : Int) := oT (by (with_reducible assumption))
    have q306 : x12_2 < (l0_1.length : Int) := oT (by (with_reducible assumption))
    obtain ⟨ad306, e306, hx306_0, hx306_1, hx306_2, hx306_3, hx306_4⟩ := at_T60 HR0_1.out x12_2 p306 q306
    cases e306
    replace hx306_0 := hcb HB.out hx306_0
    replace hx306_1 := hcb HB.out hx306_1
    replace hx306_2 := hcb HB.out hx306_2
    replace hx306_3 := hcb HB.out hx306_3
    replace hx306_4 := hcb HB.out hx306_4
    replace p306 := eq_true p306
    replace q306 := eq_true q306
    go_wp2_with (first | ((with_reducible refine gate_dst (N := 13) rfl ?_); refine box_event ?hg (N := 13) ?hd (cs := #[.int .i64 0, .int .i64 0, .int .i64 0, .int .i64 0, .int .i64 0]) (t := 60) ?hr ?_; (case hd => rfl); (case hg => rfl); (case hr => (go_simp; done)); intro gb307 hg w65 hbox hb; replace HO_8 := ak (Kd.R_below (rk HO_8) hb); replace HO_9 := ak (Kd.R_below (rk HO_9) hb); replace HO_10 := ak (Kd.R_below (rk HO_10) hb); have BK307 := ak (hbox); have GW307 := ak ((by rw [hg]; exact (below_size (bl1 HB GE291)) : w.heap.size ≤ gb307)); have GE307 := ak ((by rw [hg]; exact (below_size (bl1 HB GE291)) : w.heap.size ≤ gb307)); replace HB := ak (below_step (bl1 HB GE291) hb); have NB291_307 := ak ((by rw [hg]; exact Nat.ne_of_lt (blk_lt (bk BK291)) : gb291 ≠ gb307)); have NB307_291 := ak ((by rw [hg]; exact Nat.ne_of_gt (blk_lt (bk BK291)) : gb307 ≠ gb291)); replace BK291 := ak (blk_below (bk BK291) hb); clear hb hbox hg; have hnb66 := NB307_291.out; have hnc66 := NB291_307.out; have hcz67_0 := bc w65 BK307 0 (.int .i64 0) rfl; have hcz67_1 := bc w65 BK307 1 (.int .i64 0) rfl; have hcz67_2 := bc w65 BK307 2 (.int .i64 0) rfl; have hcz67_3 := bc w65 BK307 3 (.int .i64 0) rfl; have hcz67_4 := bc w65 BK307 4 (.int .i64 0) rfl; have hfz67_0 := fz BK307 0; have hfz67_1 := fz BK307 1; have hfz67_2 := fz BK307 2; have hfz67_3 := fz BK307 3; have hfz67_4 := fz BK307 4) | go_step | go_quiet (fail))
    go_roundg k2
    case measure => have := HK1.out; have := HK2.out; omega
    case rel => exact ⟨(x10_2), (x11_2), (wrap64 (x12_2 + 1)), (by rfl), (by rfl), H', ⟨by have := HK1.out; have := HK2.out; omega⟩, ⟨by (with_reducible repeat (apply Kd.R_drewN)); exact Kd.R_mono (Kd.R_far (p := ⟨gb307, 4, none⟩) (Kd.R_far (p := ⟨gb307, 3, none⟩) (Kd.R_far (p := ⟨gb307, 2, none⟩) (Kd.R_far (p := ⟨gb307, 1, none⟩) (Kd.R_far (p := ⟨gb307, 0, none⟩) (Kd.R_types HO_8.out BK307.out (by decide)) (fun _ hk => hk.2) (.int .i64 ((rd_T60 l0_1 x12_2).f0))) (fun _ hk => hk.2) (.int .i64 ((rd_T60 l0_1 x12_2).f1))) (fun _ hk => hk.2) (.int .i64 ((rd_T60 l0_1 x12_2).f2))) (fun _ hk => hk.2) (.int .i64 ((rd_T60 l0_1 x12_2).f3))) (fun _ hk => hk.2) (.int .i64 ((rd_T60 l0_1 x12_2).f4))) (fun _ hk => ⟨hk.1.1, hk.1.2⟩)⟩, ⟨by (with_reducible repeat (apply Kd.R_drewN)); exact Kd.R_mono (Kd.R_far (p := ⟨gb307, 4, none⟩) (Kd.R_far (p := ⟨gb307, 3, none⟩) (Kd.R_far (p := ⟨gb307, 2, none⟩) (Kd.R_far (p := ⟨gb307, 1, none⟩) (Kd.R_far (p := ⟨gb307, 0, none⟩) (Kd.R_types HO_9.out BK307.out (by decide)) (fun _ hk => hk.2) (.int .i64 ((rd_T60 l0_1 x12_2).f0))) (fun _ hk => hk.2) (.int .i64 ((rd_T60 l0_1 x12_2).f1))) (fun _ hk => hk.2) (.int .i64 ((rd_T60 l0_1 x12_2).f2))) (fun _ hk => hk.2) (.int .i64 ((rd_T60 l0_1 x12_2).f3))) (fun _ hk => hk.2) (.int .i64 ((rd_T60 l0_1 x12_2).f4))) (fun _ hk => ⟨hk.1.1, hk.1.2⟩)⟩, ⟨by (with_reducible repeat (apply Kd.R_drewN)); exact Kd.R_mono (Kd.R_far (p := ⟨gb307, 4, none⟩) (Kd.R_far (p := ⟨gb307, 3, none⟩) (Kd.R_far (p := ⟨gb307, 2, none⟩) (Kd.R_far (p := ⟨gb307, 1, none⟩) (Kd.R_far (p := ⟨gb307, 0, none⟩) (Kd.R_types HO_10.out BK307.out (by decide)) (fun _ hk => hk.2) (.int .i64 ((rd_T60 l0_1 x12_2).f0))) (fun _ hk => hk.2) (.int .i64 ((rd_T60 l0_1 x12_2).f1))) (fun _ hk => hk.2) (.int .i64 ((rd_T60 l0_1 x12_2).f2))) (fun _ hk => hk.2) (.int .i64 ((rd_T60 l0_1 x12_2).f3))) (fun _ hk => hk.2) (.int .i64 ((rd_T60 l0_1 x12_2).f4))) (fun _ hk => ⟨hk.1.1, hk.1.2⟩)⟩, ⟨by (with_reducible repeat (refine blk_drewN ?_ _)); refine blk_far ?_ NB291_307.out _; refine blk_far ?_ NB291_307.out _; refine blk_far ?_ NB291_307.out _; refine blk_far ?_ NB291_307.out _; refine blk_far ?_ NB291_307.out _; exact BK291.out⟩, ⟨bl2 HB GE291 GE307⟩⟩
   rw [if_pos c33] at H
   have c33b0 : (((rd_T60 l0_1 x12_2).f0) == x11_2) = true := beq_iff_eq.mpr c33
   have c33b1 : (((rd_T60 l0_1 x12_2).f0) != x11_2) = false := bne_eq_false_iff_eq.mpr c33
   clear c33
   by_cases c34 : 0 ≤ ((rd_T60 l0_1 x12_2).f1)
   rotate_left
   ·rw [if_neg c34] at H
    exact absurd H (by simp)
   rw [if_pos c34] at H
   have c34b0 : decide (0 ≤ ((rd_T60 l0_1 x12_2).f1)) = true := decide_eq_true c34
   clear c34
   by_cases c35 : ((rd_T60 l0_1 x12_2).f1) < (t296.length : Int)
   rotate_left
   ·rw [if_neg c35] at H
    exact absurd H (by simp)
   rw [if_pos c35] at H
   have c35b0 : decide (((rd_T60 l0_1 x12_2).f1) < (t296.length : Int)) = true := decide_eq_true c35
   clear c35
   by_cases c36 : (rd t296 ((rd_T60 l0_1 x12_2).f1)) < 99999
   rotate_left
   ·rw [if_neg c36] at H
    have c36b0 : decide ((rd t296 ((rd_T60 l0_1 x12_2).f1)) < 99999) = false := decide_eq_false c36
    clear c36
    have H' := ak H
    clear H
    have hcz60_0 := bc wr BK291 0 (.int .i64 a0_0) rfl
    have hcz60_1 := bc wr BK291 1 (.slice A0_1 l0_1.length c0_1) rfl
    have hfz60_0 := fz BK291 0
    have hfz60_1 := fz BK291 1
    have p306 : 0 ≤ (x12_2 : Int) := oT (by (with_reducible assumption))
    have q306 : x12_2 < (l0_1.length : Int) := oT (by (with_reducible assumption))
    obtain ⟨ad306, e306, hx306_0, hx306_1, hx306_2, hx306_3, hx306_4⟩ := at_T60 HR0_1.out x12_2 p306 q306
    cases e306
    replace hx306_0 := hcb HB.out hx306_0
    replace hx306_1 := hcb HB.out hx306_1
    replace hx306_2 := hcb HB.out hx306_2
    replace hx306_3 := hcb HB.out hx306_3
    replace hx306_4 := hcb HB.out hx306_4
    replace p306 := eq_true p306
    replace q306 := eq_true q306
    go_wp2_with (first | ((with_reducible refine gate_dst (N := 13) rfl ?_); refine box_event ?hg (N := 13) ?hd (cs := #[.int .i64 0, .int .i64 0, .int .i64 0, .int .i64 0, .int .i64 0]) (t := 60) ?hr ?_; (case hd => rfl); (case hg => rfl); (case hr => (go_simp; done)); intro gb307 hg w61 hbox hb; replace HO_8 := ak (Kd.R_below (rk HO_8) hb); replace HO_9 := ak (Kd.R_below (rk HO_9) hb); replace HO_10 := ak (Kd.R_below (rk HO_10) hb); have BK307 := ak (hbox); have GW307 := ak ((by rw [hg]; exact (below_size (bl1 HB GE291)) : w.heap.size ≤ gb307)); have GE307 := ak ((by rw [hg]; exact (below_size (bl1 HB GE291)) : w.heap.size ≤ gb307)); replace HB := ak (below_step (bl1 HB GE291) hb); have NB291_307 := ak ((by rw [hg]; exact Nat.ne_of_lt (blk_lt (bk BK291)) : gb291 ≠ gb307)); have NB307_291 := ak ((by rw [hg]; exact Nat.ne_of_gt (blk_lt (bk BK291)) : gb307 ≠ gb291)); replace BK291 := ak (blk_below (bk BK291) hb); clear hb hbox hg; have hnb62 := NB307_291.out; have hnc62 := NB291_307.out; have hcz63_0 := bc w61 BK307 0 (.int .i64 0) rfl; have hcz63_1 := bc w61 BK307 1 (.int .i64 0) rfl; have hcz63_2 := bc w61 BK307 2 (.int .i64 0) rfl; have hcz63_3 := bc w61 BK307 3 (.int .i64 0) rfl; have hcz63_4 := bc w61 BK307 4 (.int .i64 0) rfl; have hfz63_0 := fz BK307 0; have hfz63_1 := fz BK307 1; have hfz63_2 := fz BK307 2; have hfz63_3 := fz BK307 3; have hfz63_4 := fz BK307 4; have p308 : 0 ≤ (((rd_T60 l0_1 x12_2).f1) : Int) := oT (by (with_reducible assumption)); have q308 : ((rd_T60 l0_1 x12_2).f1) < (t296.length : Int) := oT (by (with_reducible assumption)); obtain ⟨ad308, e308, hx308_0⟩ := Kd.at_int (Kd.R_reads' HO_8.out).2.2 ((rd_T60 l0_1 x12_2).f1) p308 q308; obtain rfl : ad305 = ad308 := (by injection e308); have hn308_0 : ad305.block ≠ gb307 := Kd.own_blk (Kd.R_ne HO_8.out BK307.out (by decide)); have hn308_1 : ad305.block ≠ gb307 := Kd.own_blk (Kd.R_ne HO_8.out BK307.out (by decide)); have hn308_2 : ad305.block ≠ gb307 := Kd.own_blk (Kd.R_ne HO_8.out BK307.out (by decide)); have hn308_3 : ad305.block ≠ gb307 := Kd.own_blk (Kd.R_ne HO_8.out BK307.out (by decide)); have hn308_4 : ad305.block ≠ gb307 := Kd.own_blk (Kd.R_ne HO_8.out BK307.out (by decide)); replace hx308_0 := (cell_far (p := ⟨gb307, 0, none⟩) (by (rw [add_block]; exact hn308_0)) (.int .i64 ((rd_T60 l0_1 x12_2).f0))).trans hx308_0; replace hx308_0 := (cell_far (p := ⟨gb307, 1, none⟩) (by (rw [add_block]; exact hn308_1)) (.int .i64 ((rd_T60 l0_1 x12_2).f1))).trans hx308_0; replace hx308_0 := (cell_far (p := ⟨gb307, 2, none⟩) (by (rw [add_block]; exact hn308_2)) (.int .i64 ((rd_T60 l0_1 x12_2).f2))).trans hx308_0; replace hx308_0 := (cell_far (p := ⟨gb307, 3, none⟩) (by (rw [add_block]; exact hn308_3)) (.int .i64 ((rd_T60 l0_1 x12_2).f3))).trans hx308_0; replace hx308_0 := (cell_far (p := ⟨gb307, 4, none⟩) (by (rw [add_block]; exact hn308_4)) (.int .i64 ((rd_T60 l0_1 x12_2).f4))).trans hx308_0; clear hn308_0; clear hn308_1; clear hn308_2; clear hn308_3; clear hn308_4; replace p308 := eq_true p308; replace q308 := eq_true q308) | go_step | go_quiet (fail))
    go_roundg k2
    case measure => have := HK1.out; have := HK2.out; omega
    case rel => exact ⟨(x10_2), (x11_2), (wrap64 (x12_2 + 1)), (by rfl), (by rfl), H', ⟨by have := HK1.out; have := HK2.out; omega⟩, ⟨by (with_reducible repeat (apply Kd.R_drewN)); exact Kd.R_mono (Kd.R_far (p := ⟨gb307, 4, none⟩) (Kd.R_far (p := ⟨gb307, 3, none⟩) (Kd.R_far (p := ⟨gb307, 2, none⟩) (Kd.R_far (p := ⟨gb307, 1, none⟩) (Kd.R_far (p := ⟨gb307, 0, none⟩) (Kd.R_types HO_8.out BK307.out (by decide)) (fun _ hk => hk.2) (.int .i64 ((rd_T60 l0_1 x12_2).f0))) (fun _ hk => hk.2) (.int .i64 ((rd_T60 l0_1 x12_2).f1))) (fun _ hk => hk.2) (.int .i64 ((rd_T60 l0_1 x12_2).f2))) (fun _ hk => hk.2) (.int .i64 ((rd_T60 l0_1 x12_2).f3))) (fun _ hk => hk.2) (.int .i64 ((rd_T60 l0_1 x12_2).f4))) (fun _ hk => ⟨hk.1.1, hk.1.2⟩)⟩, ⟨by (with_reducible repeat (apply Kd.R_drewN)); exact Kd.R_mono (Kd.R_far (p := ⟨gb307, 4, none⟩) (Kd.R_far (p := ⟨gb307, 3, none⟩) (Kd.R_far (p := ⟨gb307, 2, none⟩) (Kd.R_far (p := ⟨gb307, 1, none⟩) (Kd.R_far (p := ⟨gb307, 0, none⟩) (Kd.R_types HO_9.out BK307.out (by decide)) (fun _ hk => hk.2) (.int .i64 ((rd_T60 l0_1 x12_2).f0))) (fun _ hk => hk.2) (.int .i64 ((rd_T60 l0_1 x12_2).f1))) (fun _ hk => hk.2) (.int .i64 ((rd_T60 l0_1 x12_2).f2))) (fun _ hk => hk.2) (.int .i64 ((rd_T60 l0_1 x12_2).f3))) (fun _ hk => hk.2) (.int .i64 ((rd_T60 l0_1 x12_2).f4))) (fun _ hk => ⟨hk.1.1, hk.1.2⟩)⟩, ⟨by (with_reducible repeat (apply Kd.R_drewN)); exact Kd.R_mono (Kd.R_far (p := ⟨gb307, 4, none⟩) (Kd.R_far (p := ⟨gb307, 3, none⟩) (Kd.R_far (p := ⟨gb307, 2, none⟩) (Kd.R_far (p := ⟨gb307, 1, none⟩) (Kd.R_far (p := ⟨gb307, 0, none⟩) (Kd.R_types HO_10.out BK307.out (by decide)) (fun _ hk => hk.2) (.int .i64 ((rd_T60 l0_1 x12_2).f0))) (fun _ hk => hk.2) (.int .i64 ((rd_T60 l0_1 x12_2).f1))) (fun _ hk => hk.2) (.int .i64 ((rd_T60 l0_1 x12_2).f2))) (fun _ hk => hk.2) (.int .i64 ((rd_T60 l0_1 x12_2).f3))) (fun _ hk => hk.2) (.int .i64 ((rd_T60 l0_1 x12_2).f4))) (fun _ hk => ⟨hk.1.1, hk.1.2⟩)⟩, ⟨by (with_reducible repeat (refine blk_drewN ?_ _)); refine blk_far ?_ NB291_307.out _; refine blk_far ?_ NB291_307.out _; refine blk_far ?_ NB291_307.out _; refine blk_far ?_ NB291_307.out _; refine blk_far ?_ NB291_307.out _; exact BK291.out⟩, ⟨bl2 HB GE291 GE307⟩⟩
   rw [if_pos c36] at H
   have c36b0 : decide ((rd t296 ((rd_T60 l0_1 x12_2).f1)) < 99999) = true := decide_eq_true c36
   clear c36
   by_cases c37 : 0 ≤ x11_2
   rotate_left
   ·rw [if_neg c37] at H
    exact absurd H (by simp)
   rw [if_pos c37] at H
   have c37b0 : decide (0 ≤ x11_2) = true := decide_eq_true c37
   clear c37
   by_cases c38 : x11_2 < (t296.length : Int)
   rotate_left
   ·rw [if_neg c38] at H
    exact absurd H (by simp)
   rw [if_pos c38] at H
   have c38b0 : decide (x11_2 < (t296.length : Int)) = true := decide_eq_true c38
   clear c38
   by_cases c39 : (rd t296 x11_2) = (wrap64 (((rd_T60 l0_1 x12_2).f2) + (rd t296 ((rd_T60 l0_1 x12_2).f1))))
   rotate_left
   ·rw [if_neg c39] at H
    have c39b0 : ((rd t296 x11_2) == (wrap64 (((rd_T60 l0_1 x12_2).f2) + (rd t296 ((rd_T60 l0_1 x12_2).f1))))) = false := beq_eq_false_iff_ne.mpr c39
    have c39b1 : ((rd t296 x11_2) != (wrap64 (((rd_T60 l0_1 x12_2).f2) + (rd t296 ((rd_T60 l0_1 x12_2).f1))))) = true := bne_iff_ne.mpr c39
    have H' := ak H
    clear H
    have hcz56_0 := bc wr BK291 0 (.int .i64 a0_0) rfl
    have hcz56_1 := bc wr BK291 1 (.slice A0_1 l0_1.length c0_1) rfl
    have hfz56_0 := fz BK291 0
    have hfz56_1 := fz BK291 1
    have p306 : 0 ≤ (x12_2 : Int) := oT (by (with_reducible assumption))
    have q306 : x12_2 < (l0_1.length : Int) := oT (by (with_reducible assumption))
    obtain ⟨ad306, e306, hx306_0, hx306_1, hx306_2, hx306_3, hx306_4⟩ := at_T60 HR0_1.out x12_2 p306 q306
    cases e306
    replace hx306_0 := hcb HB.out hx306_0
    replace hx306_1 := hcb HB.out hx306_1
    replace hx306_2 := hcb HB.out hx306_2
    replace hx306_3 := hcb HB.out hx306_3
    replace hx306_4 := hcb HB.out hx306_4
    replace p306 := eq_true p306
    replace q306 := eq_true q306
    go_wp2_with (first | ((with_reducible refine gate_dst (N := 13) rfl ?_); refine box_event ?hg (N := 13) ?hd (cs := #[.int .i64 0, .int .i64 0, .int .i64 0, .int .i64 0, .int .i64 0]) (t := 60) ?hr ?_; (case hd => rfl); (case hg => rfl); (case hr => (go_simp; done)); intro gb307 hg w57 hbox hb; replace HO_8 := ak (Kd.R_below (rk HO_8) hb); replace HO_9 := ak (Kd.R_below (rk HO_9) hb); replace HO_10 := ak (Kd.R_below (rk HO_10) hb); have BK307 := ak (hbox); have GW307 := ak ((by rw [hg]; exact (below_size (bl1 HB GE291)) : w.heap.size ≤ gb307)); have GE307 := ak ((by rw [hg]; exact (below_size (bl1 HB GE291)) : w.heap.size ≤ gb307)); replace HB := ak (below_step (bl1 HB GE291) hb); have NB291_307 := ak ((by rw [hg]; exact Nat.ne_of_lt (blk_lt (bk BK291)) : gb291 ≠ gb307)); have NB307_291 := ak ((by rw [hg]; exact Nat.ne_of_gt (blk_lt (bk BK291)) : gb307 ≠ gb291)); replace BK291 := ak (blk_below (bk BK291) hb); clear hb hbox hg; have hnb58 := NB307_291.out; have hnc58 := NB291_307.out; have hcz59_0 := bc w57 BK307 0 (.int .i64 0) rfl; have hcz59_1 := bc w57 BK307 1 (.int .i64 0) rfl; have hcz59_2 := bc w57 BK307 2 (.int .i64 0) rfl; have hcz59_3 := bc w57 BK307 3 (.int .i64 0) rfl; have hcz59_4 := bc w57 BK307 4 (.int .i64 0) rfl; have hfz59_0 := fz BK307 0; have hfz59_1 := fz BK307 1; have hfz59_2 := fz BK307 2; have hfz59_3 := fz BK307 3; have hfz59_4 := fz BK307 4; have p308 : 0 ≤ (((rd_T60 l0_1 x12_2).f1) : Int) := oT (by (with_reducible assumption)); have q308 : ((rd_T60 l0_1 x12_2).f1) < (t296.length : Int) := oT (by (with_reducible assumption)); obtain ⟨ad308, e308, hx308_0⟩ := Kd.at_int (Kd.R_reads' HO_8.out).2.2 ((rd_T60 l0_1 x12_2).f1) p308 q308; obtain rfl : ad305 = ad308 := (by injection e308); have hn308_0 : ad305.block ≠ gb307 := Kd.own_blk (Kd.R_ne HO_8.out BK307.out (by decide)); have hn308_1 : ad305.block ≠ gb307 := Kd.own_blk (Kd.R_ne HO_8.out BK307.out (by decide)); have hn308_2 : ad305.block ≠ gb307 := Kd.own_blk (Kd.R_ne HO_8.out BK307.out (by decide)); have hn308_3 : ad305.block ≠ gb307 := Kd.own_blk (Kd.R_ne HO_8.out BK307.out (by decide)); have hn308_4 : ad305.block ≠ gb307 := Kd.own_blk (Kd.R_ne HO_8.out BK307.out (by decide)); replace hx308_0 := (cell_far (p := ⟨gb307, 0, none⟩) (by (rw [add_block]; exact hn308_0)) (.int .i64 ((rd_T60 l0_1 x12_2).f0))).trans hx308_0; replace hx308_0 := (cell_far (p := ⟨gb307, 1, none⟩) (by (rw [add_block]; exact hn308_1)) (.int .i64 ((rd_T60 l0_1 x12_2).f1))).trans hx308_0; replace hx308_0 := (cell_far (p := ⟨gb307, 2, none⟩) (by (rw [add_block]; exact hn308_2)) (.int .i64 ((rd_T60 l0_1 x12_2).f2))).trans hx308_0; replace hx308_0 := (cell_far (p := ⟨gb307, 3, none⟩) (by (rw [add_block]; exact hn308_3)) (.int .i64 ((rd_T60 l0_1 x12_2).f3))).trans hx308_0; replace hx308_0 := (cell_far (p := ⟨gb307, 4, none⟩) (by (rw [add_block]; exact hn308_4)) (.int .i64 ((rd_T60 l0_1 x12_2).f4))).trans hx308_0; clear hn308_0; clear hn308_1; clear hn308_2; clear hn308_3; clear hn308_4; replace p308 := eq_true p308; replace q308 := eq_true q308; have p309 : 0 ≤ (x11_2 : Int) := oT (by (with_reducible assumption)); have q309 : x11_2 < (t296.length : Int) := oT (by (with_reducible assumption)); obtain ⟨ad309, e309, hx309_0⟩ := Kd.at_int (Kd.R_reads' HO_8.out).2.2 x11_2 p309 q309; obtain rfl : ad305 = ad309 := (by injection e309); have hn309_0 : ad305.block ≠ gb307 := Kd.own_blk (Kd.R_ne HO_8.out BK307.out (by decide)); have hn309_1 : ad305.block ≠ gb307 := Kd.own_blk (Kd.R_ne HO_8.out BK307.out (by decide)); have hn309_2 : ad305.block ≠ gb307 := Kd.own_blk (Kd.R_ne HO_8.out BK307.out (by decide)); have hn309_3 : ad305.block ≠ gb307 := Kd.own_blk (Kd.R_ne HO_8.out BK307.out (by decide)); have hn309_4 : ad305.block ≠ gb307 := Kd.own_blk (Kd.R_ne HO_8.out BK307.out (by decide)); replace hx309_0 := (cell_far (p := ⟨gb307, 0, none⟩) (by (rw [add_block]; exact hn309_0)) (.int .i64 ((rd_T60 l0_1 x12_2).f0))).trans hx309_0; replace hx309_0 := (cell_far (p := ⟨gb307, 1, none⟩) (by (rw [add_block]; exact hn309_1)) (.int .i64 ((rd_T60 l0_1 x12_2).f1))).trans hx309_0; replace hx309_0 := (cell_far (p := ⟨gb307, 2, none⟩) (by (rw [add_block]; exact hn309_2)) (.int .i64 ((rd_T60 l0_1 x12_2).f2))).trans hx309_0; replace hx309_0 := (cell_far (p := ⟨gb307, 3, none⟩) (by (rw [add_block]; exact hn309_3)) (.int .i64 ((rd_T60 l0_1 x12_2).f3))).trans hx309_0; replace hx309_0 := (cell_far (p := ⟨gb307, 4, none⟩) (by (rw [add_block]; exact hn309_4)) (.int .i64 ((rd_T60 l0_1 x12_2).f4))).trans hx309_0; clear hn309_0; clear hn309_1; clear hn309_2; clear hn309_3; clear hn309_4; replace p309 := eq_true p309; replace q309 := eq_true q309; have p310 : 0 ≤ (((rd_T60 l0_1 x12_2).f1) : Int) := oT (by (with_reducible assumption)); have q310 : ((rd_T60 l0_1 x12_2).f1) < (t296.length : Int) := oT (by (with_reducible assumption)); obtain ⟨ad310, e310, hx310_0⟩ := Kd.at_int (Kd.R_reads' HO_8.out).2.2 ((rd_T60 l0_1 x12_2).f1) p310 q310; obtain rfl : ad305 = ad310 := (by injection e310); have hn310_0 : ad305.block ≠ gb307 := Kd.own_blk (Kd.R_ne HO_8.out BK307.out (by decide)); have hn310_1 : ad305.block ≠ gb307 := Kd.own_blk (Kd.R_ne HO_8.out BK307.out (by decide)); have hn310_2 : ad305.block ≠ gb307 := Kd.own_blk (Kd.R_ne HO_8.out BK307.out (by decide)); have hn310_3 : ad305.block ≠ gb307 := Kd.own_blk (Kd.R_ne HO_8.out BK307.out (by decide)); have hn310_4 : ad305.block ≠ gb307 := Kd.own_blk (Kd.R_ne HO_8.out BK307.out (by decide)); replace hx310_0 := (cell_far (p := ⟨gb307, 0, none⟩) (by (rw [add_block]; exact hn310_0)) (.int .i64 ((rd_T60 l0_1 x12_2).f0))).trans hx310_0; replace hx310_0 := (cell_far (p := ⟨gb307, 1, none⟩) (by (rw [add_block]; exact hn310_1)) (.int .i64 ((rd_T60 l0_1 x12_2).f1))).trans hx310_0; replace hx310_0 := (cell_far (p := ⟨gb307, 2, none⟩) (by (rw [add_block]; exact hn310_2)) (.int .i64 ((rd_T60 l0_1 x12_2).f2))).trans hx310_0; replace hx310_0 := (cell_far (p := ⟨gb307, 3, none⟩) (by (rw [add_block]; exact hn310_3)) (.int .i64 ((rd_T60 l0_1 x12_2).f3))).trans hx310_0; replace hx310_0 := (cell_far (p := ⟨gb307, 4, none⟩) (by (rw [add_block]; exact hn310_4)) (.int .i64 ((rd_T60 l0_1 x12_2).f4))).trans hx310_0; clear hn310_0; clear hn310_1; clear hn310_2; clear hn310_3; clear hn310_4; replace p310 := eq_true p310; replace q310 := eq_true q310) | go_step | go_quiet (fail))
    go_roundg k2
    case measure => have := HK1.out; have := HK2.out; omega
    case rel => exact ⟨(x10_2), (x11_2), (wrap64 (x12_2 + 1)), (by rfl), (by rfl), H', ⟨by have := HK1.out; have := HK2.out; omega⟩, ⟨by (with_reducible repeat (apply Kd.R_drewN)); exact Kd.R_mono (Kd.R_far (p := ⟨gb307, 4, none⟩) (Kd.R_far (p := ⟨gb307, 3, none⟩) (Kd.R_far (p := ⟨gb307, 2, none⟩) (Kd.R_far (p := ⟨gb307, 1, none⟩) (Kd.R_far (p := ⟨gb307, 0, none⟩) (Kd.R_types HO_8.out BK307.out (by decide)) (fun _ hk => hk.2) (.int .i64 ((rd_T60 l0_1 x12_2).f0))) (fun _ hk => hk.2) (.int .i64 ((rd_T60 l0_1 x12_2).f1))) (fun _ hk => hk.2) (.int .i64 ((rd_T60 l0_1 x12_2).f2))) (fun _ hk => hk.2) (.int .i64 ((rd_T60 l0_1 x12_2).f3))) (fun _ hk => hk.2) (.int .i64 ((rd_T60 l0_1 x12_2).f4))) (fun _ hk => ⟨hk.1.1, hk.1.2⟩)⟩, ⟨by (with_reducible repeat (apply Kd.R_drewN)); exact Kd.R_mono (Kd.R_far (p := ⟨gb307, 4, none⟩) (Kd.R_far (p := ⟨gb307, 3, none⟩) (Kd.R_far (p := ⟨gb307, 2, none⟩) (Kd.R_far (p := ⟨gb307, 1, none⟩) (Kd.R_far (p := ⟨gb307, 0, none⟩) (Kd.R_types HO_9.out BK307.out (by decide)) (fun _ hk => hk.2) (.int .i64 ((rd_T60 l0_1 x12_2).f0))) (fun _ hk => hk.2) (.int .i64 ((rd_T60 l0_1 x12_2).f1))) (fun _ hk => hk.2) (.int .i64 ((rd_T60 l0_1 x12_2).f2))) (fun _ hk => hk.2) (.int .i64 ((rd_T60 l0_1 x12_2).f3))) (fun _ hk => hk.2) (.int .i64 ((rd_T60 l0_1 x12_2).f4))) (fun _ hk => ⟨hk.1.1, hk.1.2⟩)⟩, ⟨by (with_reducible repeat (apply Kd.R_drewN)); exact Kd.R_mono (Kd.R_far (p := ⟨gb307, 4, none⟩) (Kd.R_far (p := ⟨gb307, 3, none⟩) (Kd.R_far (p := ⟨gb307, 2, none⟩) (Kd.R_far (p := ⟨gb307, 1, none⟩) (Kd.R_far (p := ⟨gb307, 0, none⟩) (Kd.R_types HO_10.out BK307.out (by decide)) (fun _ hk => hk.2) (.int .i64 ((rd_T60 l0_1 x12_2).f0))) (fun _ hk => hk.2) (.int .i64 ((rd_T60 l0_1 x12_2).f1))) (fun _ hk => hk.2) (.int .i64 ((rd_T60 l0_1 x12_2).f2))) (fun _ hk => hk.2) (.int .i64 ((rd_T60 l0_1 x12_2).f3))) (fun _ hk => hk.2) (.int .i64 ((rd_T60 l0_1 x12_2).f4))) (fun _ hk => ⟨hk.1.1, hk.1.2⟩)⟩, ⟨by (with_reducible repeat (refine blk_drewN ?_ _)); refine blk_far ?_ NB291_307.out _; refine blk_far ?_ NB291_307.out _; refine blk_far ?_ NB291_307.out _; refine blk_far ?_ NB291_307.out _; refine blk_far ?_ NB291_307.out _; exact BK291.out⟩, ⟨bl2 HB GE291 GE307⟩⟩
   rw [if_pos c39] at H
   have c39b0 : ((rd t296 x11_2) == (wrap64 (((rd_T60 l0_1 x12_2).f2) + (rd t296 ((rd_T60 l0_1 x12_2).f1))))) = true := beq_iff_eq.mpr c39
   have c39b1 : ((rd t296 x11_2) != (wrap64 (((rd_T60 l0_1 x12_2).f2) + (rd t296 ((rd_T60 l0_1 x12_2).f1))))) = false := bne_eq_false_iff_eq.mpr c39
   clear c39
   by_cases c40 : x11_2 < (t299.length : Int)
   rotate_left
   ·rw [if_neg c40] at H
    exact absurd H (by simp)
   rw [if_pos c40] at H
   have c40b0 : decide (x11_2 < (t299.length : Int)) = true := decide_eq_true c40
   clear c40
   by_cases c41 : ((rd_T60 l0_1 x12_2).f1) < (t299.length : Int)
   rotate_left
   ·rw [if_neg c41] at H
    exact absurd H (by simp)
   rw [if_pos c41] at H
   have c41b0 : decide (((rd_T60 l0_1 x12_2).f1) < (t299.length : Int)) = true := decide_eq_true c41
   clear c41
   by_cases c42 : (rd t299 x11_2) = (wrap64 ((rd t299 ((rd_T60 l0_1 x12_2).f1)) + 1))
   rotate_left
   ·rw [if_neg c42] at H
    have c42b0 : ((rd t299 x11_2) == (wrap64 ((rd t299 ((rd_T60 l0_1 x12_2).f1)) + 1))) = false := beq_eq_false_iff_ne.mpr c42
    have c42b1 : ((rd t299 x11_2) != (wrap64 ((rd t299 ((rd_T60 l0_1 x12_2).f1)) + 1))) = true := bne_iff_ne.mpr c42
    have H' := ak H
    clear H
    have hcz51_0 := bc wr BK291 0 (.int .i64 a0_0) rfl
    have hcz51_1 := bc wr BK291 1 (.slice A0_1 l0_1.length c0_1) rfl
    have hfz51_0 := fz BK291 0
    have hfz51_1 := fz BK291 1
    have p306 : 0 ≤ (x12_2 : Int) := oT (by (with_reducible assumption))
    have q306 : x12_2 < (l0_1.length : Int) := oT (by (with_reducible assumption))
    obtain ⟨ad306, e306, hx306_0, hx306_1, hx306_2, hx306_3, hx306_4⟩ := at_T60 HR0_1.out x12_2 p306 q306
    cases e306
    replace hx306_0 := hcb HB.out hx306_0
    replace hx306_1 := hcb HB.out hx306_1
    replace hx306_2 := hcb HB.out hx306_2
    replace hx306_3 := hcb HB.out hx306_3
    replace hx306_4 := hcb HB.out hx306_4
    replace p306 := eq_true p306
    replace q306 := eq_true q306
    go_wp2_with (first | ((with_reducible refine gate_dst (N := 13) rfl ?_); refine box_event ?hg (N := 13) ?hd (cs := #[.int .i64 0, .int .i64 0, .int .i64 0, .int .i64 0, .int .i64 0]) (t := 60) ?hr ?_; (case hd => rfl); (case hg => rfl); (case hr => (go_simp; done)); intro gb307 hg w52 hbox hb; replace HO_8 := ak (Kd.R_below (rk HO_8) hb); replace HO_9 := ak (Kd.R_below (rk HO_9) hb); replace HO_10 := ak (Kd.R_below (rk HO_10) hb); have BK307 := ak (hbox); have GW307 := ak ((by rw [hg]; exact (below_size (bl1 HB GE291)) : w.heap.size ≤ gb307)); have GE307 := ak ((by rw [hg]; exact (below_size (bl1 HB GE291)) : w.heap.size ≤ gb307)); replace HB := ak (below_step (bl1 HB GE291) hb); have NB291_307 := ak ((by rw [hg]; exact Nat.ne_of_lt (blk_lt (bk BK291)) : gb291 ≠ gb307)); have NB307_291 := ak ((by rw [hg]; exact Nat.ne_of_gt (blk_lt (bk BK291)) : gb307 ≠ gb291)); replace BK291 := ak (blk_below (bk BK291) hb); clear hb hbox hg; have hnb53 := NB307_291.out; have hnc53 := NB291_307.out; have hcz54_0 := bc w52 BK307 0 (.int .i64 0) rfl; have hcz54_1 := bc w52 BK307 1 (.int .i64 0) rfl; have hcz54_2 := bc w52 BK307 2 (.int .i64 0) rfl; have hcz54_3 := bc w52 BK307 3 (.int .i64 0) rfl; have hcz54_4 := bc w52 BK307 4 (.int .i64 0) rfl; have hfz54_0 := fz BK307 0; have hfz54_1 := fz BK307 1; have hfz54_2 := fz BK307 2; have hfz54_3 := fz BK307 3; have hfz54_4 := fz BK307 4; have p308 : 0 ≤ (((rd_T60 l0_1 x12_2).f1) : Int) := oT (by (with_reducible assumption)); have q308 : ((rd_T60 l0_1 x12_2).f1) < (t296.length : Int) := oT (by (with_reducible assumption)); obtain ⟨ad308, e308, hx308_0⟩ := Kd.at_int (Kd.R_reads' HO_8.out).2.2 ((rd_T60 l0_1 x12_2).f1) p308 q308; obtain rfl : ad305 = ad308 := (by injection e308); have hn308_0 : ad305.block ≠ gb307 := Kd.own_blk (Kd.R_ne HO_8.out BK307.out (by decide)); have hn308_1 : ad305.block ≠ gb307 := Kd.own_blk (Kd.R_ne HO_8.out BK307.out (by decide)); have hn308_2 : ad305.block ≠ gb307 := Kd.own_blk (Kd.R_ne HO_8.out BK307.out (by decide)); have hn308_3 : ad305.block ≠ gb307 := Kd.own_blk (Kd.R_ne HO_8.out BK307.out (by decide)); have hn308_4 : ad305.block ≠ gb307 := Kd.own_blk (Kd.R_ne HO_8.out BK307.out (by decide)); replace hx308_0 := (cell_far (p := ⟨gb307, 0, none⟩) (by (rw [add_block]; exact hn308_0)) (.int .i64 ((rd_T60 l0_1 x12_2).f0))).trans hx308_0; replace hx308_0 := (cell_far (p := ⟨gb307, 1, none⟩) (by (rw [add_block]; exact hn308_1)) (.int .i64 ((rd_T60 l0_1 x12_2).f1))).trans hx308_0; replace hx308_0 := (cell_far (p := ⟨gb307, 2, none⟩) (by (rw [add_block]; exact hn308_2)) (.int .i64 ((rd_T60 l0_1 x12_2).f2))).trans hx308_0; replace hx308_0 := (cell_far (p := ⟨gb307, 3, none⟩) (by (rw [add_block]; exact hn308_3)) (.int .i64 ((rd_T60 l0_1 x12_2).f3))).trans hx308_0; replace hx308_0 := (cell_far (p := ⟨gb307, 4, none⟩) (by (rw [add_block]; exact hn308_4)) (.int .i64 ((rd_T60 l0_1 x12_2).f4))).trans hx308_0; clear hn308_0; clear hn308_1; clear hn308_2; clear hn308_3; clear hn308_4; replace p308 := eq_true p308; replace q308 := eq_true q308; have p309 : 0 ≤ (x11_2 : Int) := oT (by (with_reducible assumption)); have q309 : x11_2 < (t296.length : Int) := oT (by (with_reducible assumption)); obtain ⟨ad309, e309, hx309_0⟩ := Kd.at_int (Kd.R_reads' HO_8.out).2.2 x11_2 p309 q309; obtain rfl : ad305 = ad309 := (by injection e309); have hn309_0 : ad305.block ≠ gb307 := Kd.own_blk (Kd.R_ne HO_8.out BK307.out (by decide)); have hn309_1 : ad305.block ≠ gb307 := Kd.own_blk (Kd.R_ne HO_8.out BK307.out (by decide)); have hn309_2 : ad305.block ≠ gb307 := Kd.own_blk (Kd.R_ne HO_8.out BK307.out (by decide)); have hn309_3 : ad305.block ≠ gb307 := Kd.own_blk (Kd.R_ne HO_8.out BK307.out (by decide)); have hn309_4 : ad305.block ≠ gb307 := Kd.own_blk (Kd.R_ne HO_8.out BK307.out (by decide)); replace hx309_0 := (cell_far (p := ⟨gb307, 0, none⟩) (by (rw [add_block]; exact hn309_0)) (.int .i64 ((rd_T60 l0_1 x12_2).f0))).trans hx309_0; replace hx309_0 := (cell_far (p := ⟨gb307, 1, none⟩) (by (rw [add_block]; exact hn309_1)) (.int .i64 ((rd_T60 l0_1 x12_2).f1))).trans hx309_0; replace hx309_0 := (cell_far (p := ⟨gb307, 2, none⟩) (by (rw [add_block]; exact hn309_2)) (.int .i64 ((rd_T60 l0_1 x12_2).f2))).trans hx309_0; replace hx309_0 := (cell_far (p := ⟨gb307, 3, none⟩) (by (rw [add_block]; exact hn309_3)) (.int .i64 ((rd_T60 l0_1 x12_2).f3))).trans hx309_0; replace hx309_0 := (cell_far (p := ⟨gb307, 4, none⟩) (by (rw [add_block]; exact hn309_4)) (.int .i64 ((rd_T60 l0_1 x12_2).f4))).trans hx309_0; clear hn309_0; clear hn309_1; clear hn309_2; clear hn309_3; clear hn309_4; replace p309 := eq_true p309; replace q309 := eq_true q309; have p310 : 0 ≤ (((rd_T60 l0_1 x12_2).f1) : Int) := oT (by (with_reducible assumption)); have q310 : ((rd_T60 l0_1 x12_2).f1) < (t296.length : Int) := oT (by (with_reducible assumption)); obtain ⟨ad310, e310, hx310_0⟩ := Kd.at_int (Kd.R_reads' HO_8.out).2.2 ((rd_T60 l0_1 x12_2).f1) p310 q310; obtain rfl : ad305 = ad310 := (by injection e310); have hn310_0 : ad305.block ≠ gb307 := Kd.own_blk (Kd.R_ne HO_8.out BK307.out (by decide)); have hn310_1 : ad305.block ≠ gb307 := Kd.own_blk (Kd.R_ne HO_8.out BK307.out (by decide)); have hn310_2 : ad305.block ≠ gb307 := Kd.own_blk (Kd.R_ne HO_8.out BK307.out (by decide)); have hn310_3 : ad305.block ≠ gb307 := Kd.own_blk (Kd.R_ne HO_8.out BK307.out (by decide)); have hn310_4 : ad305.block ≠ gb307 := Kd.own_blk (Kd.R_ne HO_8.out BK307.out (by decide)); replace hx310_0 := (cell_far (p := ⟨gb307, 0, none⟩) (by (rw [add_block]; exact hn310_0)) (.int .i64 ((rd_T60 l0_1 x12_2).f0))).trans hx310_0; replace hx310_0 := (cell_far (p := ⟨gb307, 1, none⟩) (by (rw [add_block]; exact hn310_1)) (.int .i64 ((rd_T60 l0_1 x12_2).f1))).trans hx310_0; replace hx310_0 := (cell_far (p := ⟨gb307, 2, none⟩) (by (rw [add_block]; exact hn310_2)) (.int .i64 ((rd_T60 l0_1 x12_2).f2))).trans hx310_0; replace hx310_0 := (cell_far (p := ⟨gb307, 3, none⟩) (by (rw [add_block]; exact hn310_3)) (.int .i64 ((rd_T60 l0_1 x12_2).f3))).trans hx310_0; replace hx310_0 := (cell_far (p := ⟨gb307, 4, none⟩) (by (rw [add_block]; exact hn310_4)) (.int .i64 ((rd_T60 l0_1 x12_2).f4))).trans hx310_0; clear hn310_0; clear hn310_1; clear hn310_2; clear hn310_3; clear hn310_4; replace p310 := eq_true p310; replace q310 := eq_true q310; obtain ⟨Ao55, co55, eo55⟩ := Kd.R_slice HO_9.out; subst eo55; have p311 : 0 ≤ (x11_2 : Int) := oT (by (with_reducible assumption)); have q311 : x11_2 < (t299.length : Int) := oT (by (with_reducible assumption)); obtain ⟨ad311, e311, hx311_0⟩ := Kd.at_int (Kd.R_reads' HO_9.out).2.2 x11_2 p311 q311; cases e311; have hn311_0 : ad311.block ≠ gb307 := Kd.own_blk (Kd.R_ne HO_9.out BK307.out (by decide)); have hn311_1 : ad311.block ≠ gb307 := Kd.own_blk (Kd.R_ne HO_9.out BK307.out (by decide)); have hn311_2 : ad311.block ≠ gb307 := Kd.own_blk (Kd.R_ne HO_9.out BK307.out (by decide)); have hn311_3 : ad311.block ≠ gb307 := Kd.own_blk (Kd.R_ne HO_9.out BK307.out (by decide)); have hn311_4 : ad311.block ≠ gb307 := Kd.own_blk (Kd.R_ne HO_9.out BK307.out (by decide)); replace hx311_0 := (cell_far (p := ⟨gb307, 0, none⟩) (by (rw [add_block]; exact hn311_0)) (.int .i64 ((rd_T60 l0_1 x12_2).f0))).trans hx311_0; replace hx311_0 := (cell_far (p := ⟨gb307, 1, none⟩) (by (rw [add_block]; exact hn311_1)) (.int .i64 ((rd_T60 l0_1 x12_2).f1))).trans hx311_0; replace hx311_0 := (cell_far (p := ⟨gb307, 2, none⟩) (by (rw [add_block]; exact hn311_2)) (.int .i64 ((rd_T60 l0_1 x12_2).f2))).trans hx311_0; replace hx311_0 := (cell_far (p := ⟨gb307, 3, none⟩) (by (rw [add_block]; exact hn311_3)) (.int .i64 ((rd_T60 l0_1 x12_2).f3))).trans hx311_0; replace hx311_0 := (cell_far (p := ⟨gb307, 4, none⟩) (by (rw [add_block]; exact hn311_4)) (.int .i64 ((rd_T60 l0_1 x12_2).f4))).trans hx311_0; clear hn311_0; clear hn311_1; clear hn311_2; clear hn311_3; clear hn311_4; replace p311 := eq_true p311; replace q311 := eq_true q311; have p312 : 0 ≤ (((rd_T60 l0_1 x12_2).f1) : Int) := oT (by (with_reducible assumption)); have q312 : ((rd_T60 l0_1 x12_2).f1) < (t299.length : Int) := oT (by (with_reducible assumption)); obtain ⟨ad312, e312, hx312_0⟩ := Kd.at_int (Kd.R_reads' HO_9.out).2.2 ((rd_T60 l0_1 x12_2).f1) p312 q312; obtain rfl : ad311 = ad312 := (by injection e312); have hn312_0 : ad311.block ≠ gb307 := Kd.own_blk (Kd.R_ne HO_9.out BK307.out (by decide)); have hn312_1 : ad311.block ≠ gb307 := Kd.own_blk (Kd.R_ne HO_9.out BK307.out (by decide)); have hn312_2 : ad311.block ≠ gb307 := Kd.own_blk (Kd.R_ne HO_9.out BK307.out (by decide)); have hn312_3 : ad311.block ≠ gb307 := Kd.own_blk (Kd.R_ne HO_9.out BK307.out (by decide)); have hn312_4 : ad311.block ≠ gb307 := Kd.own_blk (Kd.R_ne HO_9.out BK307.out (by decide)); replace hx312_0 := (cell_far (p := ⟨gb307, 0, none⟩) (by (rw [add_block]; exact hn312_0)) (.int .i64 ((rd_T60 l0_1 x12_2).f0))).trans hx312_0; replace hx312_0 := (cell_far (p := ⟨gb307, 1, none⟩) (by (rw [add_block]; exact hn312_1)) (.int .i64 ((rd_T60 l0_1 x12_2).f1))).trans hx312_0; replace hx312_0 := (cell_far (p := ⟨gb307, 2, none⟩) (by (rw [add_block]; exact hn312_2)) (.int .i64 ((rd_T60 l0_1 x12_2).f2))).trans hx312_0; replace hx312_0 := (cell_far (p := ⟨gb307, 3, none⟩) (by (rw [add_block]; exact hn312_3)) (.int .i64 ((rd_T60 l0_1 x12_2).f3))).trans hx312_0; replace hx312_0 := (cell_far (p := ⟨gb307, 4, none⟩) (by (rw [add_block]; exact hn312_4)) (.int .i64 ((rd_T60 l0_1 x12_2).f4))).trans hx312_0; clear hn312_0; clear hn312_1; clear hn312_2; clear hn312_3; clear hn312_4; replace p312 := eq_true p312; replace q312 := eq_true q312) | go_step | go_quiet (fail))
    go_roundg k2
    case measure => have := HK1.out; have := HK2.out; omega
    case rel => exact ⟨(x10_2), (x11_2), (wrap64 (x12_2 + 1)), (by rfl), (by rfl), H', ⟨by have := HK1.out; have := HK2.out; omega⟩, ⟨by (with_reducible repeat (apply Kd.R_drewN)); exact Kd.R_mono (Kd.R_far (p := ⟨gb307, 4, none⟩) (Kd.R_far (p := ⟨gb307, 3, none⟩) (Kd.R_far (p := ⟨gb307, 2, none⟩) (Kd.R_far (p := ⟨gb307, 1, none⟩) (Kd.R_far (p := ⟨gb307, 0, none⟩) (Kd.R_types HO_8.out BK307.out (by decide)) (fun _ hk => hk.2) (.int .i64 ((rd_T60 l0_1 x12_2).f0))) (fun _ hk => hk.2) (.int .i64 ((rd_T60 l0_1 x12_2).f1))) (fun _ hk => hk.2) (.int .i64 ((rd_T60 l0_1 x12_2).f2))) (fun _ hk => hk.2) (.int .i64 ((rd_T60 l0_1 x12_2).f3))) (fun _ hk => hk.2) (.int .i64 ((rd_T60 l0_1 x12_2).f4))) (fun _ hk => ⟨hk.1.1, hk.1.2⟩)⟩, ⟨by (with_reducible repeat (apply Kd.R_drewN)); exact Kd.R_mono (Kd.R_far (p := ⟨gb307, 4, none⟩) (Kd.R_far (p := ⟨gb307, 3, none⟩) (Kd.R_far (p := ⟨gb307, 2, none⟩) (Kd.R_far (p := ⟨gb307, 1, none⟩) (Kd.R_far (p := ⟨gb307, 0, none⟩) (Kd.R_types HO_9.out BK307.out (by decide)) (fun _ hk => hk.2) (.int .i64 ((rd_T60 l0_1 x12_2).f0))) (fun _ hk => hk.2) (.int .i64 ((rd_T60 l0_1 x12_2).f1))) (fun _ hk => hk.2) (.int .i64 ((rd_T60 l0_1 x12_2).f2))) (fun _ hk => hk.2) (.int .i64 ((rd_T60 l0_1 x12_2).f3))) (fun _ hk => hk.2) (.int .i64 ((rd_T60 l0_1 x12_2).f4))) (fun _ hk => ⟨hk.1.1, hk.1.2⟩)⟩, ⟨by (with_reducible repeat (apply Kd.R_drewN)); exact Kd.R_mono (Kd.R_far (p := ⟨gb307, 4, none⟩) (Kd.R_far (p := ⟨gb307, 3, none⟩) (Kd.R_far (p := ⟨gb307, 2, none⟩) (Kd.R_far (p := ⟨gb307, 1, none⟩) (Kd.R_far (p := ⟨gb307, 0, none⟩) (Kd.R_types HO_10.out BK307.out (by decide)) (fun _ hk => hk.2) (.int .i64 ((rd_T60 l0_1 x12_2).f0))) (fun _ hk => hk.2) (.int .i64 ((rd_T60 l0_1 x12_2).f1))) (fun _ hk => hk.2) (.int .i64 ((rd_T60 l0_1 x12_2).f2))) (fun _ hk => hk.2) (.int .i64 ((rd_T60 l0_1 x12_2).f3))) (fun _ hk => hk.2) (.int .i64 ((rd_T60 l0_1 x12_2).f4))) (fun _ hk => ⟨hk.1.1, hk.1.2⟩)⟩, ⟨by (with_reducible repeat (refine blk_drewN ?_ _)); refine blk_far ?_ NB291_307.out _; refine blk_far ?_ NB291_307.out _; refine blk_far ?_ NB291_307.out _; refine blk_far ?_ NB291_307.out _; refine blk_far ?_ NB291_307.out _; exact BK291.out⟩, ⟨bl2 HB GE291 GE307⟩⟩
   rw [if_pos c42] at H
   have c42b0 : ((rd t299 x11_2) == (wrap64 ((rd t299 ((rd_T60 l0_1 x12_2).f1)) + 1))) = true := beq_iff_eq.mpr c42
   have c42b1 : ((rd t299 x11_2) != (wrap64 ((rd t299 ((rd_T60 l0_1 x12_2).f1)) + 1))) = false := bne_eq_false_iff_eq.mpr c42
   clear c42
   by_cases c43 : x10_2.length < 17592186044416
   rotate_left
   ·rw [if_neg c43] at H
    exact absurd H (by simp)
   rw [if_pos c43] at H
   have LMc43 := ak c43
   clear c43
   obtain ⟨y313, hy313⟩ : ∃ y_ : List Int, y_ = (x10_2 ++ [x12_2]) := ⟨_, rfl⟩
   replace H : (spec_l3Walk.l0 k2 a2 t296 t299 y313 ((rd_T60 l0_1 x12_2).f1) a0_0 l0_1) = some (r1, r2) := by (rw [hy313]; with_reducible exact H)
   have Ny313 := ak hy313
   clear hy313
   have H' := ak H
   clear H
   have hcz44_0 := bc wr BK291 0 (.int .i64 a0_0) rfl
   have hcz44_1 := bc wr BK291 1 (.slice A0_1 l0_1.length c0_1) rfl
   have hfz44_0 := fz BK291 0
   have hfz44_1 := fz BK291 1
   have p306 : 0 ≤ (x12_2 : Int) := oT (by (with_reducible assumption))
   have q306 : x12_2 < (l0_1.length : Int) := oT (by (with_reducible assumption))
   obtain ⟨ad306, e306, hx306_0, hx306_1, hx306_2, hx306_3, hx306_4⟩ := at_T60 HR0_1.out x12_2 p306 q306
   cases e306
   replace hx306_0 := hcb HB.out hx306_0
   replace hx306_1 := hcb HB.out hx306_1
   replace hx306_2 := hcb HB.out hx306_2
   replace hx306_3 := hcb HB.out hx306_3
   replace hx306_4 := hcb HB.out hx306_4
   replace p306 := eq_true p306
   replace q306 := eq_true q306
   go_wp2_with (((with_reducible refine gate_dst (N := 13) rfl ?_); refine box_event ?hg (N := 13) ?hd (cs := #[.int .i64 0, .int .i64 0, .int .i64 0, .int .i64 0, .int .i64 0]) (t := 60) ?hr ?_; (case hd => rfl); (case hg => rfl); (case hr => (go_simp; done)); intro gb307 hg w45 hbox hb; replace HO_8 := ak (Kd.R_below (rk HO_8) hb); replace HO_9 := ak (Kd.R_below (rk HO_9) hb); replace HO_10 := ak (Kd.R_below (rk HO_10) hb); have BK307 := ak (hbox); have GW307 := ak ((by rw [hg]; exact (below_size (bl1 HB GE291)) : w.heap.size ≤ gb307)); have GE307 := ak ((by rw [hg]; exact (below_size (bl1 HB GE291)) : w.heap.size ≤ gb307)); replace HB := ak (below_step (bl1 HB GE291) hb); have NB291_307 := ak ((by rw [hg]; exact Nat.ne_of_lt (blk_lt (bk BK291)) : gb291 ≠ gb307)); have NB307_291 := ak ((by rw [hg]; exact Nat.ne_of_gt (blk_lt (bk BK291)) : gb307 ≠ gb291)); replace BK291 := ak (blk_below (bk BK291) hb); clear hb hbox hg; have hnb46 := NB307_291.out; have hnc46 := NB291_307.out; have hcz47_0 := bc w45 BK307 0 (.int .i64 0) rfl; have hcz47_1 := bc w45 BK307 1 (.int .i64 0) rfl; have hcz47_2 := bc w45 BK307 2 (.int .i64 0) rfl; have hcz47_3 := bc w45 BK307 3 (.int .i64 0) rfl; have hcz47_4 := bc w45 BK307 4 (.int .i64 0) rfl; have hfz47_0 := fz BK307 0; have hfz47_1 := fz BK307 1; have hfz47_2 := fz BK307 2; have hfz47_3 := fz BK307 3; have hfz47_4 := fz BK307 4; have p308 : 0 ≤ (((rd_T60 l0_1 x12_2).f1) : Int) := oT (by (with_reducible assumption)); have q308 : ((rd_T60 l0_1 x12_2).f1) < (t296.length : Int) := oT (by (with_reducible assumption)); obtain ⟨ad308, e308, hx308_0⟩ := Kd.at_int (Kd.R_reads' HO_8.out).2.2 ((rd_T60 l0_1 x12_2).f1) p308 q308; obtain rfl : ad305 = ad308 := (by injection e308); have hn308_0 : ad305.block ≠ gb307 := Kd.own_blk (Kd.R_ne HO_8.out BK307.out (by decide)); have hn308_1 : ad305.block ≠ gb307 := Kd.own_blk (Kd.R_ne HO_8.out BK307.out (by decide)); have hn308_2 : ad305.block ≠ gb307 := Kd.own_blk (Kd.R_ne HO_8.out BK307.out (by decide)); have hn308_3 : ad305.block ≠ gb307 := Kd.own_blk (Kd.R_ne HO_8.out BK307.out (by decide)); have hn308_4 : ad305.block ≠ gb307 := Kd.own_blk (Kd.R_ne HO_8.out BK307.out (by decide)); replace hx308_0 := (cell_far (p := ⟨gb307, 0, none⟩) (by (rw [add_block]; exact hn308_0)) (.int .i64 ((rd_T60 l0_1 x12_2).f0))).trans hx308_0; replace hx308_0 := (cell_far (p := ⟨gb307, 1, none⟩) (by (rw [add_block]; exact hn308_1)) (.int .i64 ((rd_T60 l0_1 x12_2).f1))).trans hx308_0; replace hx308_0 := (cell_far (p := ⟨gb307, 2, none⟩) (by (rw [add_block]; exact hn308_2)) (.int .i64 ((rd_T60 l0_1 x12_2).f2))).trans hx308_0; replace hx308_0 := (cell_far (p := ⟨gb307, 3, none⟩) (by (rw [add_block]; exact hn308_3)) (.int .i64 ((rd_T60 l0_1 x12_2).f3))).trans hx308_0; replace hx308_0 := (cell_far (p := ⟨gb307, 4, none⟩) (by (rw [add_block]; exact hn308_4)) (.int .i64 ((rd_T60 l0_1 x12_2).f4))).trans hx308_0; clear hn308_0; clear hn308_1; clear hn308_2; clear hn308_3; clear hn308_4; replace p308 := eq_true p308; replace q308 := eq_true q308; have p309 : 0 ≤ (x11_2 : Int) := oT (by (with_reducible assumption)); have q309 : x11_2 < (t296.length : Int) := oT (by (with_reducible assumption)); obtain ⟨ad309, e309, hx309_0⟩ := Kd.at_int (Kd.R_reads' HO_8.out).2.2 x11_2 p309 q309; obtain rfl : ad305 = ad309 := (by injection e309); have hn309_0 : ad305.block ≠ gb307 := Kd.own_blk (Kd.R_ne HO_8.out BK307.out (by decide)); have hn309_1 : ad305.block ≠ gb307 := Kd.own_blk (Kd.R_ne HO_8.out BK307.out (by decide)); have hn309_2 : ad305.block ≠ gb307 := Kd.own_blk (Kd.R_ne HO_8.out BK307.out (by decide)); have hn309_3 : ad305.block ≠ gb307 := Kd.own_blk (Kd.R_ne HO_8.out BK307.out (by decide)); have hn309_4 : ad305.block ≠ gb307 := Kd.own_blk (Kd.R_ne HO_8.out BK307.out (by decide)); replace hx309_0 := (cell_far (p := ⟨gb307, 0, none⟩) (by (rw [add_block]; exact hn309_0)) (.int .i64 ((rd_T60 l0_1 x12_2).f0))).trans hx309_0; replace hx309_0 := (cell_far (p := ⟨gb307, 1, none⟩) (by (rw [add_block]; exact hn309_1)) (.int .i64 ((rd_T60 l0_1 x12_2).f1))).trans hx309_0; replace hx309_0 := (cell_far (p := ⟨gb307, 2, none⟩) (by (rw [add_block]; exact hn309_2)) (.int .i64 ((rd_T60 l0_1 x12_2).f2))).trans hx309_0; replace hx309_0 := (cell_far (p := ⟨gb307, 3, none⟩) (by (rw [add_block]; exact hn309_3)) (.int .i64 ((rd_T60 l0_1 x12_2).f3))).trans hx309_0; replace hx309_0 := (cell_far (p := ⟨gb307, 4, none⟩) (by (rw [add_block]; exact hn309_4)) (.int .i64 ((rd_T60 l0_1 x12_2).f4))).trans hx309_0; clear hn309_0; clear hn309_1; clear hn309_2; clear hn309_3; clear hn309_4; replace p309 := eq_true p309; replace q309 := eq_true q309; have p310 : 0 ≤ (((rd_T60 l0_1 x12_2).f1) : Int) := oT (by (with_reducible assumption)); have q310 : ((rd_T60 l0_1 x12_2).f1) < (t296.length : Int) := oT (by (with_reducible assumption)); obtain ⟨ad310, e310, hx310_0⟩ := Kd.at_int (Kd.R_reads' HO_8.out).2.2 ((rd_T60 l0_1 x12_2).f1) p310 q310; obtain rfl : ad305 = ad310 := (by injection e310); have hn310_0 : ad305.block ≠ gb307 := Kd.own_blk (Kd.R_ne HO_8.out BK307.out (by decide)); have hn310_1 : ad305.block ≠ gb307 := Kd.own_blk (Kd.R_ne HO_8.out BK307.out (by decide)); have hn310_2 : ad305.block ≠ gb307 := Kd.own_blk (Kd.R_ne HO_8.out BK307.out (by decide)); have hn310_3 : ad305.block ≠ gb307 := Kd.own_blk (Kd.R_ne HO_8.out BK307.out (by decide)); have hn310_4 : ad305.block ≠ gb307 := Kd.own_blk (Kd.R_ne HO_8.out BK307.out (by decide)); replace hx310_0 := (cell_far (p := ⟨gb307, 0, none⟩) (by (rw [add_block]; exact hn310_0)) (.int .i64 ((rd_T60 l0_1 x12_2).f0))).trans hx310_0; replace hx310_0 := (cell_far (p := ⟨gb307, 1, none⟩) (by (rw [add_block]; exact hn310_1)) (.int .i64 ((rd_T60 l0_1 x12_2).f1))).trans hx310_0; replace hx310_0 := (cell_far (p := ⟨gb307, 2, none⟩) (by (rw [add_block]; exact hn310_2)) (.int .i64 ((rd_T60 l0_1 x12_2).f2))).trans hx310_0; replace hx310_0 := (cell_far (p := ⟨gb307, 3, none⟩) (by (rw [add_block]; exact hn310_3)) (.int .i64 ((rd_T60 l0_1 x12_2).f3))).trans hx310_0; replace hx310_0 := (cell_far (p := ⟨gb307, 4, none⟩) (by (rw [add_block]; exact hn310_4)) (.int .i64 ((rd_T60 l0_1 x12_2).f4))).trans hx310_0; clear hn310_0; clear hn310_1; clear hn310_2; clear hn310_3; clear hn310_4; replace p310 := eq_true p310; replace q310 := eq_true q310; obtain ⟨Ao48, co48, eo48⟩ := Kd.R_slice HO_9.out; subst eo48; have p311 : 0 ≤ (x11_2 : Int) := oT (by (with_reducible assumption)); have q311 : x11_2 < (t299.length : Int) := oT (by (with_reducible assumption)); obtain ⟨ad311, e311, hx311_0⟩ := Kd.at_int (Kd.R_reads' HO_9.out).2.2 x11_2 p311 q311; cases e311; have hn311_0 : ad311.block ≠ gb307 := Kd.own_blk (Kd.R_ne HO_9.out BK307.out (by decide)); have hn311_1 : ad311.block ≠ gb307 := Kd.own_blk (Kd.R_ne HO_9.out BK307.out (by decide)); have hn311_2 : ad311.block ≠ gb307 := Kd.own_blk (Kd.R_ne HO_9.out BK307.out (by decide)); have hn311_3 : ad311.block ≠ gb307 := Kd.own_blk (Kd.R_ne HO_9.out BK307.out (by decide)); have hn311_4 : ad311.block ≠ gb307 := Kd.own_blk (Kd.R_ne HO_9.out BK307.out (by decide)); replace hx311_0 := (cell_far (p := ⟨gb307, 0, none⟩) (by (rw [add_block]; exact hn311_0)) (.int .i64 ((rd_T60 l0_1 x12_2).f0))).trans hx311_0; replace hx311_0 := (cell_far (p := ⟨gb307, 1, none⟩) (by (rw [add_block]; exact hn311_1)) (.int .i64 ((rd_T60 l0_1 x12_2).f1))).trans hx311_0; replace hx311_0 := (cell_far (p := ⟨gb307, 2, none⟩) (by (rw [add_block]; exact hn311_2)) (.int .i64 ((rd_T60 l0_1 x12_2).f2))).trans hx311_0; replace hx311_0 := (cell_far (p := ⟨gb307, 3, none⟩) (by (rw [add_block]; exact hn311_3)) (.int .i64 ((rd_T60 l0_1 x12_2).f3))).trans hx311_0; replace hx311_0 := (cell_far (p := ⟨gb307, 4, none⟩) (by (rw [add_block]; exact hn311_4)) (.int .i64 ((rd_T60 l0_1 x12_2).f4))).trans hx311_0; clear hn311_0; clear hn311_1; clear hn311_2; clear hn311_3; clear hn311_4; replace p311 := eq_true p311; replace q311 := eq_true q311; have p312 : 0 ≤ (((rd_T60 l0_1 x12_2).f1) : Int) := oT (by (with_reducible assumption)); have q312 : ((rd_T60 l0_1 x12_2).f1) < (t299.length : Int) := oT (by (with_reducible assumption)); obtain ⟨ad312, e312, hx312_0⟩ := Kd.at_int (Kd.R_reads' HO_9.out).2.2 ((rd_T60 l0_1 x12_2).f1) p312 q312; obtain rfl : ad311 = ad312 := (by injection e312); have hn312_0 : ad311.block ≠ gb307 := Kd.own_blk (Kd.R_ne HO_9.out BK307.out (by decide)); have hn312_1 : ad311.block ≠ gb307 := Kd.own_blk (Kd.R_ne HO_9.out BK307.out (by decide)); have hn312_2 : ad311.block ≠ gb307 := Kd.own_blk (Kd.R_ne HO_9.out BK307.out (by decide)); have hn312_3 : ad311.block ≠ gb307 := Kd.own_blk (Kd.R_ne HO_9.out BK307.out (by decide)); have hn312_4 : ad311.block ≠ gb307 := Kd.own_blk (Kd.R_ne HO_9.out BK307.out (by decide)); replace hx312_0 := (cell_far (p := ⟨gb307, 0, none⟩) (by (rw [add_block]; exact hn312_0)) (.int .i64 ((rd_T60 l0_1 x12_2).f0))).trans hx312_0; replace hx312_0 := (cell_far (p := ⟨gb307, 1, none⟩) (by (rw [add_block]; exact hn312_1)) (.int .i64 ((rd_T60 l0_1 x12_2).f1))).trans hx312_0; replace hx312_0 := (cell_far (p := ⟨gb307, 2, none⟩) (by (rw [add_block]; exact hn312_2)) (.int .i64 ((rd_T60 l0_1 x12_2).f2))).trans hx312_0; replace hx312_0 := (cell_far (p := ⟨gb307, 3, none⟩) (by (rw [add_block]; exact hn312_3)) (.int .i64 ((rd_T60 l0_1 x12_2).f3))).trans hx312_0; replace hx312_0 := (cell_far (p := ⟨gb307, 4, none⟩) (by (rw [add_block]; exact hn312_4)) (.int .i64 ((rd_T60 l0_1 x12_2).f4))).trans hx312_0; clear hn312_0; clear hn312_1; clear hn312_2; clear hn312_3; clear hn312_4; replace p312 := eq_true p312; replace q312 := eq_true q312))
   repeat (go_quiet (fail); try go_wp2_with (((with_reducible refine gate_builtin (b := .append) (xs := #[.tmp 84, .tmp 86]) rfl ?_); at_builtin; refine Kd.R_append (Kd.int .i64) (w0 := w) w.heap.size rfl (.tmp 84) (.tmp 86) 28 3 (.int .i64 0) 8 rfl Try.underlying28 info3 rfl (by decide) (by omega) u10 x10_2 x12_2 [.int .i64 x12_2] (fun k_ => some k_ ≠ (.slice (some ad305) t296.length co29 : Value).ownBlock ∧ some k_ ≠ (.slice (some ad311) t299.length co48 : Value).ownBlock) (fun _ => False) rfl (by (go_simp; done)) ?aP (fun _ hk => hk.elim) ?aF ?aO ?aB ?aS ?aL ?_; (case aP => exact rfl); (case aB => exact (bl2 HB GE291 GE307)); (case aF => exact (fun k_ hk => ⟨Kd.fresh' (Kd.R_lt (by (with_reducible repeat (apply Kd.R_drewN)); exact (Kd.R_mono (Kd.R_far (p := ⟨gb307, 4, none⟩) (Kd.R_far (p := ⟨gb307, 3, none⟩) (Kd.R_far (p := ⟨gb307, 2, none⟩) (Kd.R_far (p := ⟨gb307, 1, none⟩) (Kd.R_far (p := ⟨gb307, 0, none⟩) (Kd.R_types HO_8.out BK307.out (by decide)) (fun _ hk => hk.2) (.int .i64 ((rd_T60 l0_1 x12_2).f0))) (fun _ hk => hk.2) (.int .i64 ((rd_T60 l0_1 x12_2).f1))) (fun _ hk => hk.2) (.int .i64 ((rd_T60 l0_1 x12_2).f2))) (fun _ hk => hk.2) (.int .i64 ((rd_T60 l0_1 x12_2).f3))) (fun _ hk => hk.2) (.int .i64 ((rd_T60 l0_1 x12_2).f4))) (fun _ h_ => h_.1)))) k_ hk, Kd.fresh' (Kd.R_lt (by (with_reducible repeat (apply Kd.R_drewN)); exact (Kd.R_mono (Kd.R_far (p := ⟨gb307, 4, none⟩) (Kd.R_far (p := ⟨gb307, 3, none⟩) (Kd.R_far (p := ⟨gb307, 2, none⟩) (Kd.R_far (p := ⟨gb307, 1, none⟩) (Kd.R_far (p := ⟨gb307, 0, none⟩) (Kd.R_types HO_9.out BK307.out (by decide)) (fun _ hk => hk.2) (.int .i64 ((rd_T60 l0_1 x12_2).f0))) (fun _ hk => hk.2) (.int .i64 ((rd_T60 l0_1 x12_2).f1))) (fun _ hk => hk.2) (.int .i64 ((rd_T60 l0_1 x12_2).f2))) (fun _ hk => hk.2) (.int .i64 ((rd_T60 l0_1 x12_2).f3))) (fun _ hk => hk.2) (.int .i64 ((rd_T60 l0_1 x12_2).f4))) (fun _ h_ => h_.1)))) k_ hk⟩)); (case aO => exact (by (with_reducible repeat (apply Kd.R_drewN)); exact Kd.R_mono (Kd.R_far (p := ⟨gb307, 4, none⟩) (Kd.R_far (p := ⟨gb307, 3, none⟩) (Kd.R_far (p := ⟨gb307, 2, none⟩) (Kd.R_far (p := ⟨gb307, 1, none⟩) (Kd.R_far (p := ⟨gb307, 0, none⟩) (Kd.R_types HO_10.out BK307.out (by decide)) (fun _ hk => hk.2) (.int .i64 ((rd_T60 l0_1 x12_2).f0))) (fun _ hk => hk.2) (.int .i64 ((rd_T60 l0_1 x12_2).f1))) (fun _ hk => hk.2) (.int .i64 ((rd_T60 l0_1 x12_2).f2))) (fun _ hk => hk.2) (.int .i64 ((rd_T60 l0_1 x12_2).f3))) (fun _ hk => hk.2) (.int .i64 ((rd_T60 l0_1 x12_2).f4))) (fun _ hk => ⟨hk.1.1, hk.1.2⟩))); (case aS => exact (below_size (bl2 HB GE291 GE307))); (case aL => have := LMc43.out; omega); intro v314 w49 ho hb hg hat; rw [← Ny313.out] at ho; have n0_ := ak (Kd.R_after (ok := (fun k_ => some k_ ≠ (.slice (some ad311) t299.length co48 : Value).ownBlock)) (by (with_reducible repeat (apply Kd.R_drewN)); exact Kd.R_mono (Kd.R_far (p := ⟨gb307, 4, none⟩) (Kd.R_far (p := ⟨gb307, 3, none⟩) (Kd.R_far (p := ⟨gb307, 2, none⟩) (Kd.R_far (p := ⟨gb307, 1, none⟩) (Kd.R_far (p := ⟨gb307, 0, none⟩) (Kd.R_types HO_8.out BK307.out (by decide)) (fun _ hk => hk.2) (.int .i64 ((rd_T60 l0_1 x12_2).f0))) (fun _ hk => hk.2) (.int .i64 ((rd_T60 l0_1 x12_2).f1))) (fun _ hk => hk.2) (.int .i64 ((rd_T60 l0_1 x12_2).f2))) (fun _ hk => hk.2) (.int .i64 ((rd_T60 l0_1 x12_2).f3))) (fun _ hk => hk.2) (.int .i64 ((rd_T60 l0_1 x12_2).f4))) (fun _ hk => ⟨hk.1.1, hk.1.2⟩)) hg hat); have n1_ := ak (Kd.R_after (ok := (fun k_ => some k_ ≠ (.slice (some ad305) t296.length co29 : Value).ownBlock)) (by (with_reducible repeat (apply Kd.R_drewN)); exact Kd.R_mono (Kd.R_far (p := ⟨gb307, 4, none⟩) (Kd.R_far (p := ⟨gb307, 3, none⟩) (Kd.R_far (p := ⟨gb307, 2, none⟩) (Kd.R_far (p := ⟨gb307, 1, none⟩) (Kd.R_far (p := ⟨gb307, 0, none⟩) (Kd.R_types HO_9.out BK307.out (by decide)) (fun _ hk => hk.2) (.int .i64 ((rd_T60 l0_1 x12_2).f0))) (fun _ hk => hk.2) (.int .i64 ((rd_T60 l0_1 x12_2).f1))) (fun _ hk => hk.2) (.int .i64 ((rd_T60 l0_1 x12_2).f2))) (fun _ hk => hk.2) (.int .i64 ((rd_T60 l0_1 x12_2).f3))) (fun _ hk => hk.2) (.int .i64 ((rd_T60 l0_1 x12_2).f4))) (fun _ hk => ⟨hk.1.1, hk.1.2⟩)) hg hat); have n2_ := ak (blk_grown (g := gb291) (o := .cells #[.int .i64 a0_0, .slice (some ad306) l0_1.length c0_1] 25 (0, 0)) (by (with_reducible repeat (refine blk_drewN ?_ _)); refine blk_far ?_ NB291_307.out _; refine blk_far ?_ NB291_307.out _; refine blk_far ?_ NB291_307.out _; refine blk_far ?_ NB291_307.out _; refine blk_far ?_ NB291_307.out _; exact BK291.out) hg (Kd.R_ne HO_10.out BK291.out (by decide))); have n3_ := ak (blk_grown (g := gb307) (o := .cells #[.int .i64 ((rd_T60 l0_1 x12_2).f0), .int .i64 ((rd_T60 l0_1 x12_2).f1), .int .i64 ((rd_T60 l0_1 x12_2).f2), .int .i64 ((rd_T60 l0_1 x12_2).f3), .int .i64 ((rd_T60 l0_1 x12_2).f4)] 60 (0, 0)) (by (with_reducible repeat (refine blk_drewN ?_ _)); refine blk_put (cs := #[.int .i64 ((rd_T60 l0_1 x12_2).f0), .int .i64 ((rd_T60 l0_1 x12_2).f1), .int .i64 ((rd_T60 l0_1 x12_2).f2), .int .i64 ((rd_T60 l0_1 x12_2).f3), .int .i64 0]) ?_ 4 _ rfl; refine blk_put (cs := #[.int .i64 ((rd_T60 l0_1 x12_2).f0), .int .i64 ((rd_T60 l0_1 x12_2).f1), .int .i64 ((rd_T60 l0_1 x12_2).f2), .int .i64 0, .int .i64 0]) ?_ 3 _ rfl; refine blk_put (cs := #[.int .i64 ((rd_T60 l0_1 x12_2).f0), .int .i64 ((rd_T60 l0_1 x12_2).f1), .int .i64 0, .int .i64 0, .int .i64 0]) ?_ 2 _ rfl; refine blk_put (cs := #[.int .i64 ((rd_T60 l0_1 x12_2).f0), .int .i64 0, .int .i64 0, .int .i64 0, .int .i64 0]) ?_ 1 _ rfl; refine blk_put (cs := #[.int .i64 0, .int .i64 0, .int .i64 0, .int .i64 0, .int .i64 0]) ?_ 0 _ rfl; exact BK307.out) hg (Kd.R_ne HO_10.out BK307.out (by decide))); have n4_ := ak (hb); have n5_ := ak (ho); clear HO_8; clear HO_9; clear BK291; clear BK307; clear HB; clear HO_10; have HO_8 := n0_; have HO_9 := n1_; have BK291 := n2_; have BK307 := n3_; have HB := n4_; have HO315 := n5_; clear n0_ n1_ n2_ n3_ n4_ n5_; clear ho hb hg hat; have hcz50_0 := bc w49 BK307 0 (.int .i64 ((rd_T60 l0_1 x12_2).f0)) rfl; have hcz50_1 := bc w49 BK307 1 (.int .i64 ((rd_T60 l0_1 x12_2).f1)) rfl; have hcz50_2 := bc w49 BK307 2 (.int .i64 ((rd_T60 l0_1 x12_2).f2)) rfl; have hcz50_3 := bc w49 BK307 3 (.int .i64 ((rd_T60 l0_1 x12_2).f3)) rfl; have hcz50_4 := bc w49 BK307 4 (.int .i64 ((rd_T60 l0_1 x12_2).f4)) rfl; have hfz50_0 := fz BK307 0; have hfz50_1 := fz BK307 1; have hfz50_2 := fz BK307 2; have hfz50_3 := fz BK307 3; have hfz50_4 := fz BK307 4)))
   go_roundg k2
   case measure => have := HK1.out; have := HK2.out; omega
   case rel => exact ⟨(y313), ((rd_T60 l0_1 x12_2).f1), (by rfl), H', ⟨by have := HK1.out; have := HK2.out; omega⟩, ⟨rk HO_8⟩, ⟨rk HO_9⟩, ⟨rk HO315⟩, ⟨bk BK291⟩, ⟨bl2 HB GE291 GE307⟩⟩

end Go.Proofs.Ytjnbhieppghidaa.F
