-- Printed by wip/px/px.py of this claim's repository (the kit's printer, extended there). Lean checks it.
import Derived.Test.YtddkaiegnohkcaaFKinds
import Derived.Test.YtddkaiegnohkcaaFspecl1In
import Derived.Test.YtddkaiegnohkcaaFspecl1Ok
import Derived.Test.YtddkaiegnohkcaaFspecl19All
namespace Go.Proofs.Ytddkaiegnohkcaa.F
open Go.RowKit Go.Proofs.YtddkaiegnohkcaaW.PrintWords Go.Proofs.YtddkaiegnohkcaaW.PrintLast Go.Proofs.YtddkaiegnohkcaaW.PrintMore
attribute [local go_sem] max2_int min2_int max_two min_two max_three min_three max_four min_four   -- for this text's walks alone
set_option linter.unusedVariables false
set_option linter.unusedSimpArgs false

/-! ### spec_PairSum: function 34 -/
mutual
def spec_PairSum.j0 : Nat → Int → Int → Int → Int → Int → Bool → Int → List (S33) → Option (Int)
 | 0, _, _, _, _, _, _, _, _ => none
 | k + 1, x1, x2, x3, x4, x11, x43, x348000, x348001 => if x43 = true then (some (-1)) else ((spec_l19All.f k x348000 x348001 x1).bind fun t353 => (if 0 ≤ x2 then (if x2 < (t353.length : Int) then (spec_PairSum.l0 k x3 x4 x11 (rd_L5 t353 x2) 0) else (none)) else (none)))
def spec_PairSum.l0 : Nat → Int → Int → Int → List (S35) → Int → Option (Int)
 | 0, _, _, _, _, _ => none
 | k + 1, x3, x4, x11, x12, x13 => if x13 < (x12.length : Int) then (if 0 ≤ x13 then (if x11 < 0 then (spec_PairSum.l0 k x3 x4 (wrap64 ((wrap64 (((rd_T35 x12 x13).f0) * x3)) + (wrap64 (((rd_T35 x12 x13).f1) * x4)))) x12 (wrap64 (x13 + 1))) else (if (wrap64 ((wrap64 (((rd_T35 x12 x13).f0) * x3)) + (wrap64 (((rd_T35 x12 x13).f1) * x4)))) < x11 then (spec_PairSum.l0 k x3 x4 (wrap64 ((wrap64 (((rd_T35 x12 x13).f0) * x3)) + (wrap64 (((rd_T35 x12 x13).f1) * x4)))) x12 (wrap64 (x13 + 1))) else (spec_PairSum.l0 k x3 x4 x11 x12 (wrap64 (x13 + 1))))) else (none)) else (some x11)
end
def spec_PairSum.f (k : Nat) (a0_0 : Int) (l0_1 : List (S33)) (a1 : Int) (a2 : Int) (a3 : Int) (a4 : Int) : Option (Int) := (spec_l1Ok.f k a0_0 l0_1).bind fun t348 => (if t348 = true then ((spec_l1In.f a1 0 (wrap64 (a0_0 - 1))).bind fun t349 => (if t349 = true then ((spec_l1In.f a2 0 (wrap64 (a0_0 - 1))).bind fun t350 => (if t350 = true then ((spec_l1In.f a3 0 100).bind fun t351 => (if t351 = true then ((spec_l1In.f a4 0 100).bind fun t352 => (spec_PairSum.j0 k a1 a2 a3 a4 (-1) (!t352) a0_0 l0_1)) else (spec_PairSum.j0 k a1 a2 a3 a4 (-1) true a0_0 l0_1))) else (spec_PairSum.j0 k a1 a2 a3 a4 (-1) true a0_0 l0_1))) else (spec_PairSum.j0 k a1 a2 a3 a4 (-1) true a0_0 l0_1))) else (spec_PairSum.j0 k a1 a2 a3 a4 (-1) true a0_0 l0_1))
theorem spec_PairSum.mono_l : ∀ k, (∀ y0 y1 y2 y3 y4 y5 y6 y7, LeO (spec_PairSum.j0 k y0 y1 y2 y3 y4 y5 y6 y7) (spec_PairSum.j0 (k + 1) y0 y1 y2 y3 y4 y5 y6 y7)) ∧ (∀ y0 y1 y2 y3 y4, LeO (spec_PairSum.l0 k y0 y1 y2 y3 y4) (spec_PairSum.l0 (k + 1) y0 y1 y2 y3 y4))
 | 0 => ⟨fun _ _ _ _ _ _ _ _ r h => by simp [spec_PairSum.j0] at h, fun _ _ _ _ _ r h => by simp [spec_PairSum.l0] at h⟩
 | k + 1 => by
  obtain ⟨ih0, ih1⟩ := spec_PairSum.mono_l k
  refine ⟨?_, ?_⟩
  ·intro y0 y1 y2 y3 y4 y5 y6 y7
   unfold spec_PairSum.j0
   repeat' first | (with_reducible exact ih1 _ _ _ _ _) | (with_reducible exact spec_l19All.mono _ _ _ _) | (with_reducible exact LeO.refl _) | (with_reducible refine LeO.ite ?_ ?_) | (with_reducible refine LeO.bind ?_ (fun _ => ?_))
  ·intro y0 y1 y2 y3 y4
   unfold spec_PairSum.l0
   repeat' first | (with_reducible exact ih1 _ _ _ _ _) | (with_reducible exact LeO.refl _) | (with_reducible refine LeO.ite ?_ ?_)
theorem spec_PairSum.mono : ∀ a0 a1 a2 a3 a4 a5 k, LeO (spec_PairSum.f k a0 a1 a2 a3 a4 a5) (spec_PairSum.f (k + 1) a0 a1 a2 a3 a4 a5) := by
 intro a0 a1 a2 a3 a4 a5 k
 obtain ⟨ih0, ih1⟩ := spec_PairSum.mono_l k
 unfold spec_PairSum.f
 repeat' first | (with_reducible exact ih0 _ _ _ _ _ _ _ _) | (with_reducible exact spec_l1Ok.mono _ _ _) | (with_reducible exact LeO.refl _) | (with_reducible refine LeO.ite ?_ ?_) | (with_reducible refine LeO.bind ?_ (fun _ => ?_))
set_option maxHeartbeats 8000000 in
set_option maxRecDepth 100000 in
theorem spec_PairSum.calls (k : Nat) (a0_0 : Int) (A0_1 : Option Addr) (c0_1 : Nat) (l0_1 : List (S33)) (a1 : Int) (a2 : Int) (a3 : Int) (a4 : Int) (r : Int) (w : World) (hr0_1 : Kd.C k33 w A0_1 l0_1.length l0_1) (hc0_1 : l0_1.length ≤ c0_1) (h : spec_PairSum.f k a0_0 l0_1 a1 a2 a3 a4 = some r) :
  Calls Try.prog 34 #[.agg #[.int .i64 a0_0, .slice A0_1 l0_1.length c0_1], .int .i64 a1, .int .i64 a2, .int .i64 a3, .int .i64 a4] w fun e w' => e = .returned (.int .i64 r) ∧ Below w.heap.size w w' := by
 have hu25 := Try.underlying25
 have HR0_1 := ak hr0_1
 have HC0_1 := ak hc0_1
 clear hr0_1 hc0_1
 have HB := ak (Below.refl w.heap.size w)
 have H : ((spec_l1Ok.f k a0_0 l0_1).bind fun t348 => (if t348 = true then ((spec_l1In.f a1 0 (wrap64 (a0_0 - 1))).bind fun t349 => (if t349 = true then ((spec_l1In.f a2 0 (wrap64 (a0_0 - 1))).bind fun t350 => (if t350 = true then ((spec_l1In.f a3 0 100).bind fun t351 => (if t351 = true then ((spec_l1In.f a4 0 100).bind fun t352 => (spec_PairSum.j0 k a1 a2 a3 a4 (-1) (!t352) a0_0 l0_1)) else (spec_PairSum.j0 k a1 a2 a3 a4 (-1) true a0_0 l0_1))) else (spec_PairSum.j0 k a1 a2 a3 a4 (-1) true a0_0 l0_1))) else (spec_PairSum.j0 k a1 a2 a3 a4 (-1) true a0_0 l0_1))) else (spec_PairSum.j0 k a1 a2 a3 a4 (-1) true a0_0 l0_1))) = some r := h
 clear h
 have HC6 := ak H
 clear H
 go_enter Try.func34, Try.ntmps34
 go_upto_region 2 with (((with_reducible refine gate_dst (N := 5) rfl ?_); refine box_event ?hg (N := 5) ?hd (cs := #[.int .i64 a0_0, .slice A0_1 l0_1.length c0_1]) (t := 25) ?hr ?_; (case hd => rfl); (case hg => rfl); (case hr => (go_simp; done)); intro gb347 hg w7 hbox hb; have BK347 := ak (hbox); have GW347 := ak ((by rw [hg]; exact (below_size (bl HB)) : w.heap.size ≤ gb347)); have GE347 := ak ((by rw [hg]; exact (below_size (bl HB)) : w.heap.size ≤ gb347)); replace HB := ak (below_step (bl HB) hb); clear hb hbox hg))
 repeat (go_quiet (fail); go_upto_region 2 with (fail))
 (try simp only [Act.put, List.setIfInBounds_toArray, List.set_cons_zero, List.set_cons_succ])
 go_cut [43] (fun v43 wc => ∃ (kq : Nat) (x43_5 : Bool), v43 = .bool x43_5 ∧ Aside0 (spec_PairSum.j0 kq a1 a2 a3 a4 (-1) x43_5 a0_0 l0_1 = some r) ∧ Aside0 (kq ≤ k) ∧ Aside0 (wc.heap[gb347]? = some (.cells #[.int .i64 a0_0, (.slice A0_1 l0_1.length c0_1)] 25 (0, 0))) ∧ Aside0 (Below w.heap.size w wc))
 case first =>
  have H := HC6.out
  clear HC6
  replace H := Option.bind_eq_some_iff.mp H
  obtain ⟨t348, A80, H⟩ := H
  have A8 := ak A80
  clear A80
  by_cases c9 : t348 = true
  rotate_left
  ·replace c9 := Bool.eq_false_iff.mpr c9
   subst c9
   rw [if_neg (show ¬ (false = true) by decide)] at H
   have H' := ak H
   clear H
   have hcz29_0 := bc w7 BK347 0 (.int .i64 a0_0) rfl
   have hcz29_1 := bc w7 BK347 1 (.slice A0_1 l0_1.length c0_1) rfl
   have hfz29_0 := fz BK347 0
   have hfz29_1 := fz BK347 1
   go_wp2_with ((go_at_call 42; (with_reducible refine (spec_l1Ok.calls k a0_0 _ _ l0_1 false _ ?side1 ?side2 A8.out).mono ?_); (case side1 => repeat (exact (Kd.C_below HR0_1.out HB.out))); (case side2 => exact HC0_1.out); rintro e w30 ⟨rfl, hb⟩; have n0_ := ak (blk_below (bk BK347) hb); have n1_ := ak (below_step (bl1 HB GE347) hb); clear BK347; clear HB; have BK347 := n0_; have HB := n1_; clear n0_ n1_; (try clear hb); (try clear hb2); (try clear hk); (try clear hi)))
   repeat (go_quiet (fail); try go_wp2_with (fail))
   go_meet
   case rel => exact ⟨_, (true), (by rfl), H', ⟨by omega⟩, ⟨bk BK347⟩, ⟨bl1 HB GE347⟩⟩
  subst c9
  rw [if_pos rfl] at H
  replace H := Option.bind_eq_some_iff.mp H
  obtain ⟨t349, A100, H⟩ := H
  have A10 := ak A100
  clear A100
  by_cases c11 : t349 = true
  rotate_left
  ·replace c11 := Bool.eq_false_iff.mpr c11
   subst c11
   rw [if_neg (show ¬ (false = true) by decide)] at H
   have H' := ak H
   clear H
   have hcz26_0 := bc w7 BK347 0 (.int .i64 a0_0) rfl
   have hcz26_1 := bc w7 BK347 1 (.slice A0_1 l0_1.length c0_1) rfl
   have hfz26_0 := fz BK347 0
   have hfz26_1 := fz BK347 1
   go_wp2_with (first | (go_at_call 42; (with_reducible refine (spec_l1Ok.calls k a0_0 _ _ l0_1 true _ ?side1 ?side2 A8.out).mono ?_); (case side1 => repeat (exact (Kd.C_below HR0_1.out HB.out))); (case side2 => exact HC0_1.out); rintro e w27 ⟨rfl, hb⟩; have n0_ := ak (blk_below (bk BK347) hb); have n1_ := ak (below_step (bl1 HB GE347) hb); clear BK347; clear HB; have BK347 := n0_; have HB := n1_; clear n0_ n1_; (try clear hb); (try clear hb2); (try clear hk); (try clear hi); have hcz28_0 := bc w27 BK347 0 (.int .i64 a0_0) rfl; have hcz28_1 := bc w27 BK347 1 (.slice A0_1 l0_1.length c0_1) rfl; have hfz28_0 := fz BK347 0; have hfz28_1 := fz BK347 1) | (go_at_call 48; (with_reducible refine (spec_l1In.calls a1 0 (wrap64 (a0_0 - 1)) false _ A10.out).mono ?_); rintro e w' ⟨rfl, ⟨nd, rfl⟩⟩; (try fail)))
   repeat (go_quiet (fail); try go_wp2_with (fail))
   go_meet
   case rel => exact ⟨_, (true), (by rfl), H', ⟨by omega⟩, ⟨bk BK347⟩, ⟨bl1 HB GE347⟩⟩
  subst c11
  rw [if_pos rfl] at H
  replace H := Option.bind_eq_some_iff.mp H
  obtain ⟨t350, A120, H⟩ := H
  have A12 := ak A120
  clear A120
  by_cases c13 : t350 = true
  rotate_left
  ·replace c13 := Bool.eq_false_iff.mpr c13
   subst c13
   rw [if_neg (show ¬ (false = true) by decide)] at H
   have H' := ak H
   clear H
   have hcz23_0 := bc w7 BK347 0 (.int .i64 a0_0) rfl
   have hcz23_1 := bc w7 BK347 1 (.slice A0_1 l0_1.length c0_1) rfl
   have hfz23_0 := fz BK347 0
   have hfz23_1 := fz BK347 1
   go_wp2_with (first | (go_at_call 42; (with_reducible refine (spec_l1Ok.calls k a0_0 _ _ l0_1 true _ ?side1 ?side2 A8.out).mono ?_); (case side1 => repeat (exact (Kd.C_below HR0_1.out HB.out))); (case side2 => exact HC0_1.out); rintro e w24 ⟨rfl, hb⟩; have n0_ := ak (blk_below (bk BK347) hb); have n1_ := ak (below_step (bl1 HB GE347) hb); clear BK347; clear HB; have BK347 := n0_; have HB := n1_; clear n0_ n1_; (try clear hb); (try clear hb2); (try clear hk); (try clear hi); have hcz25_0 := bc w24 BK347 0 (.int .i64 a0_0) rfl; have hcz25_1 := bc w24 BK347 1 (.slice A0_1 l0_1.length c0_1) rfl; have hfz25_0 := fz BK347 0; have hfz25_1 := fz BK347 1) | (go_at_call 48; (with_reducible refine (spec_l1In.calls a1 0 (wrap64 (a0_0 - 1)) true _ A10.out).mono ?_); rintro e w' ⟨rfl, ⟨nd, rfl⟩⟩; (try fail)) | (go_at_call 48; (with_reducible refine (spec_l1In.calls a2 0 (wrap64 (a0_0 - 1)) false _ A12.out).mono ?_); rintro e w' ⟨rfl, ⟨nd, rfl⟩⟩; (try fail)))
   repeat (go_quiet (fail); try go_wp2_with (fail))
   go_meet
   case rel => exact ⟨_, (true), (by rfl), H', ⟨by omega⟩, ⟨bk BK347⟩, ⟨bl1 HB GE347⟩⟩
  subst c13
  rw [if_pos rfl] at H
  replace H := Option.bind_eq_some_iff.mp H
  obtain ⟨t351, A140, H⟩ := H
  have A14 := ak A140
  clear A140
  by_cases c15 : t351 = true
  rotate_left
  ·replace c15 := Bool.eq_false_iff.mpr c15
   subst c15
   rw [if_neg (show ¬ (false = true) by decide)] at H
   have H' := ak H
   clear H
   have hcz20_0 := bc w7 BK347 0 (.int .i64 a0_0) rfl
   have hcz20_1 := bc w7 BK347 1 (.slice A0_1 l0_1.length c0_1) rfl
   have hfz20_0 := fz BK347 0
   have hfz20_1 := fz BK347 1
   go_wp2_with (first | (go_at_call 42; (with_reducible refine (spec_l1Ok.calls k a0_0 _ _ l0_1 true _ ?side1 ?side2 A8.out).mono ?_); (case side1 => repeat (exact (Kd.C_below HR0_1.out HB.out))); (case side2 => exact HC0_1.out); rintro e w21 ⟨rfl, hb⟩; have n0_ := ak (blk_below (bk BK347) hb); have n1_ := ak (below_step (bl1 HB GE347) hb); clear BK347; clear HB; have BK347 := n0_; have HB := n1_; clear n0_ n1_; (try clear hb); (try clear hb2); (try clear hk); (try clear hi); have hcz22_0 := bc w21 BK347 0 (.int .i64 a0_0) rfl; have hcz22_1 := bc w21 BK347 1 (.slice A0_1 l0_1.length c0_1) rfl; have hfz22_0 := fz BK347 0; have hfz22_1 := fz BK347 1) | (go_at_call 48; (with_reducible refine (spec_l1In.calls a1 0 (wrap64 (a0_0 - 1)) true _ A10.out).mono ?_); rintro e w' ⟨rfl, ⟨nd, rfl⟩⟩; (try fail)) | (go_at_call 48; (with_reducible refine (spec_l1In.calls a2 0 (wrap64 (a0_0 - 1)) true _ A12.out).mono ?_); rintro e w' ⟨rfl, ⟨nd, rfl⟩⟩; (try fail)) | (go_at_call 48; (with_reducible refine (spec_l1In.calls a3 0 100 false _ A14.out).mono ?_); rintro e w' ⟨rfl, ⟨nd, rfl⟩⟩; (try fail)))
   repeat (go_quiet (fail); try go_wp2_with (fail))
   go_meet
   case rel => exact ⟨_, (true), (by rfl), H', ⟨by omega⟩, ⟨bk BK347⟩, ⟨bl1 HB GE347⟩⟩
  subst c15
  rw [if_pos rfl] at H
  replace H := Option.bind_eq_some_iff.mp H
  obtain ⟨t352, A160, H⟩ := H
  have A16 := ak A160
  clear A160
  have H' := ak H
  clear H
  have hcz17_0 := bc w7 BK347 0 (.int .i64 a0_0) rfl
  have hcz17_1 := bc w7 BK347 1 (.slice A0_1 l0_1.length c0_1) rfl
  have hfz17_0 := fz BK347 0
  have hfz17_1 := fz BK347 1
  go_wp2_with (first | (go_at_call 42; (with_reducible refine (spec_l1Ok.calls k a0_0 _ _ l0_1 true _ ?side1 ?side2 A8.out).mono ?_); (case side1 => repeat (exact (Kd.C_below HR0_1.out HB.out))); (case side2 => exact HC0_1.out); rintro e w18 ⟨rfl, hb⟩; have n0_ := ak (blk_below (bk BK347) hb); have n1_ := ak (below_step (bl1 HB GE347) hb); clear BK347; clear HB; have BK347 := n0_; have HB := n1_; clear n0_ n1_; (try clear hb); (try clear hb2); (try clear hk); (try clear hi); have hcz19_0 := bc w18 BK347 0 (.int .i64 a0_0) rfl; have hcz19_1 := bc w18 BK347 1 (.slice A0_1 l0_1.length c0_1) rfl; have hfz19_0 := fz BK347 0; have hfz19_1 := fz BK347 1) | (go_at_call 48; (with_reducible refine (spec_l1In.calls a1 0 (wrap64 (a0_0 - 1)) true _ A10.out).mono ?_); rintro e w' ⟨rfl, ⟨nd, rfl⟩⟩; (try fail)) | (go_at_call 48; (with_reducible refine (spec_l1In.calls a2 0 (wrap64 (a0_0 - 1)) true _ A12.out).mono ?_); rintro e w' ⟨rfl, ⟨nd, rfl⟩⟩; (try fail)) | (go_at_call 48; (with_reducible refine (spec_l1In.calls a3 0 100 true _ A14.out).mono ?_); rintro e w' ⟨rfl, ⟨nd, rfl⟩⟩; (try fail)) | (go_at_call 48; (with_reducible refine (spec_l1In.calls a4 0 100 t352 _ A16.out).mono ?_); rintro e w' ⟨rfl, ⟨nd, rfl⟩⟩; (try fail)))
  repeat (go_quiet (fail); try go_wp2_with (fail))
  go_meet
  case rel => exact ⟨_, (!t352), (by rfl), H', ⟨by omega⟩, ⟨bk BK347⟩, ⟨bl1 HB GE347⟩⟩
 clear HC6
 try clear c1
 try clear p2
 try clear c3
 try clear p6
 try clear c9
 try clear c11
 try clear c13
 try clear c15
 try clear hcz17_0
 try clear hcz17_1
 try clear hcz19_0
 try clear hcz19_1
 try clear hcz20_0
 try clear hcz20_1
 try clear hcz22_0
 try clear hcz22_1
 try clear hcz23_0
 try clear hcz23_1
 try clear hcz25_0
 try clear hcz25_1
 try clear hcz26_0
 try clear hcz26_1
 try clear hcz28_0
 try clear hcz28_1
 try clear hcz29_0
 try clear hcz29_1
 try clear hfz17_0
 try clear hfz17_1
 try clear hfz19_0
 try clear hfz19_1
 try clear hfz20_0
 try clear hfz20_1
 try clear hfz22_0
 try clear hfz22_1
 try clear hfz23_0
 try clear hfz23_1
 try clear hfz25_0
 try clear hfz25_1
 try clear hfz26_0
 try clear hfz26_1
 try clear hfz28_0
 try clear hfz28_1
 try clear hfz29_0
 try clear hfz29_1
 obtain ⟨kq, x43_5, rfl, HA, HJ5, BK347, HB⟩ := hcut
 cases kq with
 | zero => exact absurd HA.out (by simp [spec_PairSum.j0])
 | succ kj5 =>
  have H := HA.out
  clear HA
  simp only [spec_PairSum.j0] at H
  by_cases c31 : x43_5 = true
  ·subst c31
   rw [if_pos rfl] at H
   obtain rfl := Option.some.inj H
   go_wp2
   repeat (go_quiet (fail); try go_wp2)
   go_ret
   exact ⟨by rfl, bl1 HB GE347⟩
  replace c31 := Bool.eq_false_iff.mpr c31
  subst c31
  rw [if_neg (show ¬ (false = true) by decide)] at H
  replace H := Option.bind_eq_some_iff.mp H
  obtain ⟨t353, A320, H⟩ := H
  have A32 := ak A320
  clear A320
  by_cases c33 : 0 ≤ a2
  rotate_left
  ·rw [if_neg c33] at H
   exact absurd H (by simp)
  rw [if_pos c33] at H
  have c33b0 : decide (0 ≤ a2) = true := decide_eq_true c33
  clear c33
  by_cases c34 : a2 < (t353.length : Int)
  rotate_left
  ·rw [if_neg c34] at H
   exact absurd H (by simp)
  rw [if_pos c34] at H
  have c34b0 : decide (a2 < (t353.length : Int)) = true := decide_eq_true c34
  clear c34
  have H' := ak H
  clear H
  have hcz35_0 := bc wc BK347 0 (.int .i64 a0_0) rfl
  have hcz35_1 := bc wc BK347 1 (.slice A0_1 l0_1.length c0_1) rfl
  have hfz35_0 := fz BK347 0
  have hfz35_1 := fz BK347 1
  go_wp2_with ((go_at_call 49; (with_reducible refine (spec_l19All.calls kj5 a0_0 _ _ l0_1 a1 t353 _ ?side1 ?side2 A32.out).mono ?_); (case side1 => repeat (exact (Kd.C_below HR0_1.out HB.out))); (case side2 => exact HC0_1.out); rintro e w36 ⟨v354, rfl, ho0, hb⟩; have n0_ := ak (Kd.N_lower (Kd.N_mono (ok' := fun k_ => k_ ≠ gb347) ho0 (fun k_ hk_ => (Kd.freshB (bk BK347) k_ hk_))) (below_size (bl1 HB GE347))); have n1_ := ak (blk_below (bk BK347) hb); have n2_ := ak (below_step (bl1 HB GE347) hb); clear BK347; clear HB; have HO355 := n0_; have BK347 := n1_; have HB := n2_; clear n0_ n1_ n2_; (try clear hb); (try clear hb2); (try clear hk); (try clear hi); (try clear ho0); obtain ⟨Ao37, co37, eo37⟩ := Kd.N_slice HO355.out; subst eo37; have p356 : 0 ≤ (a2 : Int) := oT (by (with_reducible assumption)); have q356 : a2 < (t353.length : Int) := oT (by (with_reducible assumption)); obtain ⟨ad356, A356_0, c356_0, e356, hx356_0, hl356_0, hi356_0⟩ := at_L5 (Kd.N_reads' HO355.out).2.2 a2 p356 q356; cases e356; obtain ⟨ce356, hce356, hMe356, hcc356⟩ := Kd.N_get HO355.out [] a2 p356 (by exact q356); obtain ⟨ua356_0, uc356_0, rfl, ul356_0, ge356_0⟩ := Kd.FK_slice_open hMe356; have hv356_0 := hcc356 0 _ rfl; rw [Nat.add_zero, show ((Kd.slice 35 k35)).sz = 1 from rfl, Nat.mul_one] at hv356_0; replace hv356_0 := Option.some.inj (hv356_0.symm.trans hx356_0); injection hv356_0 with hva_ hvn_ hvc_; rw [hva_] at ge356_0; rw [hvc_] at ul356_0; have HL356_0 := ak (show Kd.V k35 35 _ w.heap.size _ _ (rd_L5 t353 a2) from Kd.V_mk ul356_0 ge356_0); clear hva_ hvn_ hvc_ ge356_0 ul356_0; clear hcc356 hce356; have HR356_0 := ak hi356_0; have HC356_0 := ak hl356_0; clear hi356_0 hl356_0; replace p356 := eq_true p356; replace q356 := eq_true q356))
  repeat (go_quiet (fail); try go_wp2_with (fail))
  go_loopg [11, 13] kj5 (fun kq v11 v13 w' => ∃ (x11_2 : Int) (x13_2 : Int), v11 = .int .i64 x11_2 ∧ v13 = .int .i64 x13_2 ∧ Aside0 (spec_PairSum.l0 kq a3 a4 x11_2 (rd_L5 t353 a2) x13_2 = some r) ∧ Aside0 (kq ≤ kj5) ∧ Aside0 (w'.heap[gb347]? = some (.cells #[.int .i64 a0_0, (.slice A0_1 l0_1.length c0_1)] 25 (0, 0))) ∧ Aside0 (Kd.C k35 w' A356_0 (rd_L5 t353 a2).length (rd_L5 t353 a2)) ∧ Aside0 (Below w.heap.size w w'))
  case atStart => exact ⟨((-1)), (0), (by rfl), (by rfl), H', ⟨Nat.le_refl _⟩, ⟨bk BK347⟩, ⟨by repeat ((with_reducible exact HR356_0.out))⟩, ⟨bl1 HB GE347⟩⟩
  clear H'
  try clear c1
  try clear p2
  try clear c3
  try clear p3
  try clear q3
  try clear hx3
  try clear p6
  try clear c9
  try clear c11
  try clear c13
  try clear c15
  try clear c31
  try clear c33
  try clear c33b0
  try clear c34
  try clear c34b0
  try clear c35
  try clear p35
  try clear q35
  try clear hx35
  try clear hcz17_0
  try clear hcz17_1
  try clear hcz19_0
  try clear hcz19_1
  try clear hcz20_0
  try clear hcz20_1
  try clear hcz22_0
  try clear hcz22_1
  try clear hcz23_0
  try clear hcz23_1
  try clear hcz25_0
  try clear hcz25_1
  try clear hcz26_0
  try clear hcz26_1
  try clear hcz28_0
  try clear hcz28_1
  try clear hcz29_0
  try clear hcz29_1
  try clear hcz35_0
  try clear hcz35_1
  try clear hfz17_0
  try clear hfz17_1
  try clear hfz19_0
  try clear hfz19_1
  try clear hfz20_0
  try clear hfz20_1
  try clear hfz22_0
  try clear hfz22_1
  try clear hfz23_0
  try clear hfz23_1
  try clear hfz25_0
  try clear hfz25_1
  try clear hfz26_0
  try clear hfz26_1
  try clear hfz28_0
  try clear hfz28_1
  try clear hfz29_0
  try clear hfz29_1
  try clear hfz35_0
  try clear hfz35_1
  try clear hx356_0
  try clear p2
  try clear p356
  try clear p6
  try clear q356
  obtain ⟨x11_2, x13_2, rfl, rfl, HA, HK2, BK347, HR356_0, HB⟩ := hrel
  cases gk with
  | zero => exact absurd HA.out (by simp [spec_PairSum.l0])
  | succ k2 =>
   have H := HA.out
   clear HA
   simp only [spec_PairSum.l0] at H
   by_cases c38 : x13_2 < ((rd_L5 t353 a2).length : Int)
   rotate_left
   ·rw [if_neg c38] at H
    have c38b0 : decide (x13_2 < ((rd_L5 t353 a2).length : Int)) = false := decide_eq_false c38
    clear c38
    obtain rfl := Option.some.inj H
    go_wp2
    repeat (go_quiet (fail); try go_wp2)
    go_ret
    exact ⟨by rfl, bl1 HB GE347⟩
   rw [if_pos c38] at H
   have c38b0 : decide (x13_2 < ((rd_L5 t353 a2).length : Int)) = true := decide_eq_true c38
   clear c38
   by_cases c39 : 0 ≤ x13_2
   rotate_left
   ·rw [if_neg c39] at H
    exact absurd H (by simp)
   rw [if_pos c39] at H
   have c39b0 : decide (0 ≤ x13_2) = true := decide_eq_true c39
   clear c39
   by_cases c40 : x11_2 < 0
   ·rw [if_pos c40] at H
    have c40b0 : decide (x11_2 < 0) = true := decide_eq_true c40
    clear c40
    have H' := ak H
    clear H
    have p357 : 0 ≤ (x13_2 : Int) := oT (by (with_reducible assumption))
    have q357 : x13_2 < ((rd_L5 t353 a2).length : Int) := oT (by (with_reducible assumption))
    obtain ⟨ad357, e357, hx357_0, hx357_1⟩ := at_T35 HR356_0.out x13_2 p357 q357
    cases e357
    (try replace hx357_0 := hcb HB.out hx357_0)
    (try replace hx357_1 := hcb HB.out hx357_1)
    replace p357 := eq_true p357
    replace q357 := eq_true q357
    have p358 : 0 ≤ (x13_2 : Int) := oT (by (with_reducible assumption))
    have q358 : x13_2 < ((rd_L5 t353 a2).length : Int) := oT (by (with_reducible assumption))
    obtain ⟨ad358, e358, hx358_0, hx358_1⟩ := at_T35 HR356_0.out x13_2 p358 q358
    obtain rfl : ad357 = ad358 := (by injection e358)
    (try replace hx358_0 := hcb HB.out hx358_0)
    (try replace hx358_1 := hcb HB.out hx358_1)
    replace p358 := eq_true p358
    replace q358 := eq_true q358
    go_wp2
    repeat (go_quiet (fail); try go_wp2)
    go_roundg k2
    case measure => have := HJ5.out; have := HK2.out; omega
    case rel => exact ⟨(wrap64 ((wrap64 (((rd_T35 (rd_L5 t353 a2) x13_2).f0) * a3)) + (wrap64 (((rd_T35 (rd_L5 t353 a2) x13_2).f1) * a4)))), (wrap64 (x13_2 + 1)), (by rfl), (by rfl), H', ⟨by have := HJ5.out; have := HK2.out; omega⟩, ⟨bk BK347⟩, ⟨by repeat (first | (with_reducible exact HR356_0.out) | (with_reducible refine Kd.C_drewN ?_ _))⟩, ⟨bl1 HB GE347⟩⟩
   rw [if_neg c40] at H
   have c40b0 : decide (x11_2 < 0) = false := decide_eq_false c40
   clear c40
   by_cases c41 : (wrap64 ((wrap64 (((rd_T35 (rd_L5 t353 a2) x13_2).f0) * a3)) + (wrap64 (((rd_T35 (rd_L5 t353 a2) x13_2).f1) * a4)))) < x11_2
   rotate_left
   ·rw [if_neg c41] at H
    have c41b0 : decide ((wrap64 ((wrap64 (((rd_T35 (rd_L5 t353 a2) x13_2).f0) * a3)) + (wrap64 (((rd_T35 (rd_L5 t353 a2) x13_2).f1) * a4)))) < x11_2) = false := decide_eq_false c41
    clear c41
    have H' := ak H
    clear H
    have p357 : 0 ≤ (x13_2 : Int) := oT (by (with_reducible assumption))
    have q357 : x13_2 < ((rd_L5 t353 a2).length : Int) := oT (by (with_reducible assumption))
    obtain ⟨ad357, e357, hx357_0, hx357_1⟩ := at_T35 HR356_0.out x13_2 p357 q357
    cases e357
    (try replace hx357_0 := hcb HB.out hx357_0)
    (try replace hx357_1 := hcb HB.out hx357_1)
    replace p357 := eq_true p357
    replace q357 := eq_true q357
    have p358 : 0 ≤ (x13_2 : Int) := oT (by (with_reducible assumption))
    have q358 : x13_2 < ((rd_L5 t353 a2).length : Int) := oT (by (with_reducible assumption))
    obtain ⟨ad358, e358, hx358_0, hx358_1⟩ := at_T35 HR356_0.out x13_2 p358 q358
    obtain rfl : ad357 = ad358 := (by injection e358)
    (try replace hx358_0 := hcb HB.out hx358_0)
    (try replace hx358_1 := hcb HB.out hx358_1)
    replace p358 := eq_true p358
    replace q358 := eq_true q358
    go_wp2
    repeat (go_quiet (fail); try go_wp2)
    go_roundg k2
    case measure => have := HJ5.out; have := HK2.out; omega
    case rel => exact ⟨(x11_2), (wrap64 (x13_2 + 1)), (by rfl), (by rfl), H', ⟨by have := HJ5.out; have := HK2.out; omega⟩, ⟨bk BK347⟩, ⟨by repeat (first | (with_reducible exact HR356_0.out) | (with_reducible refine Kd.C_drewN ?_ _))⟩, ⟨bl1 HB GE347⟩⟩
   rw [if_pos c41] at H
   have c41b0 : decide ((wrap64 ((wrap64 (((rd_T35 (rd_L5 t353 a2) x13_2).f0) * a3)) + (wrap64 (((rd_T35 (rd_L5 t353 a2) x13_2).f1) * a4)))) < x11_2) = true := decide_eq_true c41
   clear c41
   have H' := ak H
   clear H
   have p357 : 0 ≤ (x13_2 : Int) := oT (by (with_reducible assumption))
   have q357 : x13_2 < ((rd_L5 t353 a2).length : Int) := oT (by (with_reducible assumption))
   obtain ⟨ad357, e357, hx357_0, hx357_1⟩ := at_T35 HR356_0.out x13_2 p357 q357
   cases e357
   (try replace hx357_0 := hcb HB.out hx357_0)
   (try replace hx357_1 := hcb HB.out hx357_1)
   replace p357 := eq_true p357
   replace q357 := eq_true q357
   have p358 : 0 ≤ (x13_2 : Int) := oT (by (with_reducible assumption))
   have q358 : x13_2 < ((rd_L5 t353 a2).length : Int) := oT (by (with_reducible assumption))
   obtain ⟨ad358, e358, hx358_0, hx358_1⟩ := at_T35 HR356_0.out x13_2 p358 q358
   obtain rfl : ad357 = ad358 := (by injection e358)
   (try replace hx358_0 := hcb HB.out hx358_0)
   (try replace hx358_1 := hcb HB.out hx358_1)
   replace p358 := eq_true p358
   replace q358 := eq_true q358
   go_wp2
   repeat (go_quiet (fail); try go_wp2)
   go_roundg k2
   case measure => have := HJ5.out; have := HK2.out; omega
   case rel => exact ⟨(wrap64 ((wrap64 (((rd_T35 (rd_L5 t353 a2) x13_2).f0) * a3)) + (wrap64 (((rd_T35 (rd_L5 t353 a2) x13_2).f1) * a4)))), (wrap64 (x13_2 + 1)), (by rfl), (by rfl), H', ⟨by have := HJ5.out; have := HK2.out; omega⟩, ⟨bk BK347⟩, ⟨by repeat (first | (with_reducible exact HR356_0.out) | (with_reducible refine Kd.C_drewN ?_ _))⟩, ⟨bl1 HB GE347⟩⟩

end Go.Proofs.Ytddkaiegnohkcaa.F
