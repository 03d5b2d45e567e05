-- Printed by wip/px/px.py of this claim's repository (the kit's printer, extended there). Lean checks it.
import Derived.Test.YtbappbbljncdeaaFKinds
import Derived.Test.YtbappbbljncdeaaFspecl1In
import Derived.Test.YtbappbbljncdeaaFspecl1Ok
import Derived.Test.YtbappbbljncdeaaFspecl19All
namespace Go.Proofs.Ytbappbbljncdeaa.F
open Go.RowKit Go.Proofs.YtbappbbljncdeaaW.PrintWords Go.Proofs.YtbappbbljncdeaaW.PrintLast Go.Proofs.YtbappbbljncdeaaW.PrintMore
attribute [local go_sem] max2_int min2_int max_two min_two max_three min_three max_four min_four   -- for this text's walks alone
set_option linter.unusedVariables false
set_option linter.unusedSimpArgs false

/-! ### spec_PairSum: function 55 -/
mutual
def spec_PairSum.j0 : Nat → Int → Int → Int → Int → Int → Bool → Int → List (S100) → Option (Int)
 | 0, _, _, _, _, _, _, _, _ => none
 | k + 1, x1, x2, x3, x4, x11, x43, x187000, x187001 => if x43 = true then (some (-1)) else ((spec_l19All.f k x187000 x187001 x1).bind fun t192 => (if 0 ≤ x2 then (if x2 < (t192.length : Int) then (spec_PairSum.l0 k x3 x4 x11 (rd_L4 t192 x2) 0) else (none)) else (none)))
def spec_PairSum.l0 : Nat → Int → Int → Int → List (S129) → Int → Option (Int)
 | 0, _, _, _, _, _ => none
 | k + 1, x3, x4, x11, x12, x13 => if x13 < (x12.length : Int) then (if 0 ≤ x13 then (if x11 < 0 then (spec_PairSum.l0 k x3 x4 (wrap64 ((wrap64 (((rd_T129 x12 x13).f0) * x3)) + (wrap64 (((rd_T129 x12 x13).f1) * x4)))) x12 (wrap64 (x13 + 1))) else (if (wrap64 ((wrap64 (((rd_T129 x12 x13).f0) * x3)) + (wrap64 (((rd_T129 x12 x13).f1) * x4)))) < x11 then (spec_PairSum.l0 k x3 x4 (wrap64 ((wrap64 (((rd_T129 x12 x13).f0) * x3)) + (wrap64 (((rd_T129 x12 x13).f1) * x4)))) x12 (wrap64 (x13 + 1))) else (spec_PairSum.l0 k x3 x4 x11 x12 (wrap64 (x13 + 1))))) else (none)) else (some x11)
end
def spec_PairSum.f (k : Nat) (a0_0 : Int) (l0_1 : List (S100)) (a1 : Int) (a2 : Int) (a3 : Int) (a4 : Int) : Option (Int) := (spec_l1Ok.f k a0_0 l0_1).bind fun t187 => (if t187 = true then ((spec_l1In.f a1 0 (wrap64 (a0_0 - 1))).bind fun t188 => (if t188 = true then ((spec_l1In.f a2 0 (wrap64 (a0_0 - 1))).bind fun t189 => (if t189 = true then ((spec_l1In.f a3 0 100).bind fun t190 => (if t190 = true then ((spec_l1In.f a4 0 100).bind fun t191 => (spec_PairSum.j0 k a1 a2 a3 a4 (-1) (!t191) a0_0 l0_1)) else (spec_PairSum.j0 k a1 a2 a3 a4 (-1) true a0_0 l0_1))) else (spec_PairSum.j0 k a1 a2 a3 a4 (-1) true a0_0 l0_1))) else (spec_PairSum.j0 k a1 a2 a3 a4 (-1) true a0_0 l0_1))) else (spec_PairSum.j0 k a1 a2 a3 a4 (-1) true a0_0 l0_1))
theorem spec_PairSum.mono_l : ∀ k, (∀ y0 y1 y2 y3 y4 y5 y6 y7, LeO (spec_PairSum.j0 k y0 y1 y2 y3 y4 y5 y6 y7) (spec_PairSum.j0 (k + 1) y0 y1 y2 y3 y4 y5 y6 y7)) ∧ (∀ y0 y1 y2 y3 y4, LeO (spec_PairSum.l0 k y0 y1 y2 y3 y4) (spec_PairSum.l0 (k + 1) y0 y1 y2 y3 y4))
 | 0 => ⟨fun _ _ _ _ _ _ _ _ r h => by simp [spec_PairSum.j0] at h, fun _ _ _ _ _ r h => by simp [spec_PairSum.l0] at h⟩
 | k + 1 => by
  obtain ⟨ih0, ih1⟩ := spec_PairSum.mono_l k
  refine ⟨?_, ?_⟩
  ·intro y0 y1 y2 y3 y4 y5 y6 y7
   unfold spec_PairSum.j0
   repeat' first | (with_reducible exact ih1 _ _ _ _ _) | (with_reducible exact spec_l19All.mono _ _ _ _) | (with_reducible exact LeO.refl _) | (with_reducible refine LeO.ite ?_ ?_) | (with_reducible refine LeO.bind ?_ (fun _ => ?_))
  ·intro y0 y1 y2 y3 y4
   unfold spec_PairSum.l0
   repeat' first | (with_reducible exact ih1 _ _ _ _ _) | (with_reducible exact LeO.refl _) | (with_reducible refine LeO.ite ?_ ?_)
theorem spec_PairSum.mono : ∀ a0 a1 a2 a3 a4 a5 k, LeO (spec_PairSum.f k a0 a1 a2 a3 a4 a5) (spec_PairSum.f (k + 1) a0 a1 a2 a3 a4 a5) := by
 intro a0 a1 a2 a3 a4 a5 k
 obtain ⟨ih0, ih1⟩ := spec_PairSum.mono_l k
 unfold spec_PairSum.f
 repeat' first | (with_reducible exact ih0 _ _ _ _ _ _ _ _) | (with_reducible exact spec_l1Ok.mono _ _ _) | (with_reducible exact LeO.refl _) | (with_reducible refine LeO.ite ?_ ?_) | (with_reducible refine LeO.bind ?_ (fun _ => ?_))
set_option maxHeartbeats 8000000 in
set_option maxRecDepth 100000 in
theorem spec_PairSum.calls (k : Nat) (a0_0 : Int) (A0_1 : Option Addr) (c0_1 : Nat) (l0_1 : List (S100)) (a1 : Int) (a2 : Int) (a3 : Int) (a4 : Int) (r : Int) (w : World) (hr0_1 : Kd.C k100 w A0_1 l0_1.length l0_1) (hc0_1 : l0_1.length ≤ c0_1) (h : spec_PairSum.f k a0_0 l0_1 a1 a2 a3 a4 = some r) :
  Calls Try.prog 55 #[.agg #[.int .i64 a0_0, .slice A0_1 l0_1.length c0_1], .int .i64 a1, .int .i64 a2, .int .i64 a3, .int .i64 a4] w fun e w' => e = .returned (.int .i64 r) ∧ Below w.heap.size w w' := by
 have hu30 := Try.underlying30
 have HR0_1 := ak hr0_1
 have HC0_1 := ak hc0_1
 clear hr0_1 hc0_1
 have HB := ak (Below.refl w.heap.size w)
 have H : ((spec_l1Ok.f k a0_0 l0_1).bind fun t187 => (if t187 = true then ((spec_l1In.f a1 0 (wrap64 (a0_0 - 1))).bind fun t188 => (if t188 = true then ((spec_l1In.f a2 0 (wrap64 (a0_0 - 1))).bind fun t189 => (if t189 = true then ((spec_l1In.f a3 0 100).bind fun t190 => (if t190 = true then ((spec_l1In.f a4 0 100).bind fun t191 => (spec_PairSum.j0 k a1 a2 a3 a4 (-1) (!t191) a0_0 l0_1)) else (spec_PairSum.j0 k a1 a2 a3 a4 (-1) true a0_0 l0_1))) else (spec_PairSum.j0 k a1 a2 a3 a4 (-1) true a0_0 l0_1))) else (spec_PairSum.j0 k a1 a2 a3 a4 (-1) true a0_0 l0_1))) else (spec_PairSum.j0 k a1 a2 a3 a4 (-1) true a0_0 l0_1))) = some r := h
 clear h
 have HC6 := ak H
 clear H
 go_enter Try.func55, Try.ntmps55
 go_upto_region 2 with (((with_reducible refine gate_dst (N := 5) rfl ?_); refine box_event ?hg (N := 5) ?hd (cs := #[.int .i64 a0_0, .slice A0_1 l0_1.length c0_1]) (t := 30) ?hr ?_; (case hd => rfl); (case hg => rfl); (case hr => (go_simp; done)); intro gb186 hg w7 hbox hb; have BK186 := ak (hbox); have GW186 := ak ((by rw [hg]; exact (below_size (bl HB)) : w.heap.size ≤ gb186)); have GE186 := ak ((by rw [hg]; exact (below_size (bl HB)) : w.heap.size ≤ gb186)); replace HB := ak (below_step (bl HB) hb); clear hb hbox hg))
 repeat (go_quiet (fail); go_upto_region 2 with (fail))
 (try simp only [Act.put, List.setIfInBounds_toArray, List.set_cons_zero, List.set_cons_succ])
 go_cut [43] (fun v43 wc => ∃ (kq : Nat) (x43_5 : Bool), v43 = .bool x43_5 ∧ Aside0 (spec_PairSum.j0 kq a1 a2 a3 a4 (-1) x43_5 a0_0 l0_1 = some r) ∧ Aside0 (kq ≤ k) ∧ Aside0 (wc.heap[gb186]? = some (.cells #[.int .i64 a0_0, (.slice A0_1 l0_1.length c0_1)] 30 (0, 0))) ∧ Aside0 (Below w.heap.size w wc))
 case first =>
  have H := HC6.out
  clear HC6
  replace H := Option.bind_eq_some_iff.mp H
  obtain ⟨t187, A80, H⟩ := H
  have A8 := ak A80
  clear A80
  by_cases c9 : t187 = true
  rotate_left
  ·replace c9 := Bool.eq_false_iff.mpr c9
   subst c9
   rw [if_neg (show ¬ (false = true) by decide)] at H
   have H' := ak H
   clear H
   have hcz29_0 := bc w7 BK186 0 (.int .i64 a0_0) rfl
   have hcz29_1 := bc w7 BK186 1 (.slice A0_1 l0_1.length c0_1) rfl
   have hfz29_0 := fz BK186 0
   have hfz29_1 := fz BK186 1
   go_wp2_with ((go_at_call 58; (with_reducible refine (spec_l1Ok.calls k a0_0 _ _ l0_1 false _ ?side1 ?side2 A8.out).mono ?_); (case side1 => repeat (exact (Kd.C_below HR0_1.out HB.out))); (case side2 => exact HC0_1.out); rintro e w30 ⟨rfl, hb⟩; have n0_ := ak (blk_below (bk BK186) hb); have n1_ := ak (below_step (bl1 HB GE186) hb); clear BK186; clear HB; have BK186 := n0_; have HB := n1_; clear n0_ n1_; (try clear hb); (try clear hb2); (try clear hk); (try clear hi)))
   repeat (go_quiet (fail); try go_wp2_with (fail))
   go_meet
   case rel => exact ⟨_, (true), (by rfl), H', ⟨by omega⟩, ⟨bk BK186⟩, ⟨bl1 HB GE186⟩⟩
  subst c9
  rw [if_pos rfl] at H
  replace H := Option.bind_eq_some_iff.mp H
  obtain ⟨t188, A100, H⟩ := H
  have A10 := ak A100
  clear A100
  by_cases c11 : t188 = true
  rotate_left
  ·replace c11 := Bool.eq_false_iff.mpr c11
   subst c11
   rw [if_neg (show ¬ (false = true) by decide)] at H
   have H' := ak H
   clear H
   have hcz26_0 := bc w7 BK186 0 (.int .i64 a0_0) rfl
   have hcz26_1 := bc w7 BK186 1 (.slice A0_1 l0_1.length c0_1) rfl
   have hfz26_0 := fz BK186 0
   have hfz26_1 := fz BK186 1
   go_wp2_with (first | (go_at_call 58; (with_reducible refine (spec_l1Ok.calls k a0_0 _ _ l0_1 true _ ?side1 ?side2 A8.out).mono ?_); (case side1 => repeat (exact (Kd.C_below HR0_1.out HB.out))); (case side2 => exact HC0_1.out); rintro e w27 ⟨rfl, hb⟩; have n0_ := ak (blk_below (bk BK186) hb); have n1_ := ak (below_step (bl1 HB GE186) hb); clear BK186; clear HB; have BK186 := n0_; have HB := n1_; clear n0_ n1_; (try clear hb); (try clear hb2); (try clear hk); (try clear hi); have hcz28_0 := bc w27 BK186 0 (.int .i64 a0_0) rfl; have hcz28_1 := bc w27 BK186 1 (.slice A0_1 l0_1.length c0_1) rfl; have hfz28_0 := fz BK186 0; have hfz28_1 := fz BK186 1) | (go_at_call 70; (with_reducible refine (spec_l1In.calls a1 0 (wrap64 (a0_0 - 1)) false _ A10.out).mono ?_); rintro e w' ⟨rfl, ⟨nd, rfl⟩⟩; (try fail)))
   repeat (go_quiet (fail); try go_wp2_with (fail))
   go_meet
   case rel => exact ⟨_, (true), (by rfl), H', ⟨by omega⟩, ⟨bk BK186⟩, ⟨bl1 HB GE186⟩⟩
  subst c11
  rw [if_pos rfl] at H
  replace H := Option.bind_eq_some_iff.mp H
  obtain ⟨t189, A120, H⟩ := H
  have A12 := ak A120
  clear A120
  by_cases c13 : t189 = true
  rotate_left
  ·replace c13 := Bool.eq_false_iff.mpr c13
   subst c13
   rw [if_neg (show ¬ (false = true) by decide)] at H
   have H' := ak H
   clear H
   have hcz23_0 := bc w7 BK186 0 (.int .i64 a0_0) rfl
   have hcz23_1 := bc w7 BK186 1 (.slice A0_1 l0_1.length c0_1) rfl
   have hfz23_0 := fz BK186 0
   have hfz23_1 := fz BK186 1
   go_wp2_with (first | (go_at_call 58; (with_reducible refine (spec_l1Ok.calls k a0_0 _ _ l0_1 true _ ?side1 ?side2 A8.out).mono ?_); (case side1 => repeat (exact (Kd.C_below HR0_1.out HB.out))); (case side2 => exact HC0_1.out); rintro e w24 ⟨rfl, hb⟩; have n0_ := ak (blk_below (bk BK186) hb); have n1_ := ak (below_step (bl1 HB GE186) hb); clear BK186; clear HB; have BK186 := n0_; have HB := n1_; clear n0_ n1_; (try clear hb); (try clear hb2); (try clear hk); (try clear hi); have hcz25_0 := bc w24 BK186 0 (.int .i64 a0_0) rfl; have hcz25_1 := bc w24 BK186 1 (.slice A0_1 l0_1.length c0_1) rfl; have hfz25_0 := fz BK186 0; have hfz25_1 := fz BK186 1) | (go_at_call 70; (with_reducible refine (spec_l1In.calls a1 0 (wrap64 (a0_0 - 1)) true _ A10.out).mono ?_); rintro e w' ⟨rfl, ⟨nd, rfl⟩⟩; (try fail)) | (go_at_call 70; (with_reducible refine (spec_l1In.calls a2 0 (wrap64 (a0_0 - 1)) false _ A12.out).mono ?_); rintro e w' ⟨rfl, ⟨nd, rfl⟩⟩; (try fail)))
   repeat (go_quiet (fail); try go_wp2_with (fail))
   go_meet
   case rel => exact ⟨_, (true), (by rfl), H', ⟨by omega⟩, ⟨bk BK186⟩, ⟨bl1 HB GE186⟩⟩
  subst c13
  rw [if_pos rfl] at H
  replace H := Option.bind_eq_some_iff.mp H
  obtain ⟨t190, A140, H⟩ := H
  have A14 := ak A140
  clear A140
  by_cases c15 : t190 = true
  rotate_left
  ·replace c15 := Bool.eq_false_iff.mpr c15
   subst c15
   rw [if_neg (show ¬ (false = true) by decide)] at H
   have H' := ak H
   clear H
   have hcz20_0 := bc w7 BK186 0 (.int .i64 a0_0) rfl
   have hcz20_1 := bc w7 BK186 1 (.slice A0_1 l0_1.length c0_1) rfl
   have hfz20_0 := fz BK186 0
   have hfz20_1 := fz BK186 1
   go_wp2_with (first | (go_at_call 58; (with_reducible refine (spec_l1Ok.calls k a0_0 _ _ l0_1 true _ ?side1 ?side2 A8.out).mono ?_); (case side1 => repeat (exact (Kd.C_below HR0_1.out HB.out))); (case side2 => exact HC0_1.out); rintro e w21 ⟨rfl, hb⟩; have n0_ := ak (blk_below (bk BK186) hb); have n1_ := ak (below_step (bl1 HB GE186) hb); clear BK186; clear HB; have BK186 := n0_; have HB := n1_; clear n0_ n1_; (try clear hb); (try clear hb2); (try clear hk); (try clear hi); have hcz22_0 := bc w21 BK186 0 (.int .i64 a0_0) rfl; have hcz22_1 := bc w21 BK186 1 (.slice A0_1 l0_1.length c0_1) rfl; have hfz22_0 := fz BK186 0; have hfz22_1 := fz BK186 1) | (go_at_call 70; (with_reducible refine (spec_l1In.calls a1 0 (wrap64 (a0_0 - 1)) true _ A10.out).mono ?_); rintro e w' ⟨rfl, ⟨nd, rfl⟩⟩; (try fail)) | (go_at_call 70; (with_reducible refine (spec_l1In.calls a2 0 (wrap64 (a0_0 - 1)) true _ A12.out).mono ?_); rintro e w' ⟨rfl, ⟨nd, rfl⟩⟩; (try fail)) | (go_at_call 70; (with_reducible refine (spec_l1In.calls a3 0 100 false _ A14.out).mono ?_); rintro e w' ⟨rfl, ⟨nd, rfl⟩⟩; (try fail)))
   repeat (go_quiet (fail); try go_wp2_with (fail))
   go_meet
   case rel => exact ⟨_, (true), (by rfl), H', ⟨by omega⟩, ⟨bk BK186⟩, ⟨bl1 HB GE186⟩⟩
  subst c15
  rw [if_pos rfl] at H
  replace H := Option.bind_eq_some_iff.mp H
  obtain ⟨t191, A160, H⟩ := H
  have A16 := ak A160
  clear A160
  have H' := ak H
  clear H
  have hcz17_0 := bc w7 BK186 0 (.int .i64 a0_0) rfl
  have hcz17_1 := bc w7 BK186 1 (.slice A0_1 l0_1.length c0_1) rfl
  have hfz17_0 := fz BK186 0
  have hfz17_1 := fz BK186 1
  go_wp2_with (first | (go_at_call 58; (with_reducible refine (spec_l1Ok.calls k a0_0 _ _ l0_1 true _ ?side1 ?side2 A8.out).mono ?_); (case side1 => repeat (exact (Kd.C_below HR0_1.out HB.out))); (case side2 => exact HC0_1.out); rintro e w18 ⟨rfl, hb⟩; have n0_ := ak (blk_below (bk BK186) hb); have n1_ := ak (below_step (bl1 HB GE186) hb); clear BK186; clear HB; have BK186 := n0_; have HB := n1_; clear n0_ n1_; (try clear hb); (try clear hb2); (try clear hk); (try clear hi); have hcz19_0 := bc w18 BK186 0 (.int .i64 a0_0) rfl; have hcz19_1 := bc w18 BK186 1 (.slice A0_1 l0_1.length c0_1) rfl; have hfz19_0 := fz BK186 0; have hfz19_1 := fz BK186 1) | (go_at_call 70; (with_reducible refine (spec_l1In.calls a1 0 (wrap64 (a0_0 - 1)) true _ A10.out).mono ?_); rintro e w' ⟨rfl, ⟨nd, rfl⟩⟩; (try fail)) | (go_at_call 70; (with_reducible refine (spec_l1In.calls a2 0 (wrap64 (a0_0 - 1)) true _ A12.out).mono ?_); rintro e w' ⟨rfl, ⟨nd, rfl⟩⟩; (try fail)) | (go_at_call 70; (with_reducible refine (spec_l1In.calls a3 0 100 true _ A14.out).mono ?_); rintro e w' ⟨rfl, ⟨nd, rfl⟩⟩; (try fail)) | (go_at_call 70; (with_reducible refine (spec_l1In.calls a4 0 100 t191 _ A16.out).mono ?_); rintro e w' ⟨rfl, ⟨nd, rfl⟩⟩; (try fail)))
  repeat (go_quiet (fail); try go_wp2_with (fail))
  go_meet
  case rel => exact ⟨_, (!t191), (by rfl), H', ⟨by omega⟩, ⟨bk BK186⟩, ⟨bl1 HB GE186⟩⟩
 clear HC6
 try clear c1
 try clear p2
 try clear c5
 try clear p6
 try clear c9
 try clear c11
 try clear c13
 try clear c15
 try clear hcz17_0
 try clear hcz17_1
 try clear hcz19_0
 try clear hcz19_1
 try clear hcz20_0
 try clear hcz20_1
 try clear hcz22_0
 try clear hcz22_1
 try clear hcz23_0
 try clear hcz23_1
 try clear hcz25_0
 try clear hcz25_1
 try clear hcz26_0
 try clear hcz26_1
 try clear hcz28_0
 try clear hcz28_1
 try clear hcz29_0
 try clear hcz29_1
 try clear hfz17_0
 try clear hfz17_1
 try clear hfz19_0
 try clear hfz19_1
 try clear hfz20_0
 try clear hfz20_1
 try clear hfz22_0
 try clear hfz22_1
 try clear hfz23_0
 try clear hfz23_1
 try clear hfz25_0
 try clear hfz25_1
 try clear hfz26_0
 try clear hfz26_1
 try clear hfz28_0
 try clear hfz28_1
 try clear hfz29_0
 try clear hfz29_1
 obtain ⟨kq, x43_5, rfl, HA, HJ5, BK186, HB⟩ := hcut
 cases kq with
 | zero => exact absurd HA.out (by simp [spec_PairSum.j0])
 | succ kj5 =>
  have H := HA.out
  clear HA
  simp only [spec_PairSum.j0] at H
  by_cases c31 : x43_5 = true
  ·subst c31
   rw [if_pos rfl] at H
   obtain rfl := Option.some.inj H
   go_wp2
   repeat (go_quiet (fail); try go_wp2)
   go_ret
   exact ⟨by rfl, bl1 HB GE186⟩
  replace c31 := Bool.eq_false_iff.mpr c31
  subst c31
  rw [if_neg (show ¬ (false = true) by decide)] at H
  replace H := Option.bind_eq_some_iff.mp H
  obtain ⟨t192, A320, H⟩ := H
  have A32 := ak A320
  clear A320
  by_cases c33 : 0 ≤ a2
  rotate_left
  ·rw [if_neg c33] at H
   exact absurd H (by simp)
  rw [if_pos c33] at H
  have c33b0 : decide (0 ≤ a2) = true := decide_eq_true c33
  clear c33
  by_cases c34 : a2 < (t192.length : Int)
  rotate_left
  ·rw [if_neg c34] at H
   exact absurd H (by simp)
  rw [if_pos c34] at H
  have c34b0 : decide (a2 < (t192.length : Int)) = true := decide_eq_true c34
  clear c34
  have H' := ak H
  clear H
  have hcz35_0 := bc wc BK186 0 (.int .i64 a0_0) rfl
  have hcz35_1 := bc wc BK186 1 (.slice A0_1 l0_1.length c0_1) rfl
  have hfz35_0 := fz BK186 0
  have hfz35_1 := fz BK186 1
  go_wp2_with ((go_at_call 116; (with_reducible refine (spec_l19All.calls kj5 a0_0 _ _ l0_1 a1 t192 _ ?side1 ?side2 A32.out).mono ?_); (case side1 => repeat (exact (Kd.C_below HR0_1.out HB.out))); (case side2 => exact HC0_1.out); rintro e w36 ⟨v193, rfl, ho0, hb⟩; have n0_ := ak (Kd.N_lower (Kd.N_mono (ok' := fun k_ => k_ ≠ gb186) ho0 (fun k_ hk_ => (Kd.freshB (bk BK186) k_ hk_))) (below_size (bl1 HB GE186))); have n1_ := ak (blk_below (bk BK186) hb); have n2_ := ak (below_step (bl1 HB GE186) hb); clear BK186; clear HB; have HO194 := n0_; have BK186 := n1_; have HB := n2_; clear n0_ n1_ n2_; (try clear hb); (try clear hb2); (try clear hk); (try clear hi); (try clear ho0); obtain ⟨Ao37, co37, eo37⟩ := Kd.N_slice HO194.out; subst eo37; have p195 : 0 ≤ (a2 : Int) := oT (by (with_reducible assumption)); have q195 : a2 < (t192.length : Int) := oT (by (with_reducible assumption)); obtain ⟨ad195, A195_0, c195_0, e195, hx195_0, hl195_0, hi195_0⟩ := at_L4 (Kd.N_reads' HO194.out).2.2 a2 p195 q195; cases e195; obtain ⟨ce195, hce195, hMe195, hcc195⟩ := Kd.N_get HO194.out [] a2 p195 (by exact q195); obtain ⟨ua195_0, uc195_0, rfl, ul195_0, ge195_0⟩ := Kd.FK_slice_open hMe195; have hv195_0 := hcc195 0 _ rfl; rw [Nat.add_zero, show ((Kd.slice 129 k129)).sz = 1 from rfl, Nat.mul_one] at hv195_0; replace hv195_0 := Option.some.inj (hv195_0.symm.trans hx195_0); injection hv195_0 with hva_ hvn_ hvc_; rw [hva_] at ge195_0; rw [hvc_] at ul195_0; have HL195_0 := ak (show Kd.V k129 129 _ w.heap.size _ _ (rd_L4 t192 a2) from Kd.V_mk ul195_0 ge195_0); clear hva_ hvn_ hvc_ ge195_0 ul195_0; clear hcc195 hce195; have HR195_0 := ak hi195_0; have HC195_0 := ak hl195_0; clear hi195_0 hl195_0; replace p195 := eq_true p195; replace q195 := eq_true q195))
  repeat (go_quiet (fail); try go_wp2_with (fail))
  go_loopg [11, 13] kj5 (fun kq v11 v13 w' => ∃ (x11_2 : Int) (x13_2 : Int), v11 = .int .i64 x11_2 ∧ v13 = .int .i64 x13_2 ∧ Aside0 (spec_PairSum.l0 kq a3 a4 x11_2 (rd_L4 t192 a2) x13_2 = some r) ∧ Aside0 (kq ≤ kj5) ∧ Aside0 (w'.heap[gb186]? = some (.cells #[.int .i64 a0_0, (.slice A0_1 l0_1.length c0_1)] 30 (0, 0))) ∧ Aside0 (Kd.C k129 w' A195_0 (rd_L4 t192 a2).length (rd_L4 t192 a2)) ∧ Aside0 (Below w.heap.size w w'))
  case atStart => exact ⟨((-1)), (0), (by rfl), (by rfl), H', ⟨Nat.le_refl _⟩, ⟨bk BK186⟩, ⟨by repeat ((with_reducible exact HR195_0.out))⟩, ⟨bl1 HB GE186⟩⟩
  clear H'
  try clear c1
  try clear p1
  try clear q1
  try clear hx1
  try clear p2
  try clear c3
  try clear c5
  try clear p6
  try clear c9
  try clear c11
  try clear c13
  try clear c15
  try clear c19
  try clear p19
  try clear q19
  try clear hx19
  try clear c31
  try clear c33
  try clear c33b0
  try clear c34
  try clear c34b0
  try clear hcz17_0
  try clear hcz17_1
  try clear hcz19_0
  try clear hcz19_1
  try clear hcz20_0
  try clear hcz20_1
  try clear hcz22_0
  try clear hcz22_1
  try clear hcz23_0
  try clear hcz23_1
  try clear hcz25_0
  try clear hcz25_1
  try clear hcz26_0
  try clear hcz26_1
  try clear hcz28_0
  try clear hcz28_1
  try clear hcz29_0
  try clear hcz29_1
  try clear hcz35_0
  try clear hcz35_1
  try clear hfz17_0
  try clear hfz17_1
  try clear hfz19_0
  try clear hfz19_1
  try clear hfz20_0
  try clear hfz20_1
  try clear hfz22_0
  try clear hfz22_1
  try clear hfz23_0
  try clear hfz23_1
  try clear hfz25_0
  try clear hfz25_1
  try clear hfz26_0
  try clear hfz26_1
  try clear hfz28_0
  try clear hfz28_1
  try clear hfz29_0
  try clear hfz29_1
  try clear hfz35_0
  try clear hfz35_1
  try clear hx195_0
  try clear p195
  try clear p2
  try clear p6
  try clear q195
  obtain ⟨x11_2, x13_2, rfl, rfl, HA, HK2, BK186, HR195_0, HB⟩ := hrel
  cases gk with
  | zero => exact absurd HA.out (by simp [spec_PairSum.l0])
  | succ k2 =>
   have H := HA.out
   clear HA
   simp only [spec_PairSum.l0] at H
   by_cases c38 : x13_2 < ((rd_L4 t192 a2).length : Int)
   rotate_left
   ·rw [if_neg c38] at H
    have c38b0 : decide (x13_2 < ((rd_L4 t192 a2).length : Int)) = false := decide_eq_false c38
    clear c38
    obtain rfl := Option.some.inj H
    go_wp2
    repeat (go_quiet (fail); try go_wp2)
    go_ret
    exact ⟨by rfl, bl1 HB GE186⟩
   rw [if_pos c38] at H
   have c38b0 : decide (x13_2 < ((rd_L4 t192 a2).length : Int)) = true := decide_eq_true c38
   clear c38
   by_cases c39 : 0 ≤ x13_2
   rotate_left
   ·rw [if_neg c39] at H
    exact absurd H (by simp)
   rw [if_pos c39] at H
   have c39b0 : decide (0 ≤ x13_2) = true := decide_eq_true c39
   clear c39
   by_cases c40 : x11_2 < 0
   ·rw [if_pos c40] at H
    have c40b0 : decide (x11_2 < 0) = true := decide_eq_true c40
    clear c40
    have H' := ak H
    clear H
    have p196 : 0 ≤ (x13_2 : Int) := oT (by (with_reducible assumption))
    have q196 : x13_2 < ((rd_L4 t192 a2).length : Int) := oT (by (with_reducible assumption))
    obtain ⟨ad196, e196, hx196_0, hx196_1⟩ := at_T129 HR195_0.out x13_2 p196 q196
    cases e196
    (try replace hx196_0 := hcb HB.out hx196_0)
    (try replace hx196_1 := hcb HB.out hx196_1)
    replace p196 := eq_true p196
    replace q196 := eq_true q196
    have p197 : 0 ≤ (x13_2 : Int) := oT (by (with_reducible assumption))
    have q197 : x13_2 < ((rd_L4 t192 a2).length : Int) := oT (by (with_reducible assumption))
    obtain ⟨ad197, e197, hx197_0, hx197_1⟩ := at_T129 HR195_0.out x13_2 p197 q197
    obtain rfl : ad196 = ad197 := (by injection e197)
    (try replace hx197_0 := hcb HB.out hx197_0)
    (try replace hx197_1 := hcb HB.out hx197_1)
    replace p197 := eq_true p197
    replace q197 := eq_true q197
    go_wp2
    repeat (go_quiet (fail); try go_wp2)
    go_roundg k2
    case measure => have := HJ5.out; have := HK2.out; omega
    case rel => exact ⟨(wrap64 ((wrap64 (((rd_T129 (rd_L4 t192 a2) x13_2).f0) * a3)) + (wrap64 (((rd_T129 (rd_L4 t192 a2) x13_2).f1) * a4)))), (wrap64 (x13_2 + 1)), (by rfl), (by rfl), H', ⟨by have := HJ5.out; have := HK2.out; omega⟩, ⟨bk BK186⟩, ⟨by repeat (first | (with_reducible exact HR195_0.out) | (with_reducible refine Kd.C_drewN ?_ _))⟩, ⟨bl1 HB GE186⟩⟩
   rw [if_neg c40] at H
   have c40b0 : decide (x11_2 < 0) = false := decide_eq_false c40
   clear c40
   by_cases c41 : (wrap64 ((wrap64 (((rd_T129 (rd_L4 t192 a2) x13_2).f0) * a3)) + (wrap64 (((rd_T129 (rd_L4 t192 a2) x13_2).f1) * a4)))) < x11_2
   rotate_left
   ·rw [if_neg c41] at H
    have c41b0 : decide ((wrap64 ((wrap64 (((rd_T129 (rd_L4 t192 a2) x13_2).f0) * a3)) + (wrap64 (((rd_T129 (rd_L4 t192 a2) x13_2).f1) * a4)))) < x11_2) = false := decide_eq_false c41
    clear c41
    have H' := ak H
    clear H
    have p196 : 0 ≤ (x13_2 : Int) := oT (by (with_reducible assumption))
    have q196 : x13_2 < ((rd_L4 t192 a2).length : Int) := oT (by (with_reducible assumption))
    obtain ⟨ad196, e196, hx196_0, hx196_1⟩ := at_T129 HR195_0.out x13_2 p196 q196
    cases e196
    (try replace hx196_0 := hcb HB.out hx196_0)
    (try replace hx196_1 := hcb HB.out hx196_1)
    replace p196 := eq_true p196
    replace q196 := eq_true q196
    have p197 : 0 ≤ (x13_2 : Int) := oT (by (with_reducible assumption))
    have q197 : x13_2 < ((rd_L4 t192 a2).length : Int) := oT (by (with_reducible assumption))
    obtain ⟨ad197, e197, hx197_0, hx197_1⟩ := at_T129 HR195_0.out x13_2 p197 q197
    obtain rfl : ad196 = ad197 := (by injection e197)
    (try replace hx197_0 := hcb HB.out hx197_0)
    (try replace hx197_1 := hcb HB.out hx197_1)
    replace p197 := eq_true p197
    replace q197 := eq_true q197
    go_wp2
    repeat (go_quiet (fail); try go_wp2)
    go_roundg k2
    case measure => have := HJ5.out; have := HK2.out; omega
    case rel => exact ⟨(x11_2), (wrap64 (x13_2 + 1)), (by rfl), (by rfl), H', ⟨by have := HJ5.out; have := HK2.out; omega⟩, ⟨bk BK186⟩, ⟨by repeat (first | (with_reducible exact HR195_0.out) | (with_reducible refine Kd.C_drewN ?_ _))⟩, ⟨bl1 HB GE186⟩⟩
   rw [if_pos c41] at H
   have c41b0 : decide ((wrap64 ((wrap64 (((rd_T129 (rd_L4 t192 a2) x13_2).f0) * a3)) + (wrap64 (((rd_T129 (rd_L4 t192 a2) x13_2).f1) * a4)))) < x11_2) = true := decide_eq_true c41
   clear c41
   have H' := ak H
   clear H
   have p196 : 0 ≤ (x13_2 : Int) := oT (by (with_reducible assumption))
   have q196 : x13_2 < ((rd_L4 t192 a2).length : Int) := oT (by (with_reducible assumption))
   obtain ⟨ad196, e196, hx196_0, hx196_1⟩ := at_T129 HR195_0.out x13_2 p196 q196
   cases e196
   (try replace hx196_0 := hcb HB.out hx196_0)
   (try replace hx196_1 := hcb HB.out hx196_1)
   replace p196 := eq_true p196
   replace q196 := eq_true q196
   have p197 : 0 ≤ (x13_2 : Int) := oT (by (with_reducible assumption))
   have q197 : x13_2 < ((rd_L4 t192 a2).length : Int) := oT (by (with_reducible assumption))
   obtain ⟨ad197, e197, hx197_0, hx197_1⟩ := at_T129 HR195_0.out x13_2 p197 q197
   obtain rfl : ad196 = ad197 := (by injection e197)
   (try replace hx197_0 := hcb HB.out hx197_0)
   (try replace hx197_1 := hcb HB.out hx197_1)
   replace p197 := eq_true p197
   replace q197 := eq_true q197
   go_wp2
   repeat (go_quiet (fail); try go_wp2)
   go_roundg k2
   case measure => have := HJ5.out; have := HK2.out; omega
   case rel => exact ⟨(wrap64 ((wrap64 (((rd_T129 (rd_L4 t192 a2) x13_2).f0) * a3)) + (wrap64 (((rd_T129 (rd_L4 t192 a2) x13_2).f1) * a4)))), (wrap64 (x13_2 + 1)), (by rfl), (by rfl), H', ⟨by have := HJ5.out; have := HK2.out; omega⟩, ⟨bk BK186⟩, ⟨by repeat (first | (with_reducible exact HR195_0.out) | (with_reducible refine Kd.C_drewN ?_ _))⟩, ⟨bl1 HB GE186⟩⟩

end Go.Proofs.Ytbappbbljncdeaa.F
