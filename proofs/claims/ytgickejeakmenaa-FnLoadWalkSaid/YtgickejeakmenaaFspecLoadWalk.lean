-- Printed by wip/px/px.py of this claim's repository (the kit's printer, extended there). Lean checks it.
import Derived.Test.YtgickejeakmenaaFKinds
import Derived.Test.YtgickejeakmenaaFspecl1In
import Derived.Test.YtgickejeakmenaaFspecl1Ok
import Derived.Test.YtgickejeakmenaaFspecl18For
import Derived.Test.YtgickejeakmenaaFspecl3Walk
namespace Go.Proofs.Ytgickejeakmenaa.F
open Go.RowKit Go.Proofs.YtgickejeakmenaaW.PrintWords Go.Proofs.YtgickejeakmenaaW.PrintLast Go.Proofs.YtgickejeakmenaaW.PrintMore
attribute [local go_sem] max2_int min2_int max_two min_two max_three min_three max_four min_four   -- for this text's walks alone
set_option linter.unusedVariables false
set_option linter.unusedSimpArgs false

/-! ### spec_LoadWalk: function 45 -/
mutual
def spec_LoadWalk.j0 : Nat → Int → Int → Int → Bool → Int → List (S41) → Option (List Int × Bool)
 | 0, _, _, _, _, _, _ => none
 | k + 1, x1, x2, x3, x39, x1322000, x1322001 => if x39 = true then (some (([] : List Int), false)) else (spec_LoadWalk.l0 k x1 x2 x3 (([] : List Int)) 0 x1322000 x1322001)
def spec_LoadWalk.l0 : Nat → Int → Int → Int → List Int → Int → Int → List (S41) → Option (List Int × Bool)
 | 0, _, _, _, _, _, _, _ => none
 | k + 1, x1, x2, x3, x10, x11, x1322000, x1322001 => if x11 < (x1322001.length : Int) then (if 0 ≤ x11 then (if ((rd_T41 x1322001 x11).f4) ≥ x3 then (if x10.length < 17592186044416 then (spec_LoadWalk.l0 k x1 x2 x3 (x10 ++ [x11]) (wrap64 (x11 + 1)) x1322000 x1322001) else (none)) else (spec_LoadWalk.l0 k x1 x2 x3 x10 (wrap64 (x11 + 1)) x1322000 x1322001)) else (none)) else ((spec_l18For.f k x1322000 x1322001 x3).bind fun bt1333 => ((spec_l3Walk.f k bt1333.1 bt1333.2 x1 x2).bind fun bt1337 => (spec_LoadWalk.l1 k x10 bt1337.1 bt1337.2 (([] : List Int)) 0)))
def spec_LoadWalk.l1 : Nat → List Int → List Int → Bool → List Int → Int → Option (List Int × Bool)
 | 0, _, _, _, _, _ => none
 | k + 1, x10, x12, x13, x14, x15 => if x15 < (x12.length : Int) then (if 0 ≤ x15 then (if 0 ≤ (rd x12 x15) then (if (rd x12 x15) < (x10.length : Int) then (if x14.length < 17592186044416 then (spec_LoadWalk.l1 k x10 x12 x13 (x14 ++ [rd x10 (rd x12 x15)]) (wrap64 (x15 + 1))) else (none)) else (none)) else (none)) else (none)) else (some (x14, x13))
end
def spec_LoadWalk.f (k : Nat) (a0_0 : Int) (l0_1 : List (S41)) (a1 : Int) (a2 : Int) (a3 : Int) : Option (List Int × Bool) := (spec_l1Ok.f k a0_0 l0_1).bind fun t1322 => (if t1322 = true then ((spec_l1In.f a1 0 (wrap64 (a0_0 - 1))).bind fun t1323 => (if t1323 = true then ((spec_l1In.f a2 0 (wrap64 (a0_0 - 1))).bind fun t1324 => (if t1324 = true then ((spec_l1In.f a3 0 9).bind fun t1325 => (spec_LoadWalk.j0 k a1 a2 a3 (!t1325) a0_0 l0_1)) else (spec_LoadWalk.j0 k a1 a2 a3 true a0_0 l0_1))) else (spec_LoadWalk.j0 k a1 a2 a3 true a0_0 l0_1))) else (spec_LoadWalk.j0 k a1 a2 a3 true a0_0 l0_1))
theorem spec_LoadWalk.mono_l : ∀ k, (∀ y0 y1 y2 y3 y4 y5, LeO (spec_LoadWalk.j0 k y0 y1 y2 y3 y4 y5) (spec_LoadWalk.j0 (k + 1) y0 y1 y2 y3 y4 y5)) ∧ (∀ y0 y1 y2 y3 y4 y5 y6, LeO (spec_LoadWalk.l0 k y0 y1 y2 y3 y4 y5 y6) (spec_LoadWalk.l0 (k + 1) y0 y1 y2 y3 y4 y5 y6)) ∧ (∀ y0 y1 y2 y3 y4, LeO (spec_LoadWalk.l1 k y0 y1 y2 y3 y4) (spec_LoadWalk.l1 (k + 1) y0 y1 y2 y3 y4))
 | 0 => ⟨fun _ _ _ _ _ _ r h => by simp [spec_LoadWalk.j0] at h, fun _ _ _ _ _ _ _ r h => by simp [spec_LoadWalk.l0] at h, fun _ _ _ _ _ r h => by simp [spec_LoadWalk.l1] at h⟩
 | k + 1 => by
  obtain ⟨ih0, ih1, ih2⟩ := spec_LoadWalk.mono_l k
  refine ⟨?_, ?_, ?_⟩
  ·intro y0 y1 y2 y3 y4 y5
   unfold spec_LoadWalk.j0
   repeat' first | (with_reducible exact ih1 _ _ _ _ _ _ _) | (with_reducible exact LeO.refl _) | (with_reducible refine LeO.ite ?_ ?_)
  ·intro y0 y1 y2 y3 y4 y5 y6
   unfold spec_LoadWalk.l0
   repeat' first | (with_reducible exact ih1 _ _ _ _ _ _ _) | (with_reducible exact ih2 _ _ _ _ _) | (with_reducible exact spec_l18For.mono _ _ _ _) | (with_reducible exact spec_l3Walk.mono _ _ _ _ _) | (with_reducible exact LeO.refl _) | (with_reducible refine LeO.ite ?_ ?_) | (with_reducible refine LeO.bind ?_ (fun _ => ?_))
  ·intro y0 y1 y2 y3 y4
   unfold spec_LoadWalk.l1
   repeat' first | (with_reducible exact ih2 _ _ _ _ _) | (with_reducible exact LeO.refl _) | (with_reducible refine LeO.ite ?_ ?_)
theorem spec_LoadWalk.mono : ∀ a0 a1 a2 a3 a4 k, LeO (spec_LoadWalk.f k a0 a1 a2 a3 a4) (spec_LoadWalk.f (k + 1) a0 a1 a2 a3 a4) := by
 intro a0 a1 a2 a3 a4 k
 obtain ⟨ih0, ih1, ih2⟩ := spec_LoadWalk.mono_l k
 unfold spec_LoadWalk.f
 repeat' first | (with_reducible exact ih0 _ _ _ _ _ _) | (with_reducible exact spec_l1Ok.mono _ _ _) | (with_reducible exact LeO.refl _) | (with_reducible refine LeO.ite ?_ ?_) | (with_reducible refine LeO.bind ?_ (fun _ => ?_))
set_option maxHeartbeats 8000000 in
set_option maxRecDepth 100000 in
theorem spec_LoadWalk.calls (k : Nat) (a0_0 : Int) (A0_1 : Option Addr) (c0_1 : Nat) (l0_1 : List (S41)) (a1 : Int) (a2 : Int) (a3 : Int) (r1 : List Int) (r2 : Bool) (w : World) (hr0_1 : Kd.C k41 w A0_1 l0_1.length l0_1) (hc0_1 : l0_1.length ≤ c0_1) (h : spec_LoadWalk.f k a0_0 l0_1 a1 a2 a3 = some (r1, r2)) :
  Calls Try.prog 45 #[.agg #[.int .i64 a0_0, .slice A0_1 l0_1.length c0_1], .int .i64 a1, .int .i64 a2, .int .i64 a3] w fun e w' => ∃ v0_ : Value, e = .returned (.tuple #[v0_, .bool r2]) ∧ Kd.R (Kd.int .i64) 3 w' w.heap.size (fun _ => True) v0_ r1 ∧ Below w.heap.size w w' := by
 have hu25 := Try.underlying25
 have HR0_1 := Aside0.mk hr0_1
 have HC0_1 := Aside0.mk hc0_1
 clear hr0_1 hc0_1
 have HB := Aside0.mk (Below.refl w.heap.size w)
 have H : ((spec_l1Ok.f k a0_0 l0_1).bind fun t1322 => (if t1322 = true then ((spec_l1In.f a1 0 (wrap64 (a0_0 - 1))).bind fun t1323 => (if t1323 = true then ((spec_l1In.f a2 0 (wrap64 (a0_0 - 1))).bind fun t1324 => (if t1324 = true then ((spec_l1In.f a3 0 9).bind fun t1325 => (spec_LoadWalk.j0 k a1 a2 a3 (!t1325) a0_0 l0_1)) else (spec_LoadWalk.j0 k a1 a2 a3 true a0_0 l0_1))) else (spec_LoadWalk.j0 k a1 a2 a3 true a0_0 l0_1))) else (spec_LoadWalk.j0 k a1 a2 a3 true a0_0 l0_1))) = some (r1, r2) := h
 clear h
 have HC5 := Aside0.mk H
 clear H
 go_enter Try.func45, Try.ntmps45
 go_upto_region 1 with (((with_reducible refine gate_dst (N := 4) rfl ?_); refine box_event ?hg (N := 4) ?hd (cs := #[.int .i64 a0_0, .slice A0_1 l0_1.length c0_1]) (t := 25) ?hr ?_; (case hd => rfl); (case hg => rfl); (case hr => (go_simp; done)); intro gb1321 hg w6 hbox hb; have BK1321 := Aside0.mk (hbox); have GW1321 := Aside0.mk ((by rw [hg]; exact (below_size (bl HB)) : w.heap.size ≤ gb1321)); have GE1321 := Aside0.mk ((by rw [hg]; exact (below_size (bl HB)) : w.heap.size ≤ gb1321)); replace HB := Aside0.mk (below_step (bl HB) hb); clear hb hbox hg))
 (try simp only [Act.put, List.setIfInBounds_toArray, List.set_cons_zero, List.set_cons_succ])
 go_cut [39] (fun v39 wc => ∃ (kq : Nat) (x39_4 : Bool), v39 = .bool x39_4 ∧ Aside0 (spec_LoadWalk.j0 kq a1 a2 a3 x39_4 a0_0 l0_1 = some (r1, r2)) ∧ Aside0 (kq ≤ k) ∧ Aside0 (wc.heap[gb1321]? = some (.cells #[.int .i64 a0_0, (.slice A0_1 l0_1.length c0_1)] 25 (0, 0))) ∧ Aside0 (Below w.heap.size w wc))
 case first =>
  have H := HC5.out
  clear HC5
  replace H := Option.bind_eq_some_iff.mp H
  obtain ⟨t1322, A70, H⟩ := H
  have A7 := Aside0.mk A70
  clear A70
  by_cases c8 : t1322 = true
  rotate_left
  ·replace c8 := Bool.eq_false_iff.mpr c8
   subst c8
   rw [if_neg (show ¬ (false = true) by decide)] at H
   have H' := Aside0.mk H
   clear H
   have hcz23_0 := bc w6 BK1321 0 (.int .i64 a0_0) rfl
   have hcz23_1 := bc w6 BK1321 1 (.slice A0_1 l0_1.length c0_1) rfl
   have hfz23_0 := fz BK1321 0
   have hfz23_1 := fz BK1321 1
   go_wp2_with (((with_reducible refine gate_callee (f := 55) rfl ?_); refine goesL_ (some 17) rfl rfl Try.func55 (by kernel_rfl) rfl #[.agg #[.int .i64 a0_0, .slice A0_1 l0_1.length c0_1]] rfl (by (try simp only [List.map_toArray, List.map_cons, List.map_nil]); rfl) ?_; (with_reducible refine (spec_l1Ok.calls k a0_0 _ _ l0_1 false _ ?side1 ?side2 A7.out).mono ?_); (case side1 => repeat (exact (Kd.C_below HR0_1.out HB.out))); (case side2 => exact HC0_1.out); rintro e w24 ⟨rfl, hb⟩; refine ⟨_, rfl, ?_⟩; replace BK1321 := Aside0.mk (blk_below (bk BK1321) hb); replace HB := Aside0.mk (below_step (bl1 HB GE1321) hb); (try clear hb); (try clear hb2); (try clear hk); (try clear hi)))
   go_meet
   case rel => exact ⟨_, (true), (by rfl), H', ⟨by omega⟩, ⟨bk BK1321⟩, ⟨bl1 HB GE1321⟩⟩
  subst c8
  rw [if_pos rfl] at H
  replace H := Option.bind_eq_some_iff.mp H
  obtain ⟨t1323, A90, H⟩ := H
  have A9 := Aside0.mk A90
  clear A90
  by_cases c10 : t1323 = true
  rotate_left
  ·replace c10 := Bool.eq_false_iff.mpr c10
   subst c10
   rw [if_neg (show ¬ (false = true) by decide)] at H
   have H' := Aside0.mk H
   clear H
   have hcz20_0 := bc w6 BK1321 0 (.int .i64 a0_0) rfl
   have hcz20_1 := bc w6 BK1321 1 (.slice A0_1 l0_1.length c0_1) rfl
   have hfz20_0 := fz BK1321 0
   have hfz20_1 := fz BK1321 1
   go_wp2_with (first | ((with_reducible refine gate_callee (f := 55) rfl ?_); refine goesL_ (some 17) rfl rfl Try.func55 (by kernel_rfl) rfl #[.agg #[.int .i64 a0_0, .slice A0_1 l0_1.length c0_1]] rfl (by (try simp only [List.map_toArray, List.map_cons, List.map_nil]); rfl) ?_; (with_reducible refine (spec_l1Ok.calls k a0_0 _ _ l0_1 true _ ?side1 ?side2 A7.out).mono ?_); (case side1 => repeat (exact (Kd.C_below HR0_1.out HB.out))); (case side2 => exact HC0_1.out); rintro e w21 ⟨rfl, hb⟩; refine ⟨_, rfl, ?_⟩; replace BK1321 := Aside0.mk (blk_below (bk BK1321) hb); replace HB := Aside0.mk (below_step (bl1 HB GE1321) hb); (try clear hb); (try clear hb2); (try clear hk); (try clear hi); have hcz22_0 := bc w21 BK1321 0 (.int .i64 a0_0) rfl; have hcz22_1 := bc w21 BK1321 1 (.slice A0_1 l0_1.length c0_1) rfl; have hfz22_0 := fz BK1321 0; have hfz22_1 := fz BK1321 1) | (go_at_call 62; (with_reducible refine (spec_l1In.calls a1 0 (wrap64 (a0_0 - 1)) false _ A9.out).mono ?_); rintro e w' ⟨rfl, ⟨nd, rfl⟩⟩))
   go_meet
   case rel => exact ⟨_, (true), (by rfl), H', ⟨by omega⟩, ⟨bk BK1321⟩, ⟨bl1 HB GE1321⟩⟩
  subst c10
  rw [if_pos rfl] at H
  replace H := Option.bind_eq_some_iff.mp H
  obtain ⟨t1324, A110, H⟩ := H
  have A11 := Aside0.mk A110
  clear A110
  by_cases c12 : t1324 = true
  rotate_left
  ·replace c12 := Bool.eq_false_iff.mpr c12
   subst c12
   rw [if_neg (show ¬ (false = true) by decide)] at H
   have H' := Aside0.mk H
   clear H
   have hcz17_0 := bc w6 BK1321 0 (.int .i64 a0_0) rfl
   have hcz17_1 := bc w6 BK1321 1 (.slice A0_1 l0_1.length c0_1) rfl
   have hfz17_0 := fz BK1321 0
   have hfz17_1 := fz BK1321 1
   go_wp2_with (first | ((with_reducible refine gate_callee (f := 55) rfl ?_); refine goesL_ (some 17) rfl rfl Try.func55 (by kernel_rfl) rfl #[.agg #[.int .i64 a0_0, .slice A0_1 l0_1.length c0_1]] rfl (by (try simp only [List.map_toArray, List.map_cons, List.map_nil]); rfl) ?_; (with_reducible refine (spec_l1Ok.calls k a0_0 _ _ l0_1 true _ ?side1 ?side2 A7.out).mono ?_); (case side1 => repeat (exact (Kd.C_below HR0_1.out HB.out))); (case side2 => exact HC0_1.out); rintro e w18 ⟨rfl, hb⟩; refine ⟨_, rfl, ?_⟩; replace BK1321 := Aside0.mk (blk_below (bk BK1321) hb); replace HB := Aside0.mk (below_step (bl1 HB GE1321) hb); (try clear hb); (try clear hb2); (try clear hk); (try clear hi); have hcz19_0 := bc w18 BK1321 0 (.int .i64 a0_0) rfl; have hcz19_1 := bc w18 BK1321 1 (.slice A0_1 l0_1.length c0_1) rfl; have hfz19_0 := fz BK1321 0; have hfz19_1 := fz BK1321 1) | (go_at_call 62; (with_reducible refine (spec_l1In.calls a1 0 (wrap64 (a0_0 - 1)) true _ A9.out).mono ?_); rintro e w' ⟨rfl, ⟨nd, rfl⟩⟩) | (go_at_call 62; (with_reducible refine (spec_l1In.calls a2 0 (wrap64 (a0_0 - 1)) false _ A11.out).mono ?_); rintro e w' ⟨rfl, ⟨nd, rfl⟩⟩))
   go_meet
   case rel => exact ⟨_, (true), (by rfl), H', ⟨by omega⟩, ⟨bk BK1321⟩, ⟨bl1 HB GE1321⟩⟩
  subst c12
  rw [if_pos rfl] at H
  replace H := Option.bind_eq_some_iff.mp H
  obtain ⟨t1325, A130, H⟩ := H
  have A13 := Aside0.mk A130
  clear A130
  have H' := Aside0.mk H
  clear H
  have hcz14_0 := bc w6 BK1321 0 (.int .i64 a0_0) rfl
  have hcz14_1 := bc w6 BK1321 1 (.slice A0_1 l0_1.length c0_1) rfl
  have hfz14_0 := fz BK1321 0
  have hfz14_1 := fz BK1321 1
  go_wp2_with (first | ((with_reducible refine gate_callee (f := 55) rfl ?_); refine goesL_ (some 17) rfl rfl Try.func55 (by kernel_rfl) rfl #[.agg #[.int .i64 a0_0, .slice A0_1 l0_1.length c0_1]] rfl (by (try simp only [List.map_toArray, List.map_cons, List.map_nil]); rfl) ?_; (with_reducible refine (spec_l1Ok.calls k a0_0 _ _ l0_1 true _ ?side1 ?side2 A7.out).mono ?_); (case side1 => repeat (exact (Kd.C_below HR0_1.out HB.out))); (case side2 => exact HC0_1.out); rintro e w15 ⟨rfl, hb⟩; refine ⟨_, rfl, ?_⟩; replace BK1321 := Aside0.mk (blk_below (bk BK1321) hb); replace HB := Aside0.mk (below_step (bl1 HB GE1321) hb); (try clear hb); (try clear hb2); (try clear hk); (try clear hi); have hcz16_0 := bc w15 BK1321 0 (.int .i64 a0_0) rfl; have hcz16_1 := bc w15 BK1321 1 (.slice A0_1 l0_1.length c0_1) rfl; have hfz16_0 := fz BK1321 0; have hfz16_1 := fz BK1321 1) | (go_at_call 62; (with_reducible refine (spec_l1In.calls a1 0 (wrap64 (a0_0 - 1)) true _ A9.out).mono ?_); rintro e w' ⟨rfl, ⟨nd, rfl⟩⟩) | (go_at_call 62; (with_reducible refine (spec_l1In.calls a2 0 (wrap64 (a0_0 - 1)) true _ A11.out).mono ?_); rintro e w' ⟨rfl, ⟨nd, rfl⟩⟩) | (go_at_call 62; (with_reducible refine (spec_l1In.calls a3 0 9 t1325 _ A13.out).mono ?_); rintro e w' ⟨rfl, ⟨nd, rfl⟩⟩))
  go_meet
  case rel => exact ⟨_, (!t1325), (by rfl), H', ⟨by omega⟩, ⟨bk BK1321⟩, ⟨bl1 HB GE1321⟩⟩
 clear HC5
 try clear c1
 try clear p2
 try clear c4
 try clear c5
 try clear p6
 try clear c8
 try clear c10
 try clear c12
 try clear hcz14_0
 try clear hcz14_1
 try clear hcz16_0
 try clear hcz16_1
 try clear hcz17_0
 try clear hcz17_1
 try clear hcz19_0
 try clear hcz19_1
 try clear hcz20_0
 try clear hcz20_1
 try clear hcz22_0
 try clear hcz22_1
 try clear hcz23_0
 try clear hcz23_1
 try clear hfz14_0
 try clear hfz14_1
 try clear hfz16_0
 try clear hfz16_1
 try clear hfz17_0
 try clear hfz17_1
 try clear hfz19_0
 try clear hfz19_1
 try clear hfz20_0
 try clear hfz20_1
 try clear hfz22_0
 try clear hfz22_1
 try clear hfz23_0
 try clear hfz23_1
 obtain ⟨kq, x39_4, rfl, HA, HJ4, BK1321, HB⟩ := hcut
 cases kq with
 | zero => exact absurd HA.out (by simp [spec_LoadWalk.j0])
 | succ kj4 =>
  have H := HA.out
  clear HA
  simp only [spec_LoadWalk.j0] at H
  by_cases c25 : x39_4 = true
  ·subst c25
   rw [if_pos rfl] at H
   simp only [Option.some.injEq, Prod.mk.injEq] at H
   obtain ⟨rfl, rfl⟩ := H
   go_wp2
   go_ret2
   exact ⟨_, by rfl, by exact Kd.R_nil _ _ _ _ _, bl1 HB GE1321⟩
  replace c25 := Bool.eq_false_iff.mpr c25
  subst c25
  rw [if_neg (show ¬ (false = true) by decide)] at H
  obtain ⟨y1326, hy1326⟩ : ∃ y_ : List Int, y_ = (([] : List Int)) := ⟨_, rfl⟩
  replace H : (spec_LoadWalk.l0 kj4 a1 a2 a3 y1326 0 a0_0 l0_1) = some (r1, r2) := by (rw [hy1326]; with_reducible exact H)
  have Ny1326 := Aside0.mk hy1326
  clear hy1326
  have H' := Aside0.mk H
  clear H
  go_wp2_with (((with_reducible refine gate_dst (N := 40) rfl ?_); refine Kd.R_lit (Kd.int .i64) _ 3 ?hg (N := 40) ?hd (xs := ([] : List Int)) (inner := []) (ok := fun _ => True) (okp := fun _ => True) ?hr ?hp (fun _ hk => hk) trivial (Below.refl _ _) (Nat.le_refl _) (by simp) ?_; (case hd => rfl); (case hg => rfl); (case hr => (go_simp; done)); (case hp => exact (Reps.none _ _)); intro v1327 w26 ho27 hb hg_ hnew_; clear hg_ hnew_; (rw [← Ny1326.out] at ho27); have HO1328 := Aside0.mk (Kd.R_lower ho27 (below_size (bl1 HB GE1321))); replace BK1321 := Aside0.mk (blk_below (bk BK1321) hb); replace HB := Aside0.mk (below_step (bl1 HB GE1321) hb); clear hb ho27))
  go_loopg [10, 11] kj4 (fun kq v10 v11 w' => ∃ (x10_2 : List Int) (x11_2 : Int), v11 = .int .i64 x11_2 ∧ Aside0 (spec_LoadWalk.l0 kq a1 a2 a3 x10_2 x11_2 a0_0 l0_1 = some (r1, r2)) ∧ Aside0 (kq ≤ kj4) ∧ Aside0 (Kd.R (Kd.int .i64) 3 w' w.heap.size (fun _ => True) v10 x10_2) ∧ Aside0 (w'.heap[gb1321]? = some (.cells #[.int .i64 a0_0, (.slice A0_1 l0_1.length c0_1)] 25 (0, 0))) ∧ Aside0 (Below w.heap.size w w'))
  case atStart => exact ⟨(y1326), (0), (by rfl), H', ⟨Nat.le_refl _⟩, ⟨rk HO1328⟩, ⟨bk BK1321⟩, ⟨bl1 HB GE1321⟩⟩
  clear H'
  try clear c1
  try clear c2
  try clear p2
  try clear c4
  try clear c5
  try clear p6
  try clear c8
  try clear c10
  try clear c12
  try clear c25
  try clear hcz14_0
  try clear hcz14_1
  try clear hcz16_0
  try clear hcz16_1
  try clear hcz17_0
  try clear hcz17_1
  try clear hcz19_0
  try clear hcz19_1
  try clear hcz20_0
  try clear hcz20_1
  try clear hcz22_0
  try clear hcz22_1
  try clear hcz23_0
  try clear hcz23_1
  try clear hfz14_0
  try clear hfz14_1
  try clear hfz16_0
  try clear hfz16_1
  try clear hfz17_0
  try clear hfz17_1
  try clear hfz19_0
  try clear hfz19_1
  try clear hfz20_0
  try clear hfz20_1
  try clear hfz22_0
  try clear hfz22_1
  try clear hfz23_0
  try clear hfz23_1
  try clear p2
  try clear p6
  obtain ⟨x10_2, x11_2, rfl, HA, HK2, HO_10, BK1321, HB⟩ := hrel
  cases gk with
  | zero => exact absurd HA.out (by simp [spec_LoadWalk.l0])
  | succ k2 =>
   have H := HA.out
   clear HA
   simp only [spec_LoadWalk.l0] at H
   by_cases c28 : x11_2 < (l0_1.length : Int)
   ·rw [if_pos c28] at H
    have c28b0 : decide (x11_2 < (l0_1.length : Int)) = true := decide_eq_true c28
    clear c28
    by_cases c29 : 0 ≤ x11_2
    rotate_left
    ·rw [if_neg c29] at H
     exact absurd H (by simp)
    rw [if_pos c29] at H
    have c29b0 : decide (0 ≤ x11_2) = true := decide_eq_true c29
    clear c29
    by_cases c30 : ((rd_T41 l0_1 x11_2).f4) ≥ a3
    rotate_left
    ·rw [if_neg c30] at H
     have c30b0 : decide (a3 ≤ ((rd_T41 l0_1 x11_2).f4)) = false := decide_eq_false c30
     clear c30
     have H' := Aside0.mk H
     clear H
     have hcz34_0 := bc wr BK1321 0 (.int .i64 a0_0) rfl
     have hcz34_1 := bc wr BK1321 1 (.slice A0_1 l0_1.length c0_1) rfl
     have hfz34_0 := fz BK1321 0
     have hfz34_1 := fz BK1321 1
     have p1329 : 0 ≤ (x11_2 : Int) := oT (by (with_reducible assumption))
     have q1329 : x11_2 < (l0_1.length : Int) := oT (by (with_reducible assumption))
     obtain ⟨ad1329, e1329, hx1329_0, hx1329_1, hx1329_2, hx1329_3, hx1329_4⟩ := at_T41 HR0_1.out x11_2 p1329 q1329
     cases e1329
     replace hx1329_0 := hcb HB.out hx1329_0
     replace hx1329_1 := hcb HB.out hx1329_1
     replace hx1329_2 := hcb HB.out hx1329_2
     replace hx1329_3 := hcb HB.out hx1329_3
     replace hx1329_4 := hcb HB.out hx1329_4
     replace p1329 := eq_true p1329
     replace q1329 := eq_true q1329
     go_wp2
     go_roundg k2
     case measure => have := HJ4.out; have := HK2.out; omega
     case rel => exact ⟨(x10_2), (wrap64 (x11_2 + 1)), (by rfl), H', ⟨by have := HJ4.out; have := HK2.out; omega⟩, ⟨rk HO_10⟩, ⟨bk BK1321⟩, ⟨bl1 HB GE1321⟩⟩
    rw [if_pos c30] at H
    have c30b0 : decide (a3 ≤ ((rd_T41 l0_1 x11_2).f4)) = true := decide_eq_true c30
    clear c30
    by_cases c31 : x10_2.length < 17592186044416
    rotate_left
    ·rw [if_neg c31] at H
     exact absurd H (by simp)
    rw [if_pos c31] at H
    have LMc31 := Aside0.mk c31
    clear c31
    obtain ⟨y1330, hy1330⟩ : ∃ y_ : List Int, y_ = (x10_2 ++ [x11_2]) := ⟨_, rfl⟩
    replace H : (spec_LoadWalk.l0 k2 a1 a2 a3 y1330 (wrap64 (x11_2 + 1)) a0_0 l0_1) = some (r1, r2) := by (rw [hy1330]; with_reducible exact H)
    have Ny1330 := Aside0.mk hy1330
    clear hy1330
    have H' := Aside0.mk H
    clear H
    have hcz32_0 := bc wr BK1321 0 (.int .i64 a0_0) rfl
    have hcz32_1 := bc wr BK1321 1 (.slice A0_1 l0_1.length c0_1) rfl
    have hfz32_0 := fz BK1321 0
    have hfz32_1 := fz BK1321 1
    have p1329 : 0 ≤ (x11_2 : Int) := oT (by (with_reducible assumption))
    have q1329 : x11_2 < (l0_1.length : Int) := oT (by (with_reducible assumption))
    obtain ⟨ad1329, e1329, hx1329_0, hx1329_1, hx1329_2, hx1329_3, hx1329_4⟩ := at_T41 HR0_1.out x11_2 p1329 q1329
    cases e1329
    replace hx1329_0 := hcb HB.out hx1329_0
    replace hx1329_1 := hcb HB.out hx1329_1
    replace hx1329_2 := hcb HB.out hx1329_2
    replace hx1329_3 := hcb HB.out hx1329_3
    replace hx1329_4 := hcb HB.out hx1329_4
    replace p1329 := eq_true p1329
    replace q1329 := eq_true q1329
    go_wp2_with (((with_reducible refine gate_builtin (b := .append) (xs := #[.tmp 56, .tmp 58]) rfl ?_); at_builtin; refine Kd.R_append (Kd.int .i64) (w0 := w) w.heap.size rfl (.tmp 56) (.tmp 58) 26 3 (.int .i64 0) 8 rfl Try.underlying26 info3 rfl (by decide) (by omega) u10 x10_2 x11_2 [.int .i64 x11_2] (fun _ => True) (fun _ => False) rfl rfl ?aP (fun _ hk => hk.elim) ?aF ?aO ?aB ?aS ?aL ?_; (case aP => exact rfl); (case aB => exact (bl1 HB GE1321)); (case aF => exact (fun _ _ => trivial)); (case aO => exact (rk HO_10)); (case aS => exact (below_size (bl1 HB GE1321))); (case aL => have := LMc31.out; omega); intro v1331 w33 ho hb hg hat; rw [← Ny1330.out] at ho; have n0_ := Aside0.mk (blk_grown (bk BK1321) hg (Kd.R_ne HO_10.out BK1321.out (by decide))); have n1_ := Aside0.mk (hb); have n2_ := Aside0.mk (ho); clear BK1321; clear HB; clear HO_10; have BK1321 := n0_; have HB := n1_; have HO1332 := n2_; clear n0_ n1_ n2_; clear ho hb hg hat))
    go_roundg k2
    case measure => have := HJ4.out; have := HK2.out; omega
    case rel => exact ⟨(y1330), (wrap64 (x11_2 + 1)), (by rfl), H', ⟨by have := HJ4.out; have := HK2.out; omega⟩, ⟨rk HO1332⟩, ⟨bk BK1321⟩, ⟨bl1 HB GE1321⟩⟩
   rw [if_neg c28] at H
   have c28b0 : decide (x11_2 < (l0_1.length : Int)) = false := decide_eq_false c28
   clear c28
   replace H := Option.bind_eq_some_iff.mp H
   obtain ⟨⟨t1333, t1334⟩, A350, H⟩ := H
   have A35 := Aside0.mk A350
   clear A350
   replace H := Option.bind_eq_some_iff.mp H
   obtain ⟨⟨t1337, t1340⟩, A360, H⟩ := H
   have A36 := Aside0.mk A360
   clear A360
   obtain ⟨y1341, hy1341⟩ : ∃ y_ : List Int, y_ = (([] : List Int)) := ⟨_, rfl⟩
   replace H : (spec_LoadWalk.l1 k2 x10_2 t1337 t1340 y1341 0) = some (r1, r2) := by (rw [hy1341]; with_reducible exact H)
   have Ny1341 := Aside0.mk hy1341
   clear hy1341
   have H' := Aside0.mk H
   clear H
   have hcz37_0 := bc wr BK1321 0 (.int .i64 a0_0) rfl
   have hcz37_1 := bc wr BK1321 1 (.slice A0_1 l0_1.length c0_1) rfl
   have hfz37_0 := fz BK1321 0
   have hfz37_1 := fz BK1321 1
   go_wp2_with (first | ((with_reducible refine gate_callee (f := 98) rfl ?_); refine goesL_ (some 63) rfl rfl Try.func98 (by kernel_rfl) rfl #[.agg #[.int .i64 a0_0, .slice A0_1 l0_1.length c0_1], .int .i64 a3] rfl (by (try simp only [List.map_toArray, List.map_cons, List.map_nil]); rfl) ?_; (with_reducible refine (spec_l18For.calls k2 a0_0 _ _ l0_1 a3 t1333 t1334 _ ?side1 ?side2 A35.out).mono ?_); (case side1 => repeat (exact (Kd.C_below HR0_1.out HB.out))); (case side2 => exact HC0_1.out); rintro e w38 ⟨v1335, rfl, ho0, hb⟩; refine ⟨_, rfl, ?_⟩; replace HO_10 := Aside0.mk (Kd.R_below (rk HO_10) hb); have HO1336 := Aside0.mk (Kd.R_lower ho0 (below_size (bl1 HB GE1321))); replace BK1321 := Aside0.mk (blk_below (bk BK1321) hb); replace HB := Aside0.mk (below_step (bl1 HB GE1321) hb); (try clear hb); (try clear hb2); (try clear hk); (try clear hi); (try clear ho0); obtain ⟨Ao39, co39, eo39⟩ := Kd.R_slice HO1336.out; subst eo39) | ((with_reducible refine gate_callee (f := 97) rfl ?_); refine goesL_ (some 66) rfl rfl Try.func97 (by kernel_rfl) rfl #[.agg #[.int .i64 t1333, .slice Ao39 t1334.length co39], .int .i64 a1, .int .i64 a2] rfl (by (try simp only [List.map_toArray, List.map_cons, List.map_nil]); rfl) ?_; (with_reducible refine (spec_l3Walk.calls k2 t1333 _ _ t1334 a1 a2 t1337 t1340 _ ?side1 ?side2 A36.out).mono ?_); (case side1 => repeat (exact (Kd.R_reads' HO1336.out).2.2)); (case side2 => exact (Kd.R_reads' HO1336.out).2.1); rintro e w40 ⟨v1338, rfl, ho0, hb⟩; refine ⟨_, rfl, ?_⟩; replace HO1336 := Aside0.mk (Kd.R_below (rk HO1336) hb); have HO1339 := Aside0.mk (Kd.R_lower (Kd.R_new' ho0 (Kd.R_lt (rk HO_10))) (below_size (bl1 HB GE1321))); replace HO_10 := Aside0.mk (Kd.R_elder' (rk HO_10) (Kd.R_base ho0) hb); replace BK1321 := Aside0.mk (blk_below (bk BK1321) hb); replace HB := Aside0.mk (below_step (bl1 HB GE1321) hb); (try clear hb); (try clear hb2); (try clear hk); (try clear hi); (try clear ho0)) | ((with_reducible refine gate_dst (N := 69) rfl ?_); refine Kd.R_lit (Kd.int .i64) _ 3 ?hg (N := 69) ?hd (xs := ([] : List Int)) (inner := []) (ok := fun _ => True) (okp := fun _ => True) ?hr ?hp (fun _ hk => hk) trivial (Below.refl _ _) (Nat.le_refl _) (by simp) ?_; (case hd => rfl); (case hg => rfl); (case hr => (go_simp; done)); (case hp => exact (Reps.none _ _)); intro v1342 w41 ho42 hb hg_ hnew_; clear hg_ hnew_; (rw [← Ny1341.out] at ho42); replace HO1336 := Aside0.mk (Kd.R_below (rk HO1336) hb); have HO1343 := Aside0.mk (Kd.R_lower (Kd.R_new' (Kd.R_new' ho42 (Kd.R_lt (rk HO_10))) (Kd.R_lt (rk HO1339))) (below_size (bl1 HB GE1321))); replace HO_10 := Aside0.mk (Kd.R_elder' (rk HO_10) (Kd.R_base ho42) hb); replace HO1339 := Aside0.mk (Kd.R_elder' (rk HO1339) (Kd.R_base ho42) hb); replace BK1321 := Aside0.mk (blk_below (bk BK1321) hb); replace HB := Aside0.mk (below_step (bl1 HB GE1321) hb); clear hb ho42))
   go_loopg [14, 15] k2 (fun kq v14 v15 w' => ∃ (x14_3 : List Int) (x15_3 : Int), v15 = .int .i64 x15_3 ∧ Aside0 (spec_LoadWalk.l1 kq x10_2 t1337 t1340 x14_3 x15_3 = some (r1, r2)) ∧ Aside0 (kq ≤ k2) ∧ Aside0 (Kd.R (Kd.int .i64) 3 w' w.heap.size (fun k_ => some k_ ≠ (v1338 : Value).ownBlock ∧ some k_ ≠ (v14 : Value).ownBlock) u10 x10_2) ∧ Aside0 (Kd.R (Kd.int .i64) 3 w' w.heap.size (fun k_ => some k_ ≠ (u10 : Value).ownBlock ∧ some k_ ≠ (v14 : Value).ownBlock) v1338 t1337) ∧ Aside0 (Kd.R (Kd.int .i64) 3 w' w.heap.size (fun k_ => some k_ ≠ (u10 : Value).ownBlock ∧ some k_ ≠ (v1338 : Value).ownBlock) v14 x14_3) ∧ Aside0 (w'.heap[gb1321]? = some (.cells #[.int .i64 a0_0, (.slice A0_1 l0_1.length c0_1)] 25 (0, 0))) ∧ Aside0 (Below w.heap.size w w'))
   case atStart => exact ⟨(y1341), (0), (by rfl), H', ⟨Nat.le_refl _⟩, ⟨by (with_reducible repeat (fail)); exact Kd.R_mono HO_10.out (fun _ hk => ⟨hk.1.2, hk.2⟩)⟩, ⟨by (with_reducible repeat (fail)); exact Kd.R_mono HO1339.out (fun _ hk => ⟨hk.1.2, hk.2⟩)⟩, ⟨by (with_reducible repeat (fail)); exact Kd.R_mono HO1343.out (fun _ hk => ⟨hk.1.2, hk.2⟩)⟩, ⟨bk BK1321⟩, ⟨bl1 HB GE1321⟩⟩
   clear H'
   try clear c1
   try clear p1
   try clear q1
   try clear hx1
   try clear c2
   try clear p2
   try clear c3
   try clear c4
   try clear c5
   try clear p6
   try clear c8
   try clear c9
   try clear c10
   try clear c12
   try clear p13
   try clear q13
   try clear hx13
   try clear c25
   try clear c28
   try clear c28b0
   try clear c29
   try clear c29b0
   try clear c30
   try clear c30b0
   try clear c31
   try clear hcz14_0
   try clear hcz14_1
   try clear hcz16_0
   try clear hcz16_1
   try clear hcz17_0
   try clear hcz17_1
   try clear hcz19_0
   try clear hcz19_1
   try clear hcz20_0
   try clear hcz20_1
   try clear hcz22_0
   try clear hcz22_1
   try clear hcz23_0
   try clear hcz23_1
   try clear hcz32_0
   try clear hcz32_1
   try clear hcz34_0
   try clear hcz34_1
   try clear hcz37_0
   try clear hcz37_1
   try clear hfz14_0
   try clear hfz14_1
   try clear hfz16_0
   try clear hfz16_1
   try clear hfz17_0
   try clear hfz17_1
   try clear hfz19_0
   try clear hfz19_1
   try clear hfz20_0
   try clear hfz20_1
   try clear hfz22_0
   try clear hfz22_1
   try clear hfz23_0
   try clear hfz23_1
   try clear hfz32_0
   try clear hfz32_1
   try clear hfz34_0
   try clear hfz34_1
   try clear hfz37_0
   try clear hfz37_1
   try clear hx1329_0
   try clear hx1329_1
   try clear hx1329_2
   try clear hx1329_3
   try clear hx1329_4
   try clear p1329
   try clear p2
   try clear p6
   try clear q1329
   obtain ⟨x14_3, x15_3, rfl, HA, HK3, HO_10, HO_12, HO_14, BK1321, HB⟩ := hrel
   cases gk with
   | zero => exact absurd HA.out (by simp [spec_LoadWalk.l1])
   | succ k3 =>
    have H := HA.out
    clear HA
    simp only [spec_LoadWalk.l1] at H
    by_cases c43 : x15_3 < (t1337.length : Int)
    rotate_left
    ·rw [if_neg c43] at H
     have c43b0 : decide (x15_3 < (t1337.length : Int)) = false := decide_eq_false c43
     clear c43
     simp only [Option.some.injEq, Prod.mk.injEq] at H
     obtain ⟨rfl, rfl⟩ := H
     obtain ⟨Ao51, co51, eo51⟩ := Kd.R_slice HO_12.out
     subst eo51
     go_wp2
     go_ret2
     exact ⟨_, by rfl, by (with_reducible repeat (fail)); exact Kd.R_mono HO_14.out (fun _ hk => trivial), bl1 HB GE1321⟩
    rw [if_pos c43] at H
    have c43b0 : decide (x15_3 < (t1337.length : Int)) = true := decide_eq_true c43
    clear c43
    by_cases c44 : 0 ≤ x15_3
    rotate_left
    ·rw [if_neg c44] at H
     exact absurd H (by simp)
    rw [if_pos c44] at H
    have c44b0 : decide (0 ≤ x15_3) = true := decide_eq_true c44
    clear c44
    by_cases c45 : 0 ≤ (rd t1337 x15_3)
    rotate_left
    ·rw [if_neg c45] at H
     exact absurd H (by simp)
    rw [if_pos c45] at H
    have c45b0 : decide (0 ≤ (rd t1337 x15_3)) = true := decide_eq_true c45
    clear c45
    by_cases c46 : (rd t1337 x15_3) < (x10_2.length : Int)
    rotate_left
    ·rw [if_neg c46] at H
     exact absurd H (by simp)
    rw [if_pos c46] at H
    have c46b0 : decide ((rd t1337 x15_3) < (x10_2.length : Int)) = true := decide_eq_true c46
    clear c46
    by_cases c47 : x14_3.length < 17592186044416
    rotate_left
    ·rw [if_neg c47] at H
     exact absurd H (by simp)
    rw [if_pos c47] at H
    have LMc47 := Aside0.mk c47
    clear c47
    obtain ⟨y1346, hy1346⟩ : ∃ y_ : List Int, y_ = (x14_3 ++ [rd x10_2 (rd t1337 x15_3)]) := ⟨_, rfl⟩
    replace H : (spec_LoadWalk.l1 k3 x10_2 t1337 t1340 y1346 (wrap64 (x15_3 + 1))) = some (r1, r2) := by (rw [hy1346]; with_reducible exact H)
    have Ny1346 := Aside0.mk hy1346
    clear hy1346
    have H' := Aside0.mk H
    clear H
    obtain ⟨Ao48, co48, eo48⟩ := Kd.R_slice HO_12.out
    subst eo48
    have p1344 : 0 ≤ (x15_3 : Int) := oT (by (with_reducible assumption))
    have q1344 : x15_3 < (t1337.length : Int) := oT (by (with_reducible assumption))
    obtain ⟨ad1344, e1344, hx1344_0⟩ := Kd.at_int (Kd.R_reads' HO_12.out).2.2 x15_3 p1344 q1344
    cases e1344
    replace p1344 := eq_true p1344
    replace q1344 := eq_true q1344
    obtain ⟨Ao49, co49, eo49⟩ := Kd.R_slice HO_10.out
    subst eo49
    have p1345 : 0 ≤ ((rd t1337 x15_3) : Int) := oT (by (with_reducible assumption))
    have q1345 : (rd t1337 x15_3) < (x10_2.length : Int) := oT (by (with_reducible assumption))
    obtain ⟨ad1345, e1345, hx1345_0⟩ := Kd.at_int (Kd.R_reads' HO_10.out).2.2 (rd t1337 x15_3) p1345 q1345
    cases e1345
    replace p1345 := eq_true p1345
    replace q1345 := eq_true q1345
    go_wp2_with (((with_reducible refine gate_builtin (b := .append) (xs := #[.tmp 76, .tmp 84]) rfl ?_); at_builtin; refine Kd.R_append (Kd.int .i64) (w0 := w) w.heap.size rfl (.tmp 76) (.tmp 84) 26 3 (.int .i64 0) 8 rfl Try.underlying26 info3 rfl (by decide) (by omega) u14 x14_3 (rd x10_2 (rd t1337 x15_3)) [.int .i64 (rd x10_2 (rd t1337 x15_3))] (fun k_ => some k_ ≠ (.slice (some ad1345) x10_2.length co49 : Value).ownBlock ∧ some k_ ≠ (.slice (some ad1344) t1337.length co48 : Value).ownBlock) (fun _ => False) rfl rfl ?aP (fun _ hk => hk.elim) ?aF ?aO ?aB ?aS ?aL ?_; (case aP => exact rfl); (case aB => exact (bl1 HB GE1321)); (case aF => exact (fun k_ hk => ⟨Kd.fresh' (Kd.R_lt (rk HO_10)) k_ hk, Kd.fresh' (Kd.R_lt (rk HO_12)) k_ hk⟩)); (case aO => exact (rk HO_14)); (case aS => exact (below_size (bl1 HB GE1321))); (case aL => have := LMc47.out; omega); intro v1347 w50 ho hb hg hat; rw [← Ny1346.out] at ho; have n0_ := Aside0.mk (Kd.R_after (ok := (fun k_ => some k_ ≠ (.slice (some ad1344) t1337.length co48 : Value).ownBlock)) (rk HO_10) hg hat); have n1_ := Aside0.mk (Kd.R_after (ok := (fun k_ => some k_ ≠ (.slice (some ad1345) x10_2.length co49 : Value).ownBlock)) (rk HO_12) hg hat); have n2_ := Aside0.mk (blk_grown (bk BK1321) hg (Kd.R_ne HO_14.out BK1321.out (by decide))); have n3_ := Aside0.mk (hb); have n4_ := Aside0.mk (ho); clear HO_10; clear HO_12; clear BK1321; clear HB; clear HO_14; have HO_10 := n0_; have HO_12 := n1_; have BK1321 := n2_; have HB := n3_; have HO1348 := n4_; clear n0_ n1_ n2_ n3_ n4_; clear ho hb hg hat))
    go_roundg k3
    case measure => have := HJ4.out; have := HK2.out; have := HK3.out; omega
    case rel => exact ⟨(y1346), (wrap64 (x15_3 + 1)), (by rfl), H', ⟨by have := HJ4.out; have := HK2.out; have := HK3.out; omega⟩, ⟨rk HO_10⟩, ⟨rk HO_12⟩, ⟨rk HO1348⟩, ⟨bk BK1321⟩, ⟨bl1 HB GE1321⟩⟩

end Go.Proofs.Ytgickejeakmenaa.F
