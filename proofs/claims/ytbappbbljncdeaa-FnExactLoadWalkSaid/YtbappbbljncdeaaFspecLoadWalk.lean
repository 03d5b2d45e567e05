-- Printed by wip/px/px.py of this claim's repository (the kit's printer, extended there). Lean checks it.
import Derived.Test.YtbappbbljncdeaaFKinds
import Derived.Test.YtbappbbljncdeaaFspecl1In
import Derived.Test.YtbappbbljncdeaaFspecl1Ok
import Derived.Test.YtbappbbljncdeaaFspecl3Walk
import Derived.Test.YtbappbbljncdeaaFspecl18For
namespace Go.Proofs.Ytbappbbljncdeaa.F
open Go.RowKit Go.Proofs.YtbappbbljncdeaaW.PrintWords Go.Proofs.YtbappbbljncdeaaW.PrintLast Go.Proofs.YtbappbbljncdeaaW.PrintMore
attribute [local go_sem] max2_int min2_int max_two min_two max_three min_three max_four min_four   -- for this text's walks alone
set_option linter.unusedVariables false
set_option linter.unusedSimpArgs false

/-! ### spec_LoadWalk: function 36 -/
mutual
def spec_LoadWalk.j0 : Nat → Int → Int → Int → Bool → Int → List (S100) → Option (List Int × Bool)
 | 0, _, _, _, _, _, _ => none
 | k + 1, x1, x2, x3, x39, x546000, x546001 => if x39 = true then (some (([] : List Int), false)) else (spec_LoadWalk.l0 k x1 x2 x3 (([] : List Int)) 0 x546000 x546001)
def spec_LoadWalk.l0 : Nat → Int → Int → Int → List Int → Int → Int → List (S100) → Option (List Int × Bool)
 | 0, _, _, _, _, _, _, _ => none
 | k + 1, x1, x2, x3, x10, x11, x546000, x546001 => if x11 < (x546001.length : Int) then (if 0 ≤ x11 then (if ((rd_T100 x546001 x11).f4) ≥ x3 then (if x10.length < 17592186044416 then (spec_LoadWalk.l0 k x1 x2 x3 (x10 ++ [x11]) (wrap64 (x11 + 1)) x546000 x546001) else (none)) else (spec_LoadWalk.l0 k x1 x2 x3 x10 (wrap64 (x11 + 1)) x546000 x546001)) else (none)) else ((spec_l18For.f k x546000 x546001 x3).bind fun bt557 => ((spec_l3Walk.f k bt557.1 bt557.2 x1 x2).bind fun bt561 => (spec_LoadWalk.l1 k x10 bt561.1 bt561.2 (([] : List Int)) 0)))
def spec_LoadWalk.l1 : Nat → List Int → List Int → Bool → List Int → Int → Option (List Int × Bool)
 | 0, _, _, _, _, _ => none
 | k + 1, x10, x12, x13, x14, x15 => if x15 < (x12.length : Int) then (if 0 ≤ x15 then (if 0 ≤ (rd x12 x15) then (if (rd x12 x15) < (x10.length : Int) then (if x14.length < 17592186044416 then (spec_LoadWalk.l1 k x10 x12 x13 (x14 ++ [rd x10 (rd x12 x15)]) (wrap64 (x15 + 1))) else (none)) else (none)) else (none)) else (none)) else (some (x14, x13))
end
def spec_LoadWalk.f (k : Nat) (a0_0 : Int) (l0_1 : List (S100)) (a1 : Int) (a2 : Int) (a3 : Int) : Option (List Int × Bool) := (spec_l1Ok.f k a0_0 l0_1).bind fun t546 => (if t546 = true then ((spec_l1In.f a1 0 (wrap64 (a0_0 - 1))).bind fun t547 => (if t547 = true then ((spec_l1In.f a2 0 (wrap64 (a0_0 - 1))).bind fun t548 => (if t548 = true then ((spec_l1In.f a3 0 9).bind fun t549 => (spec_LoadWalk.j0 k a1 a2 a3 (!t549) a0_0 l0_1)) else (spec_LoadWalk.j0 k a1 a2 a3 true a0_0 l0_1))) else (spec_LoadWalk.j0 k a1 a2 a3 true a0_0 l0_1))) else (spec_LoadWalk.j0 k a1 a2 a3 true a0_0 l0_1))
theorem spec_LoadWalk.mono_l : ∀ k, (∀ y0 y1 y2 y3 y4 y5, LeO (spec_LoadWalk.j0 k y0 y1 y2 y3 y4 y5) (spec_LoadWalk.j0 (k + 1) y0 y1 y2 y3 y4 y5)) ∧ (∀ y0 y1 y2 y3 y4 y5 y6, LeO (spec_LoadWalk.l0 k y0 y1 y2 y3 y4 y5 y6) (spec_LoadWalk.l0 (k + 1) y0 y1 y2 y3 y4 y5 y6)) ∧ (∀ y0 y1 y2 y3 y4, LeO (spec_LoadWalk.l1 k y0 y1 y2 y3 y4) (spec_LoadWalk.l1 (k + 1) y0 y1 y2 y3 y4))
 | 0 => ⟨fun _ _ _ _ _ _ r h => by simp [spec_LoadWalk.j0] at h, fun _ _ _ _ _ _ _ r h => by simp [spec_LoadWalk.l0] at h, fun _ _ _ _ _ r h => by simp [spec_LoadWalk.l1] at h⟩
 | k + 1 => by
  obtain ⟨ih0, ih1, ih2⟩ := spec_LoadWalk.mono_l k
  refine ⟨?_, ?_, ?_⟩
  ·intro y0 y1 y2 y3 y4 y5
   unfold spec_LoadWalk.j0
   repeat' first
   | (with_reducible exact ih0 _ _ _ _ _ _)
   | (with_reducible exact ih1 _ _ _ _ _ _ _)
   | (with_reducible exact ih2 _ _ _ _ _)
   | (with_reducible exact spec_l18For.mono _ _ _ _)
   | (with_reducible exact spec_l1Ok.mono _ _ _)
   | (with_reducible exact spec_l3Walk.mono _ _ _ _ _)
   | (with_reducible exact LeO.refl _)
   | (with_reducible exact LeO.none _)
   | (with_reducible refine LeO.ite ?_ ?_)
   | (with_reducible refine LeO.bind ?_ (fun _ => ?_))
   | exact ih0 _ _ _ _ _ _
   | exact ih1 _ _ _ _ _ _ _
   | exact ih2 _ _ _ _ _
   | exact spec_l18For.mono _ _ _ _
   | exact spec_l1Ok.mono _ _ _
   | exact spec_l3Walk.mono _ _ _ _ _
   | exact LeO.none _
   | refine LeO.ite ?_ ?_
   | refine LeO.bind ?_ (fun _ => ?_)
  ·intro y0 y1 y2 y3 y4 y5 y6
   unfold spec_LoadWalk.l0
   repeat' first
   | (with_reducible exact ih0 _ _ _ _ _ _)
   | (with_reducible exact ih1 _ _ _ _ _ _ _)
   | (with_reducible exact ih2 _ _ _ _ _)
   | (with_reducible exact spec_l18For.mono _ _ _ _)
   | (with_reducible exact spec_l1Ok.mono _ _ _)
   | (with_reducible exact spec_l3Walk.mono _ _ _ _ _)
   | (with_reducible exact LeO.refl _)
   | (with_reducible exact LeO.none _)
   | (with_reducible refine LeO.ite ?_ ?_)
   | (with_reducible refine LeO.bind ?_ (fun _ => ?_))
   | exact ih0 _ _ _ _ _ _
   | exact ih1 _ _ _ _ _ _ _
   | exact ih2 _ _ _ _ _
   | exact spec_l18For.mono _ _ _ _
   | exact spec_l1Ok.mono _ _ _
   | exact spec_l3Walk.mono _ _ _ _ _
   | exact LeO.none _
   | refine LeO.ite ?_ ?_
   | refine LeO.bind ?_ (fun _ => ?_)
  ·intro y0 y1 y2 y3 y4
   unfold spec_LoadWalk.l1
   repeat' first
   | (with_reducible exact ih0 _ _ _ _ _ _)
   | (with_reducible exact ih1 _ _ _ _ _ _ _)
   | (with_reducible exact ih2 _ _ _ _ _)
   | (with_reducible exact spec_l18For.mono _ _ _ _)
   | (with_reducible exact spec_l1Ok.mono _ _ _)
   | (with_reducible exact spec_l3Walk.mono _ _ _ _ _)
   | (with_reducible exact LeO.refl _)
   | (with_reducible exact LeO.none _)
   | (with_reducible refine LeO.ite ?_ ?_)
   | (with_reducible refine LeO.bind ?_ (fun _ => ?_))
   | exact ih0 _ _ _ _ _ _
   | exact ih1 _ _ _ _ _ _ _
   | exact ih2 _ _ _ _ _
   | exact spec_l18For.mono _ _ _ _
   | exact spec_l1Ok.mono _ _ _
   | exact spec_l3Walk.mono _ _ _ _ _
   | exact LeO.none _
   | refine LeO.ite ?_ ?_
   | refine LeO.bind ?_ (fun _ => ?_)
theorem spec_LoadWalk.mono : ∀ a0 a1 a2 a3 a4 k, LeO (spec_LoadWalk.f k a0 a1 a2 a3 a4) (spec_LoadWalk.f (k + 1) a0 a1 a2 a3 a4) := by
 intro a0 a1 a2 a3 a4 k
 obtain ⟨ih0, ih1, ih2⟩ := spec_LoadWalk.mono_l k
 unfold spec_LoadWalk.f
 repeat' first
   | (with_reducible exact ih0 _ _ _ _ _ _)
   | (with_reducible exact ih1 _ _ _ _ _ _ _)
   | (with_reducible exact ih2 _ _ _ _ _)
   | (with_reducible exact spec_l18For.mono _ _ _ _)
   | (with_reducible exact spec_l1Ok.mono _ _ _)
   | (with_reducible exact spec_l3Walk.mono _ _ _ _ _)
   | (with_reducible exact LeO.refl _)
   | (with_reducible exact LeO.none _)
   | (with_reducible refine LeO.ite ?_ ?_)
   | (with_reducible refine LeO.bind ?_ (fun _ => ?_))
   | exact ih0 _ _ _ _ _ _
   | exact ih1 _ _ _ _ _ _ _
   | exact ih2 _ _ _ _ _
   | exact spec_l18For.mono _ _ _ _
   | exact spec_l1Ok.mono _ _ _
   | exact spec_l3Walk.mono _ _ _ _ _
   | exact LeO.none _
   | refine LeO.ite ?_ ?_
   | refine LeO.bind ?_ (fun _ => ?_)
set_option maxHeartbeats 8000000 in
set_option maxRecDepth 100000 in
theorem spec_LoadWalk.calls (k : Nat) (a0_0 : Int) (A0_1 : Option Addr) (c0_1 : Nat) (l0_1 : List (S100)) (a1 : Int) (a2 : Int) (a3 : Int) (r1 : List Int) (r2 : Bool) (w : World) (hr0_1 : Kd.C k100 w A0_1 l0_1.length l0_1) (hc0_1 : l0_1.length ≤ c0_1) (h : spec_LoadWalk.f k a0_0 l0_1 a1 a2 a3 = some (r1, r2)) :
  Calls Try.prog 36 #[.agg #[.int .i64 a0_0, .slice A0_1 l0_1.length c0_1], .int .i64 a1, .int .i64 a2, .int .i64 a3] w fun e w' => ∃ v0_ : Value, e = .returned (.tuple #[v0_, .bool r2]) ∧ Kd.R (Kd.int .i64) 3 w' w.heap.size (fun _ => True) v0_ r1 ∧ Below w.heap.size w w' := by
 have hu30 := Try.underlying30
 have HR0_1 := Aside0.mk hr0_1
 have HC0_1 := Aside0.mk hc0_1
 clear hr0_1 hc0_1
 have HB := Aside0.mk (Below.refl w.heap.size w)
 have H : ((spec_l1Ok.f k a0_0 l0_1).bind fun t546 => (if t546 = true then ((spec_l1In.f a1 0 (wrap64 (a0_0 - 1))).bind fun t547 => (if t547 = true then ((spec_l1In.f a2 0 (wrap64 (a0_0 - 1))).bind fun t548 => (if t548 = true then ((spec_l1In.f a3 0 9).bind fun t549 => (spec_LoadWalk.j0 k a1 a2 a3 (!t549) a0_0 l0_1)) else (spec_LoadWalk.j0 k a1 a2 a3 true a0_0 l0_1))) else (spec_LoadWalk.j0 k a1 a2 a3 true a0_0 l0_1))) else (spec_LoadWalk.j0 k a1 a2 a3 true a0_0 l0_1))) = some (r1, r2) := h
 clear h
 have HC5 := Aside0.mk H
 clear H
 go_enter Try.func36, Try.ntmps36
 go_upto_region 1 with (first | ((with_reducible refine gate_dst (N := 4) rfl ?_); refine box_event ?hg (N := 4) ?hd (cs := #[.int .i64 a0_0, .slice A0_1 l0_1.length c0_1]) (t := 30) ?hr ?_; (case hd => rfl); (case hg => rfl); (case hr => first | (go_simp; done) | (go_simp; rfl)); intro gb545 hg w6 hbox hb; have BK545 := Aside0.mk (hbox); have GW545 := Aside0.mk ((by rw [hg]; exact (below_size (bl HB)) : w.heap.size ≤ gb545)); have GE545 := Aside0.mk ((by rw [hg]; exact (below_size (bl HB)) : w.heap.size ≤ gb545)); replace HB := Aside0.mk (below_step (bl HB) hb); clear hb hbox hg))
 (try simp only [Act.put, List.setIfInBounds_toArray, List.set_cons_zero, List.set_cons_succ])
 go_cut [39] (fun v39 wc => ∃ (kq : Nat) (x39_4 : Bool), v39 = .bool x39_4 ∧ Aside0 (spec_LoadWalk.j0 kq a1 a2 a3 x39_4 a0_0 l0_1 = some (r1, r2)) ∧ Aside0 (kq ≤ k) ∧ Aside0 (wc.heap[gb545]? = some (.cells #[.int .i64 a0_0, (.slice A0_1 l0_1.length c0_1)] 30 (0, 0))) ∧ Aside0 (Below w.heap.size w wc))
 case first =>
  have H := HC5.out
  clear HC5
  replace H := Option.bind_eq_some_iff.mp H
  obtain ⟨t546, A70, H⟩ := H
  have A7 := Aside0.mk A70
  clear A70
  by_cases c8 : t546 = true
  rotate_left
  ·replace c8 := Bool.eq_false_iff.mpr c8
   subst c8
   rw [if_neg (show ¬ (false = true) by decide)] at H
   have H' := Aside0.mk H
   clear H
   have hcz23_0 : w6.cell? ⟨gb545, 0, none⟩ = some (.int .i64 a0_0) := (blk_cell BK545.out 0).trans rfl
   have hcz23_1 : w6.cell? ⟨gb545, 1, none⟩ = some (.slice A0_1 l0_1.length c0_1) := (blk_cell BK545.out 1).trans rfl
   have hfz23_0 := blk_frozen BK545.out 0
   have hfz23_1 := blk_frozen BK545.out 1
   go_wp2_with (first | ((with_reducible refine gate_callee (f := 58) rfl ?_); refine goesL_ (some 17) rfl rfl Try.func58 (by kernel_rfl) rfl #[.agg #[.int .i64 a0_0, .slice A0_1 l0_1.length c0_1]] rfl (by (try simp only [List.map_toArray, List.map_cons, List.map_nil]); first | done | rfl | (simp only [List.length_drop, List.length_take]; rfl)) ?_; (with_reducible refine (spec_l1Ok.calls k a0_0 _ _ l0_1 false _ ?side1 ?side2 A7.out).mono ?_); (case side1 => repeat (first | exact (Kd.C_below HR0_1.out HB.out) | (with_reducible refine Kd.C_alloc ?_ _) | (with_reducible refine Kd.C_drewN ?_ _) | (with_reducible refine Kd.C_drew ?_))); (case side2 => exact HC0_1.out); rintro e w24 ⟨rfl, hb⟩; refine ⟨_, rfl, ?_⟩; replace BK545 := Aside0.mk (blk_below (bk BK545) hb); replace HB := Aside0.mk (below_step (bl1 HB GE545) hb); (try clear hb); (try clear hb2); (try clear hk); (try clear hi)))
   go_meet
   case rel => exact ⟨_, (true), (by first | rfl | (simp; done) | (simp [*]; done)), H', ⟨by first | omega | exact Nat.le_refl _⟩, ⟨bk BK545⟩, ⟨bl1 HB GE545⟩⟩
  subst c8
  rw [if_pos rfl] at H
  replace H := Option.bind_eq_some_iff.mp H
  obtain ⟨t547, A90, H⟩ := H
  have A9 := Aside0.mk A90
  clear A90
  by_cases c10 : t547 = true
  rotate_left
  ·replace c10 := Bool.eq_false_iff.mpr c10
   subst c10
   rw [if_neg (show ¬ (false = true) by decide)] at H
   have H' := Aside0.mk H
   clear H
   have hcz20_0 : w6.cell? ⟨gb545, 0, none⟩ = some (.int .i64 a0_0) := (blk_cell BK545.out 0).trans rfl
   have hcz20_1 : w6.cell? ⟨gb545, 1, none⟩ = some (.slice A0_1 l0_1.length c0_1) := (blk_cell BK545.out 1).trans rfl
   have hfz20_0 := blk_frozen BK545.out 0
   have hfz20_1 := blk_frozen BK545.out 1
   go_wp2_with (first | ((with_reducible refine gate_callee (f := 58) rfl ?_); refine goesL_ (some 17) rfl rfl Try.func58 (by kernel_rfl) rfl #[.agg #[.int .i64 a0_0, .slice A0_1 l0_1.length c0_1]] rfl (by (try simp only [List.map_toArray, List.map_cons, List.map_nil]); first | done | rfl | (simp only [List.length_drop, List.length_take]; rfl)) ?_; (with_reducible refine (spec_l1Ok.calls k a0_0 _ _ l0_1 true _ ?side1 ?side2 A7.out).mono ?_); (case side1 => repeat (first | exact (Kd.C_below HR0_1.out HB.out) | (with_reducible refine Kd.C_alloc ?_ _) | (with_reducible refine Kd.C_drewN ?_ _) | (with_reducible refine Kd.C_drew ?_))); (case side2 => exact HC0_1.out); rintro e w21 ⟨rfl, hb⟩; refine ⟨_, rfl, ?_⟩; replace BK545 := Aside0.mk (blk_below (bk BK545) hb); replace HB := Aside0.mk (below_step (bl1 HB GE545) hb); (try clear hb); (try clear hb2); (try clear hk); (try clear hi); have hcz22_0 : w21.cell? ⟨gb545, 0, none⟩ = some (.int .i64 a0_0) := (blk_cell BK545.out 0).trans rfl; have hcz22_1 : w21.cell? ⟨gb545, 1, none⟩ = some (.slice A0_1 l0_1.length c0_1) := (blk_cell BK545.out 1).trans rfl; have hfz22_0 := blk_frozen BK545.out 0; have hfz22_1 := blk_frozen BK545.out 1) | (go_at_call 70; (with_reducible refine (spec_l1In.calls a1 0 (wrap64 (a0_0 - 1)) false _ A9.out).mono ?_); rintro e w' ⟨rfl, ⟨nd, rfl⟩⟩))
   go_meet
   case rel => exact ⟨_, (true), (by first | rfl | (simp; done) | (simp [*]; done)), H', ⟨by first | omega | exact Nat.le_refl _⟩, ⟨bk BK545⟩, ⟨bl1 HB GE545⟩⟩
  subst c10
  rw [if_pos rfl] at H
  replace H := Option.bind_eq_some_iff.mp H
  obtain ⟨t548, A110, H⟩ := H
  have A11 := Aside0.mk A110
  clear A110
  by_cases c12 : t548 = true
  rotate_left
  ·replace c12 := Bool.eq_false_iff.mpr c12
   subst c12
   rw [if_neg (show ¬ (false = true) by decide)] at H
   have H' := Aside0.mk H
   clear H
   have hcz17_0 : w6.cell? ⟨gb545, 0, none⟩ = some (.int .i64 a0_0) := (blk_cell BK545.out 0).trans rfl
   have hcz17_1 : w6.cell? ⟨gb545, 1, none⟩ = some (.slice A0_1 l0_1.length c0_1) := (blk_cell BK545.out 1).trans rfl
   have hfz17_0 := blk_frozen BK545.out 0
   have hfz17_1 := blk_frozen BK545.out 1
   go_wp2_with (first | ((with_reducible refine gate_callee (f := 58) rfl ?_); refine goesL_ (some 17) rfl rfl Try.func58 (by kernel_rfl) rfl #[.agg #[.int .i64 a0_0, .slice A0_1 l0_1.length c0_1]] rfl (by (try simp only [List.map_toArray, List.map_cons, List.map_nil]); first | done | rfl | (simp only [List.length_drop, List.length_take]; rfl)) ?_; (with_reducible refine (spec_l1Ok.calls k a0_0 _ _ l0_1 true _ ?side1 ?side2 A7.out).mono ?_); (case side1 => repeat (first | exact (Kd.C_below HR0_1.out HB.out) | (with_reducible refine Kd.C_alloc ?_ _) | (with_reducible refine Kd.C_drewN ?_ _) | (with_reducible refine Kd.C_drew ?_))); (case side2 => exact HC0_1.out); rintro e w18 ⟨rfl, hb⟩; refine ⟨_, rfl, ?_⟩; replace BK545 := Aside0.mk (blk_below (bk BK545) hb); replace HB := Aside0.mk (below_step (bl1 HB GE545) hb); (try clear hb); (try clear hb2); (try clear hk); (try clear hi); have hcz19_0 : w18.cell? ⟨gb545, 0, none⟩ = some (.int .i64 a0_0) := (blk_cell BK545.out 0).trans rfl; have hcz19_1 : w18.cell? ⟨gb545, 1, none⟩ = some (.slice A0_1 l0_1.length c0_1) := (blk_cell BK545.out 1).trans rfl; have hfz19_0 := blk_frozen BK545.out 0; have hfz19_1 := blk_frozen BK545.out 1) | (go_at_call 70; (with_reducible refine (spec_l1In.calls a1 0 (wrap64 (a0_0 - 1)) true _ A9.out).mono ?_); rintro e w' ⟨rfl, ⟨nd, rfl⟩⟩) | (go_at_call 70; (with_reducible refine (spec_l1In.calls a2 0 (wrap64 (a0_0 - 1)) false _ A11.out).mono ?_); rintro e w' ⟨rfl, ⟨nd, rfl⟩⟩))
   go_meet
   case rel => exact ⟨_, (true), (by first | rfl | (simp; done) | (simp [*]; done)), H', ⟨by first | omega | exact Nat.le_refl _⟩, ⟨bk BK545⟩, ⟨bl1 HB GE545⟩⟩
  subst c12
  rw [if_pos rfl] at H
  replace H := Option.bind_eq_some_iff.mp H
  obtain ⟨t549, A130, H⟩ := H
  have A13 := Aside0.mk A130
  clear A130
  have H' := Aside0.mk H
  clear H
  have hcz14_0 : w6.cell? ⟨gb545, 0, none⟩ = some (.int .i64 a0_0) := (blk_cell BK545.out 0).trans rfl
  have hcz14_1 : w6.cell? ⟨gb545, 1, none⟩ = some (.slice A0_1 l0_1.length c0_1) := (blk_cell BK545.out 1).trans rfl
  have hfz14_0 := blk_frozen BK545.out 0
  have hfz14_1 := blk_frozen BK545.out 1
  go_wp2_with (first | ((with_reducible refine gate_callee (f := 58) rfl ?_); refine goesL_ (some 17) rfl rfl Try.func58 (by kernel_rfl) rfl #[.agg #[.int .i64 a0_0, .slice A0_1 l0_1.length c0_1]] rfl (by (try simp only [List.map_toArray, List.map_cons, List.map_nil]); first | done | rfl | (simp only [List.length_drop, List.length_take]; rfl)) ?_; (with_reducible refine (spec_l1Ok.calls k a0_0 _ _ l0_1 true _ ?side1 ?side2 A7.out).mono ?_); (case side1 => repeat (first | exact (Kd.C_below HR0_1.out HB.out) | (with_reducible refine Kd.C_alloc ?_ _) | (with_reducible refine Kd.C_drewN ?_ _) | (with_reducible refine Kd.C_drew ?_))); (case side2 => exact HC0_1.out); rintro e w15 ⟨rfl, hb⟩; refine ⟨_, rfl, ?_⟩; replace BK545 := Aside0.mk (blk_below (bk BK545) hb); replace HB := Aside0.mk (below_step (bl1 HB GE545) hb); (try clear hb); (try clear hb2); (try clear hk); (try clear hi); have hcz16_0 : w15.cell? ⟨gb545, 0, none⟩ = some (.int .i64 a0_0) := (blk_cell BK545.out 0).trans rfl; have hcz16_1 : w15.cell? ⟨gb545, 1, none⟩ = some (.slice A0_1 l0_1.length c0_1) := (blk_cell BK545.out 1).trans rfl; have hfz16_0 := blk_frozen BK545.out 0; have hfz16_1 := blk_frozen BK545.out 1) | (go_at_call 70; (with_reducible refine (spec_l1In.calls a1 0 (wrap64 (a0_0 - 1)) true _ A9.out).mono ?_); rintro e w' ⟨rfl, ⟨nd, rfl⟩⟩) | (go_at_call 70; (with_reducible refine (spec_l1In.calls a2 0 (wrap64 (a0_0 - 1)) true _ A11.out).mono ?_); rintro e w' ⟨rfl, ⟨nd, rfl⟩⟩) | (go_at_call 70; (with_reducible refine (spec_l1In.calls a3 0 9 t549 _ A13.out).mono ?_); rintro e w' ⟨rfl, ⟨nd, rfl⟩⟩))
  go_meet
  case rel => exact ⟨_, (!t549), (by first | rfl | (simp; done) | (simp [*]; done)), H', ⟨by first | omega | exact Nat.le_refl _⟩, ⟨bk BK545⟩, ⟨bl1 HB GE545⟩⟩
 clear HC5
 try clear c1
 try clear p2
 try clear c3
 try clear c5
 try clear p6
 try clear c8
 try clear c10
 try clear c12
 try clear hcz14_0
 try clear hcz14_1
 try clear hcz16_0
 try clear hcz16_1
 try clear hcz17_0
 try clear hcz17_1
 try clear hcz19_0
 try clear hcz19_1
 try clear hcz20_0
 try clear hcz20_1
 try clear hcz22_0
 try clear hcz22_1
 try clear hcz23_0
 try clear hcz23_1
 try clear hfz14_0
 try clear hfz14_1
 try clear hfz16_0
 try clear hfz16_1
 try clear hfz17_0
 try clear hfz17_1
 try clear hfz19_0
 try clear hfz19_1
 try clear hfz20_0
 try clear hfz20_1
 try clear hfz22_0
 try clear hfz22_1
 try clear hfz23_0
 try clear hfz23_1
 obtain ⟨kq, x39_4, rfl, HA, HJ4, BK545, HB⟩ := hcut
 cases kq with
 | zero => exact absurd HA.out (by simp [spec_LoadWalk.j0])
 | succ kj4 =>
  have H := HA.out
  clear HA
  simp only [spec_LoadWalk.j0] at H
  by_cases c25 : x39_4 = true
  ·subst c25
   rw [if_pos rfl] at H
   simp only [Option.some.injEq, Prod.mk.injEq] at H
   obtain ⟨rfl, rfl⟩ := H
   go_wp2
   go_ret2
   exact ⟨_, by first | rfl | (simp [errW_none, errW_some] <;> rfl) | (simp [*, errW_none, errW_some] <;> rfl), by first | exact Kd.R_nil _ _ _ _ _ | exact Kd.N_nil _ _ _ _ _ | exact Kd.V_nil _ _ _ _ _ | exact Kd.Q_nil _ _ _ _ _ | exact Kd.S_nil _ _ _ _ _, bl1 HB GE545⟩
  replace c25 := Bool.eq_false_iff.mpr c25
  subst c25
  rw [if_neg (show ¬ (false = true) by decide)] at H
  obtain ⟨y550, hy550⟩ : ∃ y_ : List Int, y_ = (([] : List Int)) := ⟨_, rfl⟩
  replace H : (spec_LoadWalk.l0 kj4 a1 a2 a3 y550 0 a0_0 l0_1) = some (r1, r2) := by first | (rw [hy550]; with_reducible exact H) | (have H2_ := (Option.bind_some _ _).symm.trans H; rw [hy550]; with_reducible exact H2_) | (have H2_ := (Option.bind_some _ _).symm.trans H; with_reducible exact H2_) | with_reducible exact H | (rw [hy550]; exact H) | exact H
  have Ny550 := Aside0.mk hy550
  clear hy550
  have H' := Aside0.mk H
  clear H
  go_wp2_with (first | ((with_reducible refine gate_dst (N := 40) rfl ?_); refine Kd.R_lit (Kd.int .i64) _ 3 ?hg (N := 40) ?hd (xs := ([] : List Int)) (inner := []) (ok := fun _ => True) (okp := fun _ => True) ?hr ?hp (fun _ hk => hk) trivial (Below.refl _ _) (Nat.le_refl _) (by simp) ?_; (case hd => rfl); (case hg => rfl); (case hr => first | (go_simp; done) | (go_simp; rfl)); (case hp => exact (Reps.none _ _)); intro v551 w26 ho27 hb hg_ hnew_; clear hg_ hnew_; (first | rw [← Ny550.out] at ho27 | (simp only [Int.reduceToNat] at ho27; rw [← Ny550.out] at ho27)); have HO552 := Aside0.mk (Kd.R_lower ho27 (below_size (bl1 HB GE545))); replace BK545 := Aside0.mk (blk_below (bk BK545) hb); replace HB := Aside0.mk (below_step (bl1 HB GE545) hb); clear hb ho27))
  go_loopg [10, 11] kj4 (fun kq v10 v11 w' => ∃ (x10_2 : List Int) (x11_2 : Int), v11 = .int .i64 x11_2 ∧ Aside0 (spec_LoadWalk.l0 kq a1 a2 a3 x10_2 x11_2 a0_0 l0_1 = some (r1, r2)) ∧ Aside0 (kq ≤ kj4) ∧ Aside0 (Kd.R (Kd.int .i64) 3 w' w.heap.size (fun _ => True) v10 x10_2) ∧ Aside0 (w'.heap[gb545]? = some (.cells #[.int .i64 a0_0, (.slice A0_1 l0_1.length c0_1)] 30 (0, 0))) ∧ Aside0 (Below w.heap.size w w'))
  case atStart => exact ⟨(y550), (0), (by first | rfl | (simp; done) | (simp [*]; done)), H', ⟨Nat.le_refl _⟩, ⟨rk HO552⟩, ⟨bk BK545⟩, ⟨bl1 HB GE545⟩⟩
  clear H'
  try clear c1
  try clear c2
  try clear p2
  try clear c3
  try clear c5
  try clear p6
  try clear c8
  try clear c10
  try clear c12
  try clear c25
  try clear hcz14_0
  try clear hcz14_1
  try clear hcz16_0
  try clear hcz16_1
  try clear hcz17_0
  try clear hcz17_1
  try clear hcz19_0
  try clear hcz19_1
  try clear hcz20_0
  try clear hcz20_1
  try clear hcz22_0
  try clear hcz22_1
  try clear hcz23_0
  try clear hcz23_1
  try clear hfz14_0
  try clear hfz14_1
  try clear hfz16_0
  try clear hfz16_1
  try clear hfz17_0
  try clear hfz17_1
  try clear hfz19_0
  try clear hfz19_1
  try clear hfz20_0
  try clear hfz20_1
  try clear hfz22_0
  try clear hfz22_1
  try clear hfz23_0
  try clear hfz23_1
  try clear p2
  try clear p6
  obtain ⟨x10_2, x11_2, rfl, HA, HK2, HO_10, BK545, HB⟩ := hrel
  cases gk with
  | zero => exact absurd HA.out (by simp [spec_LoadWalk.l0])
  | succ k2 =>
   have H := HA.out
   clear HA
   simp only [spec_LoadWalk.l0] at H
   by_cases c28 : x11_2 < (l0_1.length : Int)
   ·rw [if_pos c28] at H
    have c28b0 : decide (x11_2 < (l0_1.length : Int)) = true := decide_eq_true c28
    clear c28
    by_cases c29 : 0 ≤ x11_2
    rotate_left
    ·rw [if_neg c29] at H
     exact absurd H (by simp)
    rw [if_pos c29] at H
    have c29b0 : decide (0 ≤ x11_2) = true := decide_eq_true c29
    clear c29
    by_cases c30 : ((rd_T100 l0_1 x11_2).f4) ≥ a3
    rotate_left
    ·rw [if_neg c30] at H
     have c30b0 : decide (a3 ≤ ((rd_T100 l0_1 x11_2).f4)) = false := decide_eq_false c30
     clear c30
     have H' := Aside0.mk H
     clear H
     have hcz34_0 : wr.cell? ⟨gb545, 0, none⟩ = some (.int .i64 a0_0) := (blk_cell BK545.out 0).trans rfl
     have hcz34_1 : wr.cell? ⟨gb545, 1, none⟩ = some (.slice A0_1 l0_1.length c0_1) := (blk_cell BK545.out 1).trans rfl
     have hfz34_0 := blk_frozen BK545.out 0
     have hfz34_1 := blk_frozen BK545.out 1
     have p553 : 0 ≤ (x11_2 : Int) := oT (by first | (with_reducible assumption) | assumption)
     have q553 : x11_2 < (l0_1.length : Int) := oT (by first | (with_reducible assumption) | assumption)
     obtain ⟨ad553, e553, hx553_0, hx553_1, hx553_2, hx553_3, hx553_4⟩ := at_T100 HR0_1.out x11_2 p553 q553
     cases e553
     replace hx553_0 := hcb HB.out hx553_0
     replace hx553_1 := hcb HB.out hx553_1
     replace hx553_2 := hcb HB.out hx553_2
     replace hx553_3 := hcb HB.out hx553_3
     replace hx553_4 := hcb HB.out hx553_4
     replace p553 := eq_true p553
     replace q553 := eq_true q553
     go_wp2
     go_roundg k2
     case measure => have := HJ4.out; have := HK2.out; omega
     case rel => exact ⟨(x10_2), (wrap64 (x11_2 + 1)), (by first | rfl | (simp; done) | (simp [*]; done)), H', ⟨by have := HJ4.out; have := HK2.out; omega⟩, ⟨rk HO_10⟩, ⟨bk BK545⟩, ⟨bl1 HB GE545⟩⟩
    rw [if_pos c30] at H
    have c30b0 : decide (a3 ≤ ((rd_T100 l0_1 x11_2).f4)) = true := decide_eq_true c30
    clear c30
    by_cases c31 : x10_2.length < 17592186044416
    rotate_left
    ·rw [if_neg c31] at H
     exact absurd H (by simp)
    rw [if_pos c31] at H
    have LMc31 := Aside0.mk c31
    clear c31
    obtain ⟨y554, hy554⟩ : ∃ y_ : List Int, y_ = (x10_2 ++ [x11_2]) := ⟨_, rfl⟩
    replace H : (spec_LoadWalk.l0 k2 a1 a2 a3 y554 (wrap64 (x11_2 + 1)) a0_0 l0_1) = some (r1, r2) := by first | (rw [hy554]; with_reducible exact H) | (have H2_ := (Option.bind_some _ _).symm.trans H; rw [hy554]; with_reducible exact H2_) | (have H2_ := (Option.bind_some _ _).symm.trans H; with_reducible exact H2_) | with_reducible exact H | (rw [hy554]; exact H) | exact H
    have Ny554 := Aside0.mk hy554
    clear hy554
    have H' := Aside0.mk H
    clear H
    have hcz32_0 : wr.cell? ⟨gb545, 0, none⟩ = some (.int .i64 a0_0) := (blk_cell BK545.out 0).trans rfl
    have hcz32_1 : wr.cell? ⟨gb545, 1, none⟩ = some (.slice A0_1 l0_1.length c0_1) := (blk_cell BK545.out 1).trans rfl
    have hfz32_0 := blk_frozen BK545.out 0
    have hfz32_1 := blk_frozen BK545.out 1
    have p553 : 0 ≤ (x11_2 : Int) := oT (by first | (with_reducible assumption) | assumption)
    have q553 : x11_2 < (l0_1.length : Int) := oT (by first | (with_reducible assumption) | assumption)
    obtain ⟨ad553, e553, hx553_0, hx553_1, hx553_2, hx553_3, hx553_4⟩ := at_T100 HR0_1.out x11_2 p553 q553
    cases e553
    replace hx553_0 := hcb HB.out hx553_0
    replace hx553_1 := hcb HB.out hx553_1
    replace hx553_2 := hcb HB.out hx553_2
    replace hx553_3 := hcb HB.out hx553_3
    replace hx553_4 := hcb HB.out hx553_4
    replace p553 := eq_true p553
    replace q553 := eq_true q553
    go_wp2_with (first | ((with_reducible refine gate_builtin (b := .append) (xs := #[.tmp 56, .tmp 58]) rfl ?_); at_builtin; refine Kd.R_append (Kd.int .i64) (w0 := w) w.heap.size rfl (.tmp 56) (.tmp 58) 26 3 (.int .i64 0) 8 rfl Try.underlying26 info3 rfl (by decide) (by omega) u10 x10_2 x11_2 [.int .i64 x11_2] (fun _ => True) (fun _ => False) rfl rfl ?aP (fun _ hk => hk.elim) ?aF ?aO ?aB ?aS ?aL ?_; (case aP => exact rfl); (case aB => exact (bl1 HB GE545)); (case aF => exact (fun _ _ => trivial)); (case aO => exact (rk HO_10)); (case aS => exact (below_size (bl1 HB GE545))); (case aL => have := LMc31.out; omega); intro v555 w33 ho hb hg hat; rw [← Ny554.out] at ho; have n0_ := Aside0.mk (blk_grown (bk BK545) hg (Kd.R_ne HO_10.out BK545.out (by decide))); have n1_ := Aside0.mk (hb); have n2_ := Aside0.mk (ho); clear BK545; clear HB; clear HO_10; have BK545 := n0_; have HB := n1_; have HO556 := n2_; clear n0_ n1_ n2_; clear ho hb hg hat))
    go_roundg k2
    case measure => have := HJ4.out; have := HK2.out; omega
    case rel => exact ⟨(y554), (wrap64 (x11_2 + 1)), (by first | rfl | (simp; done) | (simp [*]; done)), H', ⟨by have := HJ4.out; have := HK2.out; omega⟩, ⟨rk HO556⟩, ⟨bk BK545⟩, ⟨bl1 HB GE545⟩⟩
   rw [if_neg c28] at H
   have c28b0 : decide (x11_2 < (l0_1.length : Int)) = false := decide_eq_false c28
   clear c28
   replace H := Option.bind_eq_some_iff.mp H
   obtain ⟨⟨t557, t558⟩, A350, H⟩ := H
   have A35 := Aside0.mk A350
   clear A350
   replace H := Option.bind_eq_some_iff.mp H
   obtain ⟨⟨t561, t564⟩, A360, H⟩ := H
   have A36 := Aside0.mk A360
   clear A360
   obtain ⟨y565, hy565⟩ : ∃ y_ : List Int, y_ = (([] : List Int)) := ⟨_, rfl⟩
   replace H : (spec_LoadWalk.l1 k2 x10_2 t561 t564 y565 0) = some (r1, r2) := by first | (rw [hy565]; with_reducible exact H) | (have H2_ := (Option.bind_some _ _).symm.trans H; rw [hy565]; with_reducible exact H2_) | (have H2_ := (Option.bind_some _ _).symm.trans H; with_reducible exact H2_) | with_reducible exact H | (rw [hy565]; exact H) | exact H
   have Ny565 := Aside0.mk hy565
   clear hy565
   have H' := Aside0.mk H
   clear H
   have hcz37_0 : wr.cell? ⟨gb545, 0, none⟩ = some (.int .i64 a0_0) := (blk_cell BK545.out 0).trans rfl
   have hcz37_1 : wr.cell? ⟨gb545, 1, none⟩ = some (.slice A0_1 l0_1.length c0_1) := (blk_cell BK545.out 1).trans rfl
   have hfz37_0 := blk_frozen BK545.out 0
   have hfz37_1 := blk_frozen BK545.out 1
   go_wp2_with (first | ((with_reducible refine gate_callee (f := 88) rfl ?_); refine goesL_ (some 63) rfl rfl Try.func88 (by kernel_rfl) rfl #[.agg #[.int .i64 a0_0, .slice A0_1 l0_1.length c0_1], .int .i64 a3] rfl (by (try simp only [List.map_toArray, List.map_cons, List.map_nil]); first | done | rfl | (simp only [List.length_drop, List.length_take]; rfl)) ?_; (with_reducible refine (spec_l18For.calls k2 a0_0 _ _ l0_1 a3 t557 t558 _ ?side1 ?side2 A35.out).mono ?_); (case side1 => repeat (first | exact (Kd.C_below HR0_1.out HB.out) | (with_reducible refine Kd.C_alloc ?_ _) | (with_reducible refine Kd.C_drewN ?_ _) | (with_reducible refine Kd.C_drew ?_))); (case side2 => exact HC0_1.out); rintro e w38 ⟨v559, rfl, ho0, hb⟩; refine ⟨_, rfl, ?_⟩; replace HO_10 := Aside0.mk (Kd.R_below (rk HO_10) hb); have HO560 := Aside0.mk (Kd.R_lower ho0 (below_size (bl1 HB GE545))); replace BK545 := Aside0.mk (blk_below (bk BK545) hb); replace HB := Aside0.mk (below_step (bl1 HB GE545) hb); (try clear hb); (try clear hb2); (try clear hk); (try clear hi); (try clear ho0); obtain ⟨Ao39, co39, eo39⟩ := Kd.R_slice HO560.out; subst eo39) | ((with_reducible refine gate_callee (f := 87) rfl ?_); refine goesL_ (some 66) rfl rfl Try.func87 (by kernel_rfl) rfl #[.agg #[.int .i64 t557, .slice Ao39 t558.length co39], .int .i64 a1, .int .i64 a2] rfl (by (try simp only [List.map_toArray, List.map_cons, List.map_nil]); first | done | rfl | (simp only [List.length_drop, List.length_take]; rfl)) ?_; (with_reducible refine (spec_l3Walk.calls k2 t557 _ _ t558 a1 a2 t561 t564 _ ?side1 ?side2 A36.out).mono ?_); (case side1 => repeat (first | exact (Kd.R_reads' HO560.out).2.2 | (with_reducible refine Kd.C_alloc ?_ _) | (with_reducible refine Kd.C_drewN ?_ _) | (with_reducible refine Kd.C_drew ?_))); (case side2 => exact (Kd.R_reads' HO560.out).2.1); rintro e w40 ⟨v562, rfl, ho0, hb⟩; refine ⟨_, rfl, ?_⟩; replace HO560 := Aside0.mk (Kd.R_below (rk HO560) hb); have HO563 := Aside0.mk (Kd.R_lower (Kd.R_new' ho0 (Kd.R_lt (rk HO_10))) (below_size (bl1 HB GE545))); replace HO_10 := Aside0.mk (Kd.R_elder' (rk HO_10) (Kd.R_base ho0) hb); replace BK545 := Aside0.mk (blk_below (bk BK545) hb); replace HB := Aside0.mk (below_step (bl1 HB GE545) hb); (try clear hb); (try clear hb2); (try clear hk); (try clear hi); (try clear ho0)) | ((with_reducible refine gate_dst (N := 69) rfl ?_); refine Kd.R_lit (Kd.int .i64) _ 3 ?hg (N := 69) ?hd (xs := ([] : List Int)) (inner := []) (ok := fun _ => True) (okp := fun _ => True) ?hr ?hp (fun _ hk => hk) trivial (Below.refl _ _) (Nat.le_refl _) (by simp) ?_; (case hd => rfl); (case hg => rfl); (case hr => first | (go_simp; done) | (go_simp; rfl)); (case hp => exact (Reps.none _ _)); intro v566 w41 ho42 hb hg_ hnew_; clear hg_ hnew_; (first | rw [← Ny565.out] at ho42 | (simp only [Int.reduceToNat] at ho42; rw [← Ny565.out] at ho42)); replace HO560 := Aside0.mk (Kd.R_below (rk HO560) hb); have HO567 := Aside0.mk (Kd.R_lower (Kd.R_new' (Kd.R_new' ho42 (Kd.R_lt (rk HO_10))) (Kd.R_lt (rk HO563))) (below_size (bl1 HB GE545))); replace HO_10 := Aside0.mk (Kd.R_elder' (rk HO_10) (Kd.R_base ho42) hb); replace HO563 := Aside0.mk (Kd.R_elder' (rk HO563) (Kd.R_base ho42) hb); replace BK545 := Aside0.mk (blk_below (bk BK545) hb); replace HB := Aside0.mk (below_step (bl1 HB GE545) hb); clear hb ho42))
   go_loopg [14, 15] k2 (fun kq v14 v15 w' => ∃ (x14_3 : List Int) (x15_3 : Int), v15 = .int .i64 x15_3 ∧ Aside0 (spec_LoadWalk.l1 kq x10_2 t561 t564 x14_3 x15_3 = some (r1, r2)) ∧ Aside0 (kq ≤ k2) ∧ Aside0 (Kd.R (Kd.int .i64) 3 w' w.heap.size (fun k_ => some k_ ≠ (v562 : Value).ownBlock ∧ some k_ ≠ (v14 : Value).ownBlock) u10 x10_2) ∧ Aside0 (Kd.R (Kd.int .i64) 3 w' w.heap.size (fun k_ => some k_ ≠ (u10 : Value).ownBlock ∧ some k_ ≠ (v14 : Value).ownBlock) v562 t561) ∧ Aside0 (Kd.R (Kd.int .i64) 3 w' w.heap.size (fun k_ => some k_ ≠ (u10 : Value).ownBlock ∧ some k_ ≠ (v562 : Value).ownBlock) v14 x14_3) ∧ Aside0 (w'.heap[gb545]? = some (.cells #[.int .i64 a0_0, (.slice A0_1 l0_1.length c0_1)] 30 (0, 0))) ∧ Aside0 (Below w.heap.size w w'))
   case atStart => exact ⟨(y565), (0), (by first | rfl | (simp; done) | (simp [*]; done)), H', ⟨Nat.le_refl _⟩, ⟨by (with_reducible repeat (first | apply Kd.R_alloc | apply Kd.R_drewN | apply Kd.R_drew)); exact Kd.R_mono HO_10.out (fun _ hk => ⟨hk.1.2, hk.2⟩)⟩, ⟨by (with_reducible repeat (first | apply Kd.R_alloc | apply Kd.R_drewN | apply Kd.R_drew)); exact Kd.R_mono HO563.out (fun _ hk => ⟨hk.1.2, hk.2⟩)⟩, ⟨by (with_reducible repeat (first | apply Kd.R_alloc | apply Kd.R_drewN | apply Kd.R_drew)); exact Kd.R_mono HO567.out (fun _ hk => ⟨hk.1.2, hk.2⟩)⟩, ⟨bk BK545⟩, ⟨bl1 HB GE545⟩⟩
   clear H'
   try clear c1
   try clear c2
   try clear p2
   try clear c3
   try clear c5
   try clear p5
   try clear q5
   try clear hx5
   try clear p6
   try clear c8
   try clear c10
   try clear c12
   try clear c25
   try clear c28
   try clear c28b0
   try clear c29
   try clear c29b0
   try clear c30
   try clear c30b0
   try clear c31
   try clear c36
   try clear hcz14_0
   try clear hcz14_1
   try clear hcz16_0
   try clear hcz16_1
   try clear hcz17_0
   try clear hcz17_1
   try clear hcz19_0
   try clear hcz19_1
   try clear hcz20_0
   try clear hcz20_1
   try clear hcz22_0
   try clear hcz22_1
   try clear hcz23_0
   try clear hcz23_1
   try clear hcz32_0
   try clear hcz32_1
   try clear hcz34_0
   try clear hcz34_1
   try clear hcz37_0
   try clear hcz37_1
   try clear hfz14_0
   try clear hfz14_1
   try clear hfz16_0
   try clear hfz16_1
   try clear hfz17_0
   try clear hfz17_1
   try clear hfz19_0
   try clear hfz19_1
   try clear hfz20_0
   try clear hfz20_1
   try clear hfz22_0
   try clear hfz22_1
   try clear hfz23_0
   try clear hfz23_1
   try clear hfz32_0
   try clear hfz32_1
   try clear hfz34_0
   try clear hfz34_1
   try clear hfz37_0
   try clear hfz37_1
   try clear hx553_0
   try clear hx553_1
   try clear hx553_2
   try clear hx553_3
   try clear hx553_4
   try clear p2
   try clear p553
   try clear p6
   try clear q553
   obtain ⟨x14_3, x15_3, rfl, HA, HK3, HO_10, HO_12, HO_14, BK545, HB⟩ := hrel
   cases gk with
   | zero => exact absurd HA.out (by simp [spec_LoadWalk.l1])
   | succ k3 =>
    have H := HA.out
    clear HA
    simp only [spec_LoadWalk.l1] at H
    by_cases c43 : x15_3 < (t561.length : Int)
    rotate_left
    ·rw [if_neg c43] at H
     have c43b0 : decide (x15_3 < (t561.length : Int)) = false := decide_eq_false c43
     clear c43
     simp only [Option.some.injEq, Prod.mk.injEq] at H
     obtain ⟨rfl, rfl⟩ := H
     obtain ⟨Ao51, co51, eo51⟩ := Kd.R_slice HO_12.out
     subst eo51
     go_wp2
     go_ret2
     exact ⟨_, by first | rfl | (simp [errW_none, errW_some] <;> rfl) | (simp [*, errW_none, errW_some] <;> rfl), by (with_reducible repeat (first | apply Kd.R_alloc | apply Kd.R_drewN | apply Kd.R_drew)); exact Kd.R_mono HO_14.out (fun _ hk => trivial), bl1 HB GE545⟩
    rw [if_pos c43] at H
    have c43b0 : decide (x15_3 < (t561.length : Int)) = true := decide_eq_true c43
    clear c43
    by_cases c44 : 0 ≤ x15_3
    rotate_left
    ·rw [if_neg c44] at H
     exact absurd H (by simp)
    rw [if_pos c44] at H
    have c44b0 : decide (0 ≤ x15_3) = true := decide_eq_true c44
    clear c44
    by_cases c45 : 0 ≤ (rd t561 x15_3)
    rotate_left
    ·rw [if_neg c45] at H
     exact absurd H (by simp)
    rw [if_pos c45] at H
    have c45b0 : decide (0 ≤ (rd t561 x15_3)) = true := decide_eq_true c45
    clear c45
    by_cases c46 : (rd t561 x15_3) < (x10_2.length : Int)
    rotate_left
    ·rw [if_neg c46] at H
     exact absurd H (by simp)
    rw [if_pos c46] at H
    have c46b0 : decide ((rd t561 x15_3) < (x10_2.length : Int)) = true := decide_eq_true c46
    clear c46
    by_cases c47 : x14_3.length < 17592186044416
    rotate_left
    ·rw [if_neg c47] at H
     exact absurd H (by simp)
    rw [if_pos c47] at H
    have LMc47 := Aside0.mk c47
    clear c47
    obtain ⟨y570, hy570⟩ : ∃ y_ : List Int, y_ = (x14_3 ++ [rd x10_2 (rd t561 x15_3)]) := ⟨_, rfl⟩
    replace H : (spec_LoadWalk.l1 k3 x10_2 t561 t564 y570 (wrap64 (x15_3 + 1))) = some (r1, r2) := by first | (rw [hy570]; with_reducible exact H) | (have H2_ := (Option.bind_some _ _).symm.trans H; rw [hy570]; with_reducible exact H2_) | (have H2_ := (Option.bind_some _ _).symm.trans H; with_reducible exact H2_) | with_reducible exact H | (rw [hy570]; exact H) | exact H
    have Ny570 := Aside0.mk hy570
    clear hy570
    have H' := Aside0.mk H
    clear H
    obtain ⟨Ao48, co48, eo48⟩ := Kd.R_slice HO_12.out
    subst eo48
    have p568 : 0 ≤ (x15_3 : Int) := oT (by first | (with_reducible assumption) | assumption)
    have q568 : x15_3 < (t561.length : Int) := oT (by first | (with_reducible assumption) | assumption)
    obtain ⟨ad568, e568, hx568_0⟩ := Kd.at_int (Kd.R_reads' HO_12.out).2.2 x15_3 p568 q568
    cases e568
    replace p568 := eq_true p568
    replace q568 := eq_true q568
    obtain ⟨Ao49, co49, eo49⟩ := Kd.R_slice HO_10.out
    subst eo49
    have p569 : 0 ≤ ((rd t561 x15_3) : Int) := oT (by first | (with_reducible assumption) | assumption)
    have q569 : (rd t561 x15_3) < (x10_2.length : Int) := oT (by first | (with_reducible assumption) | assumption)
    obtain ⟨ad569, e569, hx569_0⟩ := Kd.at_int (Kd.R_reads' HO_10.out).2.2 (rd t561 x15_3) p569 q569
    cases e569
    replace p569 := eq_true p569
    replace q569 := eq_true q569
    go_wp2_with (first | ((with_reducible refine gate_builtin (b := .append) (xs := #[.tmp 76, .tmp 84]) rfl ?_); at_builtin; refine Kd.R_append (Kd.int .i64) (w0 := w) w.heap.size rfl (.tmp 76) (.tmp 84) 26 3 (.int .i64 0) 8 rfl Try.underlying26 info3 rfl (by decide) (by omega) u14 x14_3 (rd x10_2 (rd t561 x15_3)) [.int .i64 (rd x10_2 (rd t561 x15_3))] (fun k_ => some k_ ≠ (.slice (some ad569) x10_2.length co49 : Value).ownBlock ∧ some k_ ≠ (.slice (some ad568) t561.length co48 : Value).ownBlock) (fun _ => False) rfl rfl ?aP (fun _ hk => hk.elim) ?aF ?aO ?aB ?aS ?aL ?_; (case aP => exact rfl); (case aB => exact (bl1 HB GE545)); (case aF => exact (fun k_ hk => ⟨Kd.fresh' (Kd.R_lt (rk HO_10)) k_ hk, Kd.fresh' (Kd.R_lt (rk HO_12)) k_ hk⟩)); (case aO => exact (rk HO_14)); (case aS => exact (below_size (bl1 HB GE545))); (case aL => have := LMc47.out; omega); intro v571 w50 ho hb hg hat; rw [← Ny570.out] at ho; have n0_ := Aside0.mk (Kd.R_after (ok := (fun k_ => some k_ ≠ (.slice (some ad568) t561.length co48 : Value).ownBlock)) (rk HO_10) hg hat); have n1_ := Aside0.mk (Kd.R_after (ok := (fun k_ => some k_ ≠ (.slice (some ad569) x10_2.length co49 : Value).ownBlock)) (rk HO_12) hg hat); have n2_ := Aside0.mk (blk_grown (bk BK545) hg (Kd.R_ne HO_14.out BK545.out (by decide))); have n3_ := Aside0.mk (hb); have n4_ := Aside0.mk (ho); clear HO_10; clear HO_12; clear BK545; clear HB; clear HO_14; have HO_10 := n0_; have HO_12 := n1_; have BK545 := n2_; have HB := n3_; have HO572 := n4_; clear n0_ n1_ n2_ n3_ n4_; clear ho hb hg hat))
    go_roundg k3
    case measure => have := HJ4.out; have := HK2.out; have := HK3.out; omega
    case rel => exact ⟨(y570), (wrap64 (x15_3 + 1)), (by first | rfl | (simp; done) | (simp [*]; done)), H', ⟨by have := HJ4.out; have := HK2.out; have := HK3.out; omega⟩, ⟨rk HO_10⟩, ⟨rk HO_12⟩, ⟨rk HO572⟩, ⟨bk BK545⟩, ⟨bl1 HB GE545⟩⟩

end Go.Proofs.Ytbappbbljncdeaa.F
