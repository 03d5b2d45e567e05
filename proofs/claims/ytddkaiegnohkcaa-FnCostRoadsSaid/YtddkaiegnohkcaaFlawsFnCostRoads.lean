-- Printed by wip/px/px.py of this claim's repository (the kit's printer, extended there). Lean checks it.
import Derived.Test.YtddkaiegnohkcaaFKinds
import Derived.Test.YtddkaiegnohkcaaFimplNearAll
import Derived.Test.YtddkaiegnohkcaaFspecDrawPairSum
import Derived.Test.YtddkaiegnohkcaaFimplPairSum
import Derived.Test.YtddkaiegnohkcaaFspecPairSum
import Derived.Test.YtddkaiegnohkcaaFimplCostNet
import Derived.Test.YtddkaiegnohkcaaFimplCostOf
namespace Go.Proofs.Ytddkaiegnohkcaa.F
open Go.RowKit Go.Proofs.YtddkaiegnohkcaaW.PrintWords Go.Proofs.YtddkaiegnohkcaaW.PrintLast Go.Proofs.YtddkaiegnohkcaaW.PrintMore
attribute [local go_sem] max2_int min2_int max_two min_two max_three min_three max_four min_four   -- for this text's walks alone
set_option linter.unusedVariables false
set_option linter.unusedSimpArgs false

/-! ### laws_FnCostRoads: function 10 -/
def laws_FnCostRoads.j0 : Nat → Int → Int → Int → Int → Int → Bool → Int → List (S33) → Option (Bool)
 | 0, _, _, _, _, _, _, _, _ => none
 | k + 1, x4, x5, x6, x7, x8, x51, x671000, x671001 => if x51 = true then ((spec_PairSum.f k x671000 x671001 x4 x5 x6 x7).bind fun t673 => (some (x8 == t673))) else ((impl_CostOf.f k x671000 x671001 x6 x7).bind fun t674 => ((impl_CostNet.f k x671000 x671001 t674).bind fun bt677 => ((impl_NearAll.f k bt677.1 bt677.2.1 x4).bind fun t683 => (if 0 ≤ x5 then (if x5 < (t683.length : Int) then (some (x8 == (wrap64 (100 * (rd t683 x5))))) else (none)) else (none)))))
def laws_FnCostRoads.f (k : Nat) (l0 : List Int) : Option (Bool) := if (l0.length : Int) > 1048576 then (some true) else ((spec_DrawPairSum.f k l0).bind fun bt662 => ((impl_PairSum.f k bt662.1 bt662.2.1 bt662.2.2.1 bt662.2.2.2.1 bt662.2.2.2.2.1 bt662.2.2.2.2.2).bind fun t671 => ((spec_PairSum.f k bt662.1 bt662.2.1 bt662.2.2.1 bt662.2.2.2.1 bt662.2.2.2.2.1 bt662.2.2.2.2.2).bind fun t672 => (if t671 = t672 then (if t671 < 0 then (laws_FnCostRoads.j0 k bt662.2.2.1 bt662.2.2.2.1 bt662.2.2.2.2.1 bt662.2.2.2.2.2 t671 true bt662.1 bt662.2.1) else (if (wrap64 (bt662.2.2.2.2.1 + bt662.2.2.2.2.2)) = 100 then (laws_FnCostRoads.j0 k bt662.2.2.1 bt662.2.2.2.1 bt662.2.2.2.2.1 bt662.2.2.2.2.2 t671 ((wrap64 (bt662.2.2.2.2.1 * bt662.2.2.2.2.2)) != 0) bt662.1 bt662.2.1) else (laws_FnCostRoads.j0 k bt662.2.2.1 bt662.2.2.2.1 bt662.2.2.2.2.1 bt662.2.2.2.2.2 t671 true bt662.1 bt662.2.1))) else (laws_FnCostRoads.j0 k bt662.2.2.1 bt662.2.2.2.1 bt662.2.2.2.2.1 bt662.2.2.2.2.2 t671 true bt662.1 bt662.2.1)))))
theorem laws_FnCostRoads.mono_l : ∀ k, (∀ y0 y1 y2 y3 y4 y5 y6 y7, LeO (laws_FnCostRoads.j0 k y0 y1 y2 y3 y4 y5 y6 y7) (laws_FnCostRoads.j0 (k + 1) y0 y1 y2 y3 y4 y5 y6 y7))
 | 0 => fun _ _ _ _ _ _ _ _ r h => by simp [laws_FnCostRoads.j0] at h
 | k + 1 => by
  have ih0 := laws_FnCostRoads.mono_l k
  ·intro y0 y1 y2 y3 y4 y5 y6 y7
   unfold laws_FnCostRoads.j0
   repeat' first | (with_reducible exact impl_CostNet.mono _ _ _ _) | (with_reducible exact impl_CostOf.mono _ _ _ _ _) | (with_reducible exact impl_NearAll.mono _ _ _ _) | (with_reducible exact spec_PairSum.mono _ _ _ _ _ _ _) | (with_reducible exact LeO.refl _) | (with_reducible refine LeO.ite ?_ ?_) | (with_reducible refine LeO.bind ?_ (fun _ => ?_))
theorem laws_FnCostRoads.mono : ∀ a0 k, LeO (laws_FnCostRoads.f k a0) (laws_FnCostRoads.f (k + 1) a0) := by
 intro a0 k
 have ih0 := laws_FnCostRoads.mono_l k
 unfold laws_FnCostRoads.f
 repeat' first | (with_reducible exact ih0 _ _ _ _ _ _ _ _) | (with_reducible exact impl_PairSum.mono _ _ _ _ _ _ _) | (with_reducible exact spec_DrawPairSum.mono _ _) | (with_reducible exact spec_PairSum.mono _ _ _ _ _ _ _) | (with_reducible exact LeO.refl _) | (with_reducible refine LeO.ite ?_ ?_) | (with_reducible refine LeO.bind ?_ (fun _ => ?_))
def laws_FnCostRoads.T7 : Bool × List (List Nat × List Nat) := (true, [([], []), ([], []), ([], []), ([], []), ([1, 2, 3], [1, 2, 3]), ([0, 4, 4], [0, 4]), ([5], [5]), ([6], [6]), ([6], [6]), ([], []), ([9, 7, 5, 0, 1, 2, 3, 4, 5, 6, 7, 9], [7, 9]), ([8, 10, 0, 1, 2, 3, 4, 5, 6, 7, 8, 9, 10], [8])])
def laws_FnCostRoads.B7 : List Nat := [0, 0, 0, 0, 14, 31, 63, 127, 127, 0, 767, 2047]
theorem laws_FnCostRoads.tab7 : rtab .any (opsOf Try.f10 7) = laws_FnCostRoads.T7 := by kernel_rfl
theorem laws_FnCostRoads.bits7 : waitsOk laws_FnCostRoads.T7.2 laws_FnCostRoads.B7 = true := by kernel_rfl
set_option maxHeartbeats 8000000 in
set_option maxRecDepth 100000 in
theorem laws_FnCostRoads.calls (k : Nat) (A0 : Option Addr) (c0 : Nat) (l0 : List Int) (r : Bool) (w : World) (hr0 : Kd.C (Kd.int .u8) w A0 l0.length l0) (hc0 : l0.length ≤ c0) (h : laws_FnCostRoads.f k l0 = some r) (hr_ : r = true) :
  Calls Try.prog 10 #[.slice A0 l0.length c0] w fun e w' => e = .returned (.bool r) ∧ Below w.heap.size w w' := by
 have hu25 := Try.underlying25
 have HR0 := ak hr0
 have HC0 := ak hc0
 clear hr0 hc0
 have HB := ak (Below.refl w.heap.size w)
 have H : (if (l0.length : Int) > 1048576 then (some true) else ((spec_DrawPairSum.f k l0).bind fun bt662 => ((impl_PairSum.f k bt662.1 bt662.2.1 bt662.2.2.1 bt662.2.2.2.1 bt662.2.2.2.2.1 bt662.2.2.2.2.2).bind fun t671 => ((spec_PairSum.f k bt662.1 bt662.2.1 bt662.2.2.1 bt662.2.2.2.1 bt662.2.2.2.2.1 bt662.2.2.2.2.2).bind fun t672 => (if t671 = t672 then (if t671 < 0 then (laws_FnCostRoads.j0 k bt662.2.2.1 bt662.2.2.2.1 bt662.2.2.2.2.1 bt662.2.2.2.2.2 t671 true bt662.1 bt662.2.1) else (if (wrap64 (bt662.2.2.2.2.1 + bt662.2.2.2.2.2)) = 100 then (laws_FnCostRoads.j0 k bt662.2.2.1 bt662.2.2.2.1 bt662.2.2.2.2.1 bt662.2.2.2.2.2 t671 ((wrap64 (bt662.2.2.2.2.1 * bt662.2.2.2.2.2)) != 0) bt662.1 bt662.2.1) else (laws_FnCostRoads.j0 k bt662.2.2.1 bt662.2.2.2.1 bt662.2.2.2.2.1 bt662.2.2.2.2.2 t671 true bt662.1 bt662.2.1))) else (laws_FnCostRoads.j0 k bt662.2.2.1 bt662.2.2.2.1 bt662.2.2.2.2.1 bt662.2.2.2.2.2 t671 true bt662.1 bt662.2.1)))))) = some r := h
 clear h
 by_cases c2 : (l0.length : Int) > 1048576
 ·rw [if_pos c2] at H
  have c2b0 : decide (1048576 < (l0.length : Int)) = true := decide_eq_true c2
  have c2b1 : decide (1048576 < l0.length) = true := decide_eq_true (by omega)
  clear c2
  obtain rfl := Option.some.inj H
  go_enter Try.func10, Try.ntmps10
  go_wp2
  go_ret
  exact ⟨by rfl, bl HB⟩
 rw [if_neg c2] at H
 have c2b0 : decide (1048576 < (l0.length : Int)) = false := decide_eq_false c2
 have c2b1 : decide (1048576 < l0.length) = false := decide_eq_false (by omega)
 clear c2
 replace H := Option.bind_eq_some_iff.mp H
 obtain ⟨⟨t662, t663, t666, t667, t668, t669⟩, A30, H⟩ := H
 have A3 := ak A30
 clear A30
 replace H := Option.bind_eq_some_iff.mp H
 obtain ⟨t671, A40, H⟩ := H
 have A4 := ak A40
 clear A40
 have HC5 := ak H
 clear H
 go_enter Try.func10, Try.ntmps10
 go_upto_region 5 with (first | ((with_reducible refine gate_callee (f := 32) rfl ?_); refine goesL_ (some 16) rfl rfl Try.func32 (by kernel_rfl) rfl #[.slice A0 l0.length c0] rfl (by (try simp only [List.map_toArray, List.map_cons, List.map_nil]); rfl) ?_; (with_reducible refine (spec_DrawPairSum.calls k _ _ l0 t662 t663 t666 t667 t668 t669 _ ?side1 ?side2 A3.out).mono ?_); (case side1 => repeat (exact HR0.out)); (case side2 => exact HC0.out); rintro e w6 ⟨v664, rfl, ho0, hb⟩; refine ⟨_, rfl, ?_⟩; have HO665 := ak (Kd.R_lower ho0 (below_size (bl HB))); replace HB := ak (below_step (bl HB) hb); (try clear hb); (try clear hb2); (try clear hk); (try clear hi); (try clear ho0)) | ((with_reducible refine gate_dst (N := 3) rfl ?_); refine box_event ?hg (N := 3) ?hd (cs := #[.int .i64 0, .slice none 0 0]) (t := 25) ?hr ?_; (case hd => rfl); (case hg => rfl); (case hr => (go_simp; done)); intro gb670 hg w7 hbox hb; replace HO665 := ak (Kd.R_below (rk HO665) hb); have BK670 := ak (hbox); have GW670 := ak ((by rw [hg]; exact (below_size (bl HB)) : w.heap.size ≤ gb670)); have GE670 := ak ((by rw [hg]; exact (below_size (bl HB)) : w.heap.size ≤ gb670)); replace HB := ak (below_step (bl HB) hb); clear hb hbox hg; have hcz8_0 := bc w7 BK670 0 (.int .i64 0) rfl; have hcz8_1 := bc w7 BK670 1 (.slice none 0 0) rfl; have hfz8_0 := fz BK670 0; have hfz8_1 := fz BK670 1; obtain ⟨Ao9, co9, eo9⟩ := Kd.R_slice HO665.out; subst eo9) | ((with_reducible refine gate_callee (f := 33) rfl ?_); refine goesL_ (some 27) rfl rfl Try.func33 (by kernel_rfl) rfl #[.agg #[.int .i64 t662, .slice Ao9 t663.length co9], .int .i64 t666, .int .i64 t667, .int .i64 t668, .int .i64 t669] rfl (by (try simp only [List.map_toArray, List.map_cons, List.map_nil]); rfl) ?_; (with_reducible refine (impl_PairSum.calls k t662 _ _ t663 t666 t667 t668 t669 t671 _ ?side1 ?side2 A4.out).mono ?_); (case side1 => refine (Kd.R_reads' (e := 33) (base := w.heap.size) (ok := fun k_ => True) (n := t663.length) (c := co9) ?_).2.2; exact (by exact (Kd.R_mono (Kd.R_far (p := ⟨gb670, 1, none⟩) (Kd.R_far (p := ⟨gb670, 0, none⟩) (Kd.R_types HO665.out BK670.out (by decide)) (fun _ hk => hk.2) (.int .i64 t662)) (fun _ hk => hk.2) (.slice Ao9 t663.length co9)) (fun _ h_ => h_.1)))); (case side2 => exact (Kd.R_reads' HO665.out).2.1); rintro e w10 ⟨rfl, hb⟩; refine ⟨_, rfl, ?_⟩; replace HO665 := ak (Kd.R_below (by exact (Kd.R_mono (Kd.R_far (p := ⟨gb670, 1, none⟩) (Kd.R_far (p := ⟨gb670, 0, none⟩) (Kd.R_types HO665.out BK670.out (by decide)) (fun _ hk => hk.2) (.int .i64 t662)) (fun _ hk => hk.2) (.slice Ao9 t663.length co9)) (fun _ h_ => h_.1))) hb); replace BK670 := ak (blk_below (g := gb670) (o := .cells #[.int .i64 t662, .slice Ao9 t663.length co9] 25 (0, 0)) (by refine blk_put (cs := #[.int .i64 t662, .slice none 0 0]) ?_ 1 _ rfl; refine blk_put (cs := #[.int .i64 0, .slice none 0 0]) ?_ 0 _ rfl; exact BK670.out) hb); replace HB := ak (below_step (bl1 HB GE670) hb); (try clear hb); (try clear hb2); (try clear hk); (try clear hi)))
 (try simp only [Act.put, List.setIfInBounds_toArray, List.set_cons_zero, List.set_cons_succ])
 go_cut [51] (fun v51 wc => ∃ (kq : Nat) (x51_4 : Bool), v51 = .bool x51_4 ∧ Aside0 (laws_FnCostRoads.j0 kq t666 t667 t668 t669 t671 x51_4 t662 t663 = some r) ∧ Aside0 (kq ≤ k) ∧ Aside0 (Kd.R k33 33 wc w.heap.size (fun _ => True) (.slice Ao9 t663.length co9) t663) ∧ Aside0 (wc.heap[gb670]? = some (.cells #[.int .i64 t662, (.slice Ao9 t663.length co9)] 25 (0, 0))) ∧ Aside0 (Below w.heap.size w wc))
 case first =>
  have H := HC5.out
  clear HC5
  replace H := Option.bind_eq_some_iff.mp H
  obtain ⟨t672, A110, H⟩ := H
  have A11 := ak A110
  clear A110
  by_cases c12 : t671 = t672
  rotate_left
  ·rw [if_neg c12] at H
   have c12b0 : (t671 == t672) = false := beq_eq_false_iff_ne.mpr c12
   have c12b1 : (t671 != t672) = true := bne_iff_ne.mpr c12
   (skip)
   have H' := ak H
   clear H
   have hcz21_0 := bc w10 BK670 0 (.int .i64 t662) rfl
   have hcz21_1 := bc w10 BK670 1 (.slice Ao9 t663.length co9) rfl
   have hfz21_0 := fz BK670 0
   have hfz21_1 := fz BK670 1
   go_wp2_with (((with_reducible refine gate_callee (f := 34) rfl ?_); refine goesL_ (some 34) rfl rfl Try.func34 (by kernel_rfl) rfl #[.agg #[.int .i64 t662, .slice Ao9 t663.length co9], .int .i64 t666, .int .i64 t667, .int .i64 t668, .int .i64 t669] rfl (by (try simp only [List.map_toArray, List.map_cons, List.map_nil]); rfl) ?_; (with_reducible refine (spec_PairSum.calls k t662 _ _ t663 t666 t667 t668 t669 t672 _ ?side1 ?side2 A11.out).mono ?_); (case side1 => repeat (exact (Kd.R_reads' HO665.out).2.2)); (case side2 => exact (Kd.R_reads' HO665.out).2.1); rintro e w22 ⟨rfl, hb⟩; refine ⟨_, rfl, ?_⟩; replace HO665 := ak (Kd.R_below (rk HO665) hb); replace BK670 := ak (blk_below (bk BK670) hb); replace HB := ak (below_step (bl1 HB GE670) hb); (try clear hb); (try clear hb2); (try clear hk); (try clear hi)))
   go_meet
   case rel => exact ⟨_, (true), (by rfl), H', ⟨by omega⟩, ⟨rk HO665⟩, ⟨bk BK670⟩, ⟨bl1 HB GE670⟩⟩
  rw [if_pos c12] at H
  have c12b0 : (t671 == t672) = true := beq_iff_eq.mpr c12
  have c12b1 : (t671 != t672) = false := bne_eq_false_iff_eq.mpr c12
  clear c12
  (skip)
  by_cases c13 : t671 < 0
  ·rw [if_pos c13] at H
   have c13b0 : decide (t671 < 0) = true := decide_eq_true c13
   clear c13
   have H' := ak H
   clear H
   have hcz14_0 := bc w10 BK670 0 (.int .i64 t662) rfl
   have hcz14_1 := bc w10 BK670 1 (.slice Ao9 t663.length co9) rfl
   have hfz14_0 := fz BK670 0
   have hfz14_1 := fz BK670 1
   go_wp2_with (((with_reducible refine gate_callee (f := 34) rfl ?_); refine goesL_ (some 34) rfl rfl Try.func34 (by kernel_rfl) rfl #[.agg #[.int .i64 t662, .slice Ao9 t663.length co9], .int .i64 t666, .int .i64 t667, .int .i64 t668, .int .i64 t669] rfl (by (try simp only [List.map_toArray, List.map_cons, List.map_nil]); rfl) ?_; (with_reducible refine (spec_PairSum.calls k t662 _ _ t663 t666 t667 t668 t669 t672 _ ?side1 ?side2 A11.out).mono ?_); (case side1 => repeat (exact (Kd.R_reads' HO665.out).2.2)); (case side2 => exact (Kd.R_reads' HO665.out).2.1); rintro e w15 ⟨rfl, hb⟩; refine ⟨_, rfl, ?_⟩; replace HO665 := ak (Kd.R_below (rk HO665) hb); replace BK670 := ak (blk_below (bk BK670) hb); replace HB := ak (below_step (bl1 HB GE670) hb); (try clear hb); (try clear hb2); (try clear hk); (try clear hi)))
   go_meet
   case rel => exact ⟨_, (true), (by rfl), H', ⟨by omega⟩, ⟨rk HO665⟩, ⟨bk BK670⟩, ⟨bl1 HB GE670⟩⟩
  rw [if_neg c13] at H
  have c13b0 : decide (t671 < 0) = false := decide_eq_false c13
  clear c13
  by_cases c16 : (wrap64 (t668 + t669)) = 100
  rotate_left
  ·rw [if_neg c16] at H
   have c16b0 : ((wrap64 (t668 + t669)) == 100) = false := beq_eq_false_iff_ne.mpr c16
   have c16b1 : ((wrap64 (t668 + t669)) != 100) = true := bne_iff_ne.mpr c16
   have H' := ak H
   clear H
   have hcz19_0 := bc w10 BK670 0 (.int .i64 t662) rfl
   have hcz19_1 := bc w10 BK670 1 (.slice Ao9 t663.length co9) rfl
   have hfz19_0 := fz BK670 0
   have hfz19_1 := fz BK670 1
   go_wp2_with (((with_reducible refine gate_callee (f := 34) rfl ?_); refine goesL_ (some 34) rfl rfl Try.func34 (by kernel_rfl) rfl #[.agg #[.int .i64 t662, .slice Ao9 t663.length co9], .int .i64 t666, .int .i64 t667, .int .i64 t668, .int .i64 t669] rfl (by (try simp only [List.map_toArray, List.map_cons, List.map_nil]); rfl) ?_; (with_reducible refine (spec_PairSum.calls k t662 _ _ t663 t666 t667 t668 t669 t672 _ ?side1 ?side2 A11.out).mono ?_); (case side1 => repeat (exact (Kd.R_reads' HO665.out).2.2)); (case side2 => exact (Kd.R_reads' HO665.out).2.1); rintro e w20 ⟨rfl, hb⟩; refine ⟨_, rfl, ?_⟩; replace HO665 := ak (Kd.R_below (rk HO665) hb); replace BK670 := ak (blk_below (bk BK670) hb); replace HB := ak (below_step (bl1 HB GE670) hb); (try clear hb); (try clear hb2); (try clear hk); (try clear hi)))
   go_meet
   case rel => exact ⟨_, (true), (by rfl), H', ⟨by omega⟩, ⟨rk HO665⟩, ⟨bk BK670⟩, ⟨bl1 HB GE670⟩⟩
  rw [if_pos c16] at H
  have c16b0 : ((wrap64 (t668 + t669)) == 100) = true := beq_iff_eq.mpr c16
  have c16b1 : ((wrap64 (t668 + t669)) != 100) = false := bne_eq_false_iff_eq.mpr c16
  clear c16
  have H' := ak H
  clear H
  have hcz17_0 := bc w10 BK670 0 (.int .i64 t662) rfl
  have hcz17_1 := bc w10 BK670 1 (.slice Ao9 t663.length co9) rfl
  have hfz17_0 := fz BK670 0
  have hfz17_1 := fz BK670 1
  go_wp2_with (((with_reducible refine gate_callee (f := 34) rfl ?_); refine goesL_ (some 34) rfl rfl Try.func34 (by kernel_rfl) rfl #[.agg #[.int .i64 t662, .slice Ao9 t663.length co9], .int .i64 t666, .int .i64 t667, .int .i64 t668, .int .i64 t669] rfl (by (try simp only [List.map_toArray, List.map_cons, List.map_nil]); rfl) ?_; (with_reducible refine (spec_PairSum.calls k t662 _ _ t663 t666 t667 t668 t669 t672 _ ?side1 ?side2 A11.out).mono ?_); (case side1 => repeat (exact (Kd.R_reads' HO665.out).2.2)); (case side2 => exact (Kd.R_reads' HO665.out).2.1); rintro e w18 ⟨rfl, hb⟩; refine ⟨_, rfl, ?_⟩; replace HO665 := ak (Kd.R_below (rk HO665) hb); replace BK670 := ak (blk_below (bk BK670) hb); replace HB := ak (below_step (bl1 HB GE670) hb); (try clear hb); (try clear hb2); (try clear hk); (try clear hi)))
  go_meet
  case rel => exact ⟨_, (((wrap64 (t668 * t669)) != 0)), (by rfl), H', ⟨by omega⟩, ⟨rk HO665⟩, ⟨bk BK670⟩, ⟨bl1 HB GE670⟩⟩
 clear HC5
 try clear c1
 try clear c2
 try clear c2b0
 try clear c2b1
 try clear p2
 try clear c3
 try clear p6
 try clear c10
 try clear c12
 try clear c12b0
 try clear c12b1
 try clear c13
 try clear c13b0
 try clear c16
 try clear c16b0
 try clear c16b1
 try clear hcz14_0
 try clear hcz14_1
 try clear hcz17_0
 try clear hcz17_1
 try clear hcz19_0
 try clear hcz19_1
 try clear hcz21_0
 try clear hcz21_1
 try clear hcz8_0
 try clear hcz8_1
 try clear hfz14_0
 try clear hfz14_1
 try clear hfz17_0
 try clear hfz17_1
 try clear hfz19_0
 try clear hfz19_1
 try clear hfz21_0
 try clear hfz21_1
 try clear hfz8_0
 try clear hfz8_1
 obtain ⟨kq, x51_4, rfl, HA, HJ4, HO_671001, BK670, HB⟩ := hcut
 cases kq with
 | zero => exact absurd HA.out (by simp [laws_FnCostRoads.j0])
 | succ kj4 =>
  have H := HA.out
  clear HA
  simp only [laws_FnCostRoads.j0] at H
  by_cases c23 : x51_4 = true
  ·subst c23
   rw [if_pos rfl] at H
   replace H := Option.bind_eq_some_iff.mp H
   obtain ⟨t673, A240, H⟩ := H
   have A24 := ak A240
   clear A240
   obtain rfl := Option.some.inj H
   have hcz25_0 := bc wc BK670 0 (.int .i64 t662) rfl
   have hcz25_1 := bc wc BK670 1 (.slice Ao9 t663.length co9) rfl
   have hfz25_0 := fz BK670 0
   have hfz25_1 := fz BK670 1
   go_wp2_with (((with_reducible refine gate_callee (f := 34) rfl ?_); refine goesL_ (some 58) rfl rfl Try.func34 (by kernel_rfl) rfl #[.agg #[.int .i64 t662, .slice Ao9 t663.length co9], .int .i64 t666, .int .i64 t667, .int .i64 t668, .int .i64 t669] rfl (by (try simp only [List.map_toArray, List.map_cons, List.map_nil]); rfl) ?_; (with_reducible refine (spec_PairSum.calls kj4 t662 _ _ t663 t666 t667 t668 t669 t673 _ ?side1 ?side2 A24.out).mono ?_); (case side1 => repeat (exact (Kd.R_reads' HO_671001.out).2.2)); (case side2 => exact (Kd.R_reads' HO_671001.out).2.1); rintro e w26 ⟨rfl, hb⟩; refine ⟨_, rfl, ?_⟩; replace HO_671001 := ak (Kd.R_below (rk HO_671001) hb); replace BK670 := ak (blk_below (bk BK670) hb); replace HB := ak (below_step (bl1 HB GE670) hb); (try clear hb); (try clear hb2); (try clear hk); (try clear hi)))
   go_ret
   exact ⟨by rfl, bl1 HB GE670⟩
  replace c23 := Bool.eq_false_iff.mpr c23
  subst c23
  rw [if_neg (show ¬ (false = true) by decide)] at H
  replace H := Option.bind_eq_some_iff.mp H
  obtain ⟨t674, A270, H⟩ := H
  have A27 := ak A270
  clear A270
  replace H := Option.bind_eq_some_iff.mp H
  obtain ⟨⟨t677, t678, t681⟩, A280, H⟩ := H
  have A28 := ak A280
  clear A280
  replace H := Option.bind_eq_some_iff.mp H
  obtain ⟨t683, A290, H⟩ := H
  have A29 := ak A290
  clear A290
  by_cases c30 : 0 ≤ t667
  rotate_left
  ·rw [if_neg c30] at H
   exact absurd H (by simp)
  rw [if_pos c30] at H
  have c30b0 : decide (0 ≤ t667) = true := decide_eq_true c30
  clear c30
  by_cases c31 : t667 < (t683.length : Int)
  rotate_left
  ·rw [if_neg c31] at H
   exact absurd H (by simp)
  rw [if_pos c31] at H
  have c31b0 : decide (t667 < (t683.length : Int)) = true := decide_eq_true c31
  clear c31
  obtain rfl := Option.some.inj H
  try go_wp2
  replace HO_671001 := ak (Kd.R_drew HO_671001.out)
  replace BK670 := ak (blk_drew BK670.out)
  replace HB := ak (below_drew1 HB.out)
  refine start_ (n := 12) (S := fun w' => w'.cell? ⟨gb670, 0, none⟩ = some (.int .i64 t662) ∧ w'.cell? ⟨gb670, 1, none⟩ = some (.slice Ao9 t663.length co9)) (ds := []) (ms 12 0) (by kernel_rfl) rfl (by kernel_rfl) ⟨(blk_cell BK670.out 0).trans rfl, (blk_cell BK670.out 1).trans rfl⟩ (fun hHeld => ?_); refine with_tabW laws_FnCostRoads.tab7 laws_FnCostRoads.bits7 (fun HT_ HW_ => ?_)
  generalize wc.drew = w32 at HO_671001 BK670 HB hHeld ⊢
  refine pu 2 63 ?_ (ms 12 4) rfl rfl HT_ (by kernel_rfl) (fun _ _ _ h => h) (by rfl) ?_ ?_ ?_ ?_
  rotate_left
  ·intro w'
   go_simp
   with_reducible rfl
  rotate_left
  ·simp only [SX]
   rfl
  refine pu 3 64 ?_ (ms 12 12) rfl rfl HT_ (by kernel_rfl) (fun _ _ _ h => h) (by rfl) ?_ ?_ ?_ ?_
  rotate_left
  ·intro w'
   go_simp
   with_reducible rfl
  rotate_left
  ·simp only [SX]
   rfl
  refine tk 0 61 ?_ (ms 12 13) rfl rfl HT_ HW_ (by kernel_rfl) (fun _ _ _ h => h) (by rfl) ?_ hHeld ?_ ?_ ?_
  rotate_left
  ·rintro w' ⟨s0, s1⟩
   go_simp
   with_reducible rfl
  rotate_left
  ·simp only [SX]
   rfl
  refine tk 1 62 ?_ (ms 12 15) rfl rfl HT_ HW_ (by kernel_rfl) (fun _ _ _ h => h) (by rfl) ?_ hHeld ?_ ?_ ?_
  rotate_left
  ·rintro w' ⟨s0, s1⟩
   go_simp
   with_reducible rfl
  rotate_left
  ·simp only [SX]
   rfl
  refine join_ (σ := Value × Value × Nat) 2 (ms 12 1023) (fun s_ => [(65, s_.1), (66, .tuple #[.agg #[.int .i64 t677, s_.2.1], .bool t681]), (9, .pointer (some ⟨s_.2.2, 0, none⟩)), (60, .tuple #[.agg #[.int .i64 t677, s_.2.1], .bool t681]), (67, .agg #[.int .i64 t677, s_.2.1]), (68, .bool t681)]) (fun s_ w' => (w'.cell? ⟨gb670, 0, none⟩ = some (.int .i64 t662) ∧ w'.cell? ⟨gb670, 1, none⟩ = some (.slice Ao9 t663.length co9)) ∧ (Kd.R (Kd.int .i64) 3 w' w.heap.size (fun _ => True) s_.1 t674) ∧ (Kd.R k33 33 w' w.heap.size (fun k_ => some k_ ≠ (.slice Ao9 t663.length co9 : Value).ownBlock) s_.2.1 t678) ∧ (Kd.R k33 33 w' w.heap.size (fun k_ => some k_ ≠ (s_.2.1 : Value).ownBlock) (.slice Ao9 t663.length co9) t663) ∧ (w'.heap[gb670]? = some (.cells #[.int .i64 t662, .slice Ao9 t663.length co9] 25 (0, 0))) ∧ (w'.heap[s_.2.2]? = some (.cells #[.int .i64 0, .slice none 0 0] 25 (0, 0))) ∧ (w.heap.size ≤ s_.2.2) ∧ (w.heap.size ≤ s_.2.2) ∧ (gb670 ≠ s_.2.2) ∧ (s_.2.2 ≠ gb670) ∧ (Below w.heap.size w w')) ?_ ?_
  rotate_left
  ·intro hCont
   refine two_ (i := 4) (j := 9) (Ni := some 65) (Nj := some 9) (ms 12 31) (ms 12 527) rfl rfl rfl rfl (two_of HT_.out (by kernel_rfl)) (by decide) (by decide) (fun K hK => ?_) (fun K hK => ?_)
   rotate_left
   ·skip
    refine box_step ?hg (N := 9) ?hd (cs := #[.int .i64 0, .slice none 0 0]) (t := 25) ?hr ?_; (case hd => rfl); (case hg => rfl); (case hr => (go_simp; done))
    intro gb682 hg w33 hbox hb
    replace HO_671001 := ak (Kd.R_below (rk HO_671001) hb)
    have BK682 := ak (hbox)
    have GW682 := ak ((by rw [hg]; exact (below_size (bl1 HB GE670)) : w.heap.size ≤ gb682))
    have GE682 := ak ((by rw [hg]; exact (below_size (bl1 HB GE670)) : w.heap.size ≤ gb682))
    replace HB := ak (below_step (bl1 HB GE670) hb)
    have NB670_682 := ak ((by rw [hg]; exact Nat.ne_of_lt (blk_lt (bk BK670)) : gb670 ≠ gb682))
    have NB682_670 := ak ((by rw [hg]; exact Nat.ne_of_gt (blk_lt (bk BK670)) : gb682 ≠ gb670))
    replace BK670 := ak (blk_below (bk BK670) hb)
    clear hb hbox hg
    refine hK.out _ _ ⟨(blk_cell BK670.out 0).trans rfl, (blk_cell BK670.out 1).trans rfl⟩ (fun hHeld => ?_)
    clear hK K
    refine norm_ (a' := ?_) ?_ ?_
    rotate_left
    ·show Act.put _ (some 9) _ = _
     simp only [SX]
     rfl
    refine one_ (i := 4) (N := some 65) (ms 12 543) rfl rfl (one_of HT_.out (by kernel_rfl)) (by decide) (fun K hK => ?_)
    refine goes_ Try.func37 (by kernel_rfl) rfl #[.agg #[.int .i64 t662, .slice Ao9 t663.length co9], .int .i64 t668, .int .i64 t669] (by rfl) rfl rfl (by (try simp only [List.map_toArray, List.map_cons, List.map_nil]); rfl) ?_
    with_reducible refine (impl_CostOf.calls kj4 t662 _ _ t663 t668 t669 t674 _ ?side1 ?side2 A27.out).mono ?_
    (case side1 => repeat (exact (Kd.R_reads' HO_671001.out).2.2))
    (case side2 => exact (Kd.R_reads' HO_671001.out).2.1)
    rintro e w34 ⟨v675, rfl, ho0, hb⟩
    refine ⟨_, rfl, ?_⟩
    replace HO_671001 := ak (Kd.R_below (rk HO_671001) hb)
    have HO676 := ak (Kd.R_lower ho0 (below_size (bl2 HB GE670 GE682)))
    replace BK670 := ak (blk_below (bk BK670) hb)
    replace BK682 := ak (blk_below (bk BK682) hb)
    replace HB := ak (below_step (bl2 HB GE670 GE682) hb)
    (try clear hb)
    (try clear hb2)
    (try clear hk)
    (try clear hi)
    (try clear ho0)
    obtain ⟨Ao35, co35, eo35⟩ := Kd.R_slice HO676.out
    (subst eo35)
    refine hK.out _ _ ⟨(blk_cell BK670.out 0).trans rfl, (blk_cell BK670.out 1).trans rfl⟩ (fun hHeld => ?_)
    clear hK K
    refine norm_ (a' := ?_) ?_ ?_
    rotate_left
    ·show Act.put _ (some 65) _ = _
     simp only [SX]
     rfl
    refine one_ (i := 5) (N := some 66) (ms 12 575) rfl rfl (one_of HT_.out (by kernel_rfl)) (by decide) (fun K hK => ?_)
    refine goes_ Try.func36 (by kernel_rfl) rfl #[.agg #[.int .i64 t662, .slice Ao9 t663.length co9], .slice Ao35 t674.length co35] (by rfl) rfl rfl (by (try simp only [List.map_toArray, List.map_cons, List.map_nil]); rfl) ?_
    with_reducible refine (impl_CostNet.calls kj4 t662 _ _ t663 _ _ t674 t677 t678 t681 _ ?side1 ?side2 ?side3 ?side4 A28.out).mono ?_
    (case side1 => repeat (exact (Kd.R_reads' HO_671001.out).2.2))
    (case side2 => exact (Kd.R_reads' HO_671001.out).2.1)
    (case side3 => repeat (exact (Kd.R_reads' HO676.out).2.2))
    (case side4 => exact (Kd.R_reads' HO676.out).2.1)
    rintro e w36 ⟨v679, rfl, ho0, hb⟩
    refine ⟨_, rfl, ?_⟩
    replace HO676 := ak (Kd.R_below (rk HO676) hb)
    have HO680 := ak (Kd.R_lower (Kd.R_new' ho0 (Kd.R_lt (rk HO_671001))) (below_size (bl2 HB GE670 GE682)))
    replace HO_671001 := ak (Kd.R_elder' (rk HO_671001) (Kd.R_base ho0) hb)
    replace BK670 := ak (blk_below (bk BK670) hb)
    replace BK682 := ak (blk_below (bk BK682) hb)
    replace HB := ak (below_step (bl2 HB GE670 GE682) hb)
    (try clear hb)
    (try clear hb2)
    (try clear hk)
    (try clear hi)
    (try clear ho0)
    refine hK.out _ _ ⟨(blk_cell BK670.out 0).trans rfl, (blk_cell BK670.out 1).trans rfl⟩ (fun hHeld => ?_)
    clear hK K
    refine norm_ (a' := ?_) ?_ ?_
    rotate_left
    ·show Act.put _ (some 66) _ = _
     simp only [SX]
     rfl
    refine pu 6 60 ?_ (ms 12 639) rfl rfl HT_ (by kernel_rfl) (fun _ _ _ h => h) (by rfl) ?_ ?_ ?_ ?_
    rotate_left
    ·intro w'
     go_simp
     with_reducible rfl
    rotate_left
    ·simp only [SX]
     rfl
    refine pu 7 67 ?_ (ms 12 767) rfl rfl HT_ (by kernel_rfl) (fun _ _ _ h => h) (by rfl) ?_ ?_ ?_ ?_
    rotate_left
    ·intro w'
     go_simp
     with_reducible rfl
    rotate_left
    ·simp only [SX]
     rfl
    refine pu 8 68 ?_ (ms 12 1023) rfl rfl HT_ (by kernel_rfl) (fun _ _ _ h => h) (by rfl) ?_ ?_ ?_ ?_
    rotate_left
    ·intro w'
     go_simp
     with_reducible rfl
    rotate_left
    ·simp only [SX]
     rfl
    exact norm_ (by simp only [putAll, Act.put, List.setIfInBounds_toArray, List.set_cons_zero, List.set_cons_succ]) (hCont (.slice Ao35 t674.length co35, v679, gb682) _ ⟨hHeld, (rk HO676), (by exact Kd.R_mono HO680.out (fun _ hk => hk.2)), (by exact Kd.R_mono HO_671001.out (fun _ hk => hk.2)), (bk BK670), (bk BK682), GW682.out, GE682.out, NB670_682.out, NB682_670.out, (bl2 HB GE670 GE682)⟩)
   skip
   refine goes_ Try.func37 (by kernel_rfl) rfl #[.agg #[.int .i64 t662, .slice Ao9 t663.length co9], .int .i64 t668, .int .i64 t669] (by rfl) rfl rfl (by (try simp only [List.map_toArray, List.map_cons, List.map_nil]); rfl) ?_
   with_reducible refine (impl_CostOf.calls kj4 t662 _ _ t663 t668 t669 t674 _ ?side1 ?side2 A27.out).mono ?_
   (case side1 => repeat (exact (Kd.R_reads' HO_671001.out).2.2))
   (case side2 => exact (Kd.R_reads' HO_671001.out).2.1)
   rintro e w33 ⟨v675, rfl, ho0, hb⟩
   refine ⟨_, rfl, ?_⟩
   replace HO_671001 := ak (Kd.R_below (rk HO_671001) hb)
   have HO676 := ak (Kd.R_lower ho0 (below_size (bl1 HB GE670)))
   replace BK670 := ak (blk_below (bk BK670) hb)
   replace HB := ak (below_step (bl1 HB GE670) hb)
   (try clear hb)
   (try clear hb2)
   (try clear hk)
   (try clear hi)
   (try clear ho0)
   obtain ⟨Ao34, co34, eo34⟩ := Kd.R_slice HO676.out
   (subst eo34)
   refine hK.out _ _ ⟨(blk_cell BK670.out 0).trans rfl, (blk_cell BK670.out 1).trans rfl⟩ (fun hHeld => ?_)
   clear hK K
   refine norm_ (a' := ?_) ?_ ?_
   rotate_left
   ·show Act.put _ (some 65) _ = _
    simp only [SX]
    rfl
   refine two_ (i := 5) (j := 9) (Ni := some 66) (Nj := some 9) (ms 12 63) (ms 12 543) rfl rfl rfl rfl (two_of HT_.out (by kernel_rfl)) (by decide) (by decide) (fun K hK => ?_) (fun K hK => ?_)
   ·skip
    refine goes_ Try.func36 (by kernel_rfl) rfl #[.agg #[.int .i64 t662, .slice Ao9 t663.length co9], .slice Ao34 t674.length co34] (by rfl) rfl rfl (by (try simp only [List.map_toArray, List.map_cons, List.map_nil]); rfl) ?_
    with_reducible refine (impl_CostNet.calls kj4 t662 _ _ t663 _ _ t674 t677 t678 t681 _ ?side1 ?side2 ?side3 ?side4 A28.out).mono ?_
    (case side1 => repeat (exact (Kd.R_reads' HO_671001.out).2.2))
    (case side2 => exact (Kd.R_reads' HO_671001.out).2.1)
    (case side3 => repeat (exact (Kd.R_reads' HO676.out).2.2))
    (case side4 => exact (Kd.R_reads' HO676.out).2.1)
    rintro e w35 ⟨v679, rfl, ho0, hb⟩
    refine ⟨_, rfl, ?_⟩
    replace HO676 := ak (Kd.R_below (rk HO676) hb)
    have HO680 := ak (Kd.R_lower (Kd.R_new' ho0 (Kd.R_lt (rk HO_671001))) (below_size (bl1 HB GE670)))
    replace HO_671001 := ak (Kd.R_elder' (rk HO_671001) (Kd.R_base ho0) hb)
    replace BK670 := ak (blk_below (bk BK670) hb)
    replace HB := ak (below_step (bl1 HB GE670) hb)
    (try clear hb)
    (try clear hb2)
    (try clear hk)
    (try clear hi)
    (try clear ho0)
    refine hK.out _ _ ⟨(blk_cell BK670.out 0).trans rfl, (blk_cell BK670.out 1).trans rfl⟩ (fun hHeld => ?_)
    clear hK K
    refine norm_ (a' := ?_) ?_ ?_
    rotate_left
    ·show Act.put _ (some 66) _ = _
     simp only [SX]
     rfl
    refine pu 6 60 ?_ (ms 12 127) rfl rfl HT_ (by kernel_rfl) (fun _ _ _ h => h) (by rfl) ?_ ?_ ?_ ?_
    rotate_left
    ·intro w'
     go_simp
     with_reducible rfl
    rotate_left
    ·simp only [SX]
     rfl
    refine pu 7 67 ?_ (ms 12 255) rfl rfl HT_ (by kernel_rfl) (fun _ _ _ h => h) (by rfl) ?_ ?_ ?_ ?_
    rotate_left
    ·intro w'
     go_simp
     with_reducible rfl
    rotate_left
    ·simp only [SX]
     rfl
    refine pu 8 68 ?_ (ms 12 511) rfl rfl HT_ (by kernel_rfl) (fun _ _ _ h => h) (by rfl) ?_ ?_ ?_ ?_
    rotate_left
    ·intro w'
     go_simp
     with_reducible rfl
    rotate_left
    ·simp only [SX]
     rfl
    refine one_ (i := 9) (N := some 9) (ms 12 1023) rfl rfl (one_of HT_.out (by kernel_rfl)) (by decide) (fun K hK => ?_)
    refine box_step ?hg (N := 9) ?hd (cs := #[.int .i64 0, .slice none 0 0]) (t := 25) ?hr ?_; (case hd => rfl); (case hg => rfl); (case hr => (go_simp; done))
    intro gb682 hg w36 hbox hb
    replace HO_671001 := ak (Kd.R_below (rk HO_671001) hb)
    replace HO676 := ak (Kd.R_below (rk HO676) hb)
    replace HO680 := ak (Kd.R_below (rk HO680) hb)
    have BK682 := ak (hbox)
    have GW682 := ak ((by rw [hg]; exact (below_size (bl1 HB GE670)) : w.heap.size ≤ gb682))
    have GE682 := ak ((by rw [hg]; exact (below_size (bl1 HB GE670)) : w.heap.size ≤ gb682))
    replace HB := ak (below_step (bl1 HB GE670) hb)
    have NB670_682 := ak ((by rw [hg]; exact Nat.ne_of_lt (blk_lt (bk BK670)) : gb670 ≠ gb682))
    have NB682_670 := ak ((by rw [hg]; exact Nat.ne_of_gt (blk_lt (bk BK670)) : gb682 ≠ gb670))
    replace BK670 := ak (blk_below (bk BK670) hb)
    clear hb hbox hg
    refine hK.out _ _ ⟨(blk_cell BK670.out 0).trans rfl, (blk_cell BK670.out 1).trans rfl⟩ (fun hHeld => ?_)
    clear hK K
    refine norm_ (a' := ?_) ?_ ?_
    rotate_left
    ·show Act.put _ (some 9) _ = _
     simp only [SX]
     rfl
    exact norm_ (by simp only [putAll, Act.put, List.setIfInBounds_toArray, List.set_cons_zero, List.set_cons_succ]) (hCont (.slice Ao34 t674.length co34, v679, gb682) _ ⟨hHeld, (rk HO676), (by exact Kd.R_mono HO680.out (fun _ hk => hk.2)), (by exact Kd.R_mono HO_671001.out (fun _ hk => hk.2)), (bk BK670), (bk BK682), GW682.out, GE682.out, NB670_682.out, NB682_670.out, (bl2 HB GE670 GE682)⟩)
   skip
   refine box_step ?hg (N := 9) ?hd (cs := #[.int .i64 0, .slice none 0 0]) (t := 25) ?hr ?_; (case hd => rfl); (case hg => rfl); (case hr => (go_simp; done))
   intro gb682 hg w34 hbox hb
   replace HO_671001 := ak (Kd.R_below (rk HO_671001) hb)
   replace HO676 := ak (Kd.R_below (rk HO676) hb)
   have BK682 := ak (hbox)
   have GW682 := ak ((by rw [hg]; exact (below_size (bl1 HB GE670)) : w.heap.size ≤ gb682))
   have GE682 := ak ((by rw [hg]; exact (below_size (bl1 HB GE670)) : w.heap.size ≤ gb682))
   replace HB := ak (below_step (bl1 HB GE670) hb)
   have NB670_682 := ak ((by rw [hg]; exact Nat.ne_of_lt (blk_lt (bk BK670)) : gb670 ≠ gb682))
   have NB682_670 := ak ((by rw [hg]; exact Nat.ne_of_gt (blk_lt (bk BK670)) : gb682 ≠ gb670))
   replace BK670 := ak (blk_below (bk BK670) hb)
   clear hb hbox hg
   obtain ⟨Ao35, co35, eo35⟩ := Kd.R_slice HO676.out
   ((injection eo35 with f1_ f2_ f3_; have f4_ := f1_.symm; have f5_ := f3_.symm; clear f1_ f2_ f3_; subst f4_; subst f5_))
   refine hK.out _ _ ⟨(blk_cell BK670.out 0).trans rfl, (blk_cell BK670.out 1).trans rfl⟩ (fun hHeld => ?_)
   clear hK K
   refine norm_ (a' := ?_) ?_ ?_
   rotate_left
   ·show Act.put _ (some 9) _ = _
    simp only [SX]
    rfl
   refine one_ (i := 5) (N := some 66) (ms 12 575) rfl rfl (one_of HT_.out (by kernel_rfl)) (by decide) (fun K hK => ?_)
   refine goes_ Try.func36 (by kernel_rfl) rfl #[.agg #[.int .i64 t662, .slice Ao9 t663.length co9], .slice Ao35 t674.length co35] (by rfl) rfl rfl (by (try simp only [List.map_toArray, List.map_cons, List.map_nil]); rfl) ?_
   with_reducible refine (impl_CostNet.calls kj4 t662 _ _ t663 _ _ t674 t677 t678 t681 _ ?side1 ?side2 ?side3 ?side4 A28.out).mono ?_
   (case side1 => repeat (exact (Kd.R_reads' HO_671001.out).2.2))
   (case side2 => exact (Kd.R_reads' HO_671001.out).2.1)
   (case side3 => repeat (exact (Kd.R_reads' HO676.out).2.2))
   (case side4 => exact (Kd.R_reads' HO676.out).2.1)
   rintro e w36 ⟨v679, rfl, ho0, hb⟩
   refine ⟨_, rfl, ?_⟩
   replace HO676 := ak (Kd.R_below (rk HO676) hb)
   have HO680 := ak (Kd.R_lower (Kd.R_new' ho0 (Kd.R_lt (rk HO_671001))) (below_size (bl2 HB GE670 GE682)))
   replace HO_671001 := ak (Kd.R_elder' (rk HO_671001) (Kd.R_base ho0) hb)
   replace BK670 := ak (blk_below (bk BK670) hb)
   replace BK682 := ak (blk_below (bk BK682) hb)
   replace HB := ak (below_step (bl2 HB GE670 GE682) hb)
   (try clear hb)
   (try clear hb2)
   (try clear hk)
   (try clear hi)
   (try clear ho0)
   refine hK.out _ _ ⟨(blk_cell BK670.out 0).trans rfl, (blk_cell BK670.out 1).trans rfl⟩ (fun hHeld => ?_)
   clear hK K
   refine norm_ (a' := ?_) ?_ ?_
   rotate_left
   ·show Act.put _ (some 66) _ = _
    simp only [SX]
    rfl
   refine pu 6 60 ?_ (ms 12 639) rfl rfl HT_ (by kernel_rfl) (fun _ _ _ h => h) (by rfl) ?_ ?_ ?_ ?_
   rotate_left
   ·intro w'
    go_simp
    with_reducible rfl
   rotate_left
   ·simp only [SX]
    rfl
   refine pu 7 67 ?_ (ms 12 767) rfl rfl HT_ (by kernel_rfl) (fun _ _ _ h => h) (by rfl) ?_ ?_ ?_ ?_
   rotate_left
   ·intro w'
    go_simp
    with_reducible rfl
   rotate_left
   ·simp only [SX]
    rfl
   refine pu 8 68 ?_ (ms 12 1023) rfl rfl HT_ (by kernel_rfl) (fun _ _ _ h => h) (by rfl) ?_ ?_ ?_ ?_
   rotate_left
   ·intro w'
    go_simp
    with_reducible rfl
   rotate_left
   ·simp only [SX]
    rfl
   exact norm_ (by simp only [putAll, Act.put, List.setIfInBounds_toArray, List.set_cons_zero, List.set_cons_succ]) (hCont (.slice Ao35 t674.length co35, v679, gb682) _ ⟨hHeld, (rk HO676), (by exact Kd.R_mono HO680.out (fun _ hk => hk.2)), (by exact Kd.R_mono HO_671001.out (fun _ hk => hk.2)), (bk BK670), (bk BK682), GW682.out, GE682.out, NB670_682.out, NB682_670.out, (bl2 HB GE670 GE682)⟩)
  rintro ⟨v675, v679, gb682⟩ w37 ⟨hS_, h0_, h1_, h2_, h3_, h4_, h5_, h6_, h7_, h8_, h9_⟩
  have HO676 : Aside0 (Kd.R (Kd.int .i64) 3 w37 w.heap.size (fun _ => True) v675 t674) := ⟨h0_⟩
  have HO680 : Aside0 (Kd.R k33 33 w37 w.heap.size (fun k_ => some k_ ≠ (.slice Ao9 t663.length co9 : Value).ownBlock) v679 t678) := ⟨h1_⟩
  replace HO_671001 : Aside0 (Kd.R k33 33 w37 w.heap.size (fun k_ => some k_ ≠ (v679 : Value).ownBlock) (.slice Ao9 t663.length co9) t663) := ⟨h2_⟩
  replace BK670 : Aside0 (w37.heap[gb670]? = some (.cells #[.int .i64 t662, .slice Ao9 t663.length co9] 25 (0, 0))) := ⟨h3_⟩
  have BK682 : Aside0 (w37.heap[gb682]? = some (.cells #[.int .i64 0, .slice none 0 0] 25 (0, 0))) := ⟨h4_⟩
  have GW682 : Aside0 (w.heap.size ≤ gb682) := ⟨h5_⟩
  have GE682 : Aside0 (w.heap.size ≤ gb682) := ⟨h6_⟩
  have NB670_682 : Aside0 (gb670 ≠ gb682) := ⟨h7_⟩
  have NB682_670 : Aside0 (gb682 ≠ gb670) := ⟨h8_⟩
  replace HB : Aside0 (Below w.heap.size w w37) := ⟨h9_⟩
  clear h0_ h1_ h2_ h3_ h4_ h5_ h6_ h7_ h8_ h9_
  have hHeld : w37.cell? ⟨gb670, 0, none⟩ = some (.int .i64 t662) ∧ w37.cell? ⟨gb670, 1, none⟩ = some (.slice Ao9 t663.length co9) := hS_
  obtain ⟨Ao39, co39, eo39⟩ := Kd.R_slice HO680.out
  (subst eo39)
  refine norm_ (a' := ?_) ?_ ?_
  rotate_left
  ·simp only [putAll, Act.put, List.setIfInBounds_toArray, List.set_cons_zero, List.set_cons_succ]
   rfl
  refine one_ (i := 10) (N := none) (ms 12 2047) rfl rfl (one_of HT_.out (by kernel_rfl)) (by decide) (fun K hK => ?_)
  have hs38 : w37.cell? ⟨gb682, 0, none⟩ = some (.int .i64 0) := (blk_cell BK682.out 0).trans rfl
  have hfs38 := blk_frozen BK682.out 0
  have hns38_0 := NB670_682.out
  have hms38_0 := NB682_670.out
  have hs40 : w37.cell? ⟨gb682, 1, none⟩ = some (.slice none 0 0) := (blk_cell BK682.out 1).trans rfl
  have hfs40 := blk_frozen BK682.out 1
  have hns40_0 := NB670_682.out
  have hms40_0 := NB682_670.out
  refine skip_ (w1 := ?_) (by rfl) rfl ?_ ?_
  rotate_left
  ·go_simp
   rfl
  refine hK.out _ _ ⟨((cell_far (p := ⟨gb682, _, none⟩) NB670_682.out _).trans (((cell_far (p := ⟨gb682, _, none⟩) NB670_682.out _).trans (hHeld.1)))), ((cell_far (p := ⟨gb682, _, none⟩) NB670_682.out _).trans (((cell_far (p := ⟨gb682, _, none⟩) NB670_682.out _).trans (hHeld.2))))⟩ (fun hHeld => ?_)
  clear hK K
  refine pu 11 10 ?_ (ms 12 4095) rfl rfl HT_ (by kernel_rfl) (fun _ _ _ h => h) (by rfl) ?_ ?_ ?_ ?_
  rotate_left
  ·intro w'
   go_simp
   with_reducible rfl
  rotate_left
  ·simp only [SX]
   rfl
  refine done_ (done_of HT_.out (by kernel_rfl)) ?_
  have hnb41 := NB682_670.out
  have hnc41 := NB670_682.out
  have hcz42_0 := bc w37 BK682 0 (.int .i64 0) rfl
  have hcz42_1 := bc w37 BK682 1 (.slice none 0 0) rfl
  have hfz42_0 := fz BK682 0
  have hfz42_1 := fz BK682 1
  try go_wp2_with (((with_reducible refine gate_callee (f := 31) rfl ?_); refine goesL_ (some 72) rfl rfl Try.func31 (by kernel_rfl) rfl #[.agg #[.int .i64 t677, .slice Ao39 t678.length co39], .int .i64 t666] rfl (by (try simp only [List.map_toArray, List.map_cons, List.map_nil]); rfl) ?_; (with_reducible refine (impl_NearAll.calls kj4 t677 _ _ t678 t666 t683 _ ?side1 ?side2 A29.out).mono ?_); (case side1 => refine (Kd.R_reads' (e := 33) (base := w.heap.size) (ok := fun k_ => some k_ ≠ (.slice Ao9 t663.length co9 : Value).ownBlock) (n := t678.length) (c := co39) ?_).2.2; exact (by exact (Kd.R_mono (Kd.R_far (p := ⟨gb682, 1, none⟩) (Kd.R_far (p := ⟨gb682, 0, none⟩) (Kd.R_types HO680.out BK682.out (by decide)) (fun _ hk => hk.2) (.int .i64 t677)) (fun _ hk => hk.2) (.slice Ao39 t678.length co39)) (fun _ h_ => h_.1)))); (case side2 => exact (Kd.R_reads' HO680.out).2.1); rintro e w43 ⟨v684, rfl, ho0, hb⟩; refine ⟨_, rfl, ?_⟩; replace HO_671001 := ak (Kd.R_below (by exact (Kd.R_mono (Kd.R_far (p := ⟨gb682, 1, none⟩) (Kd.R_far (p := ⟨gb682, 0, none⟩) (Kd.R_types HO_671001.out BK682.out (by decide)) (fun _ hk => hk.2) (.int .i64 t677)) (fun _ hk => hk.2) (.slice Ao39 t678.length co39)) (fun _ h_ => h_.1))) hb); replace HO680 := ak (Kd.R_below (by exact (Kd.R_mono (Kd.R_far (p := ⟨gb682, 1, none⟩) (Kd.R_far (p := ⟨gb682, 0, none⟩) (Kd.R_types HO680.out BK682.out (by decide)) (fun _ hk => hk.2) (.int .i64 t677)) (fun _ hk => hk.2) (.slice Ao39 t678.length co39)) (fun _ h_ => h_.1))) hb); have HO685 := ak (Kd.R_lower (Kd.R_new' ho0 (Kd.R_lt (by exact (Kd.R_mono (Kd.R_far (p := ⟨gb682, 1, none⟩) (Kd.R_far (p := ⟨gb682, 0, none⟩) (Kd.R_types HO676.out BK682.out (by decide)) (fun _ hk => hk.2) (.int .i64 t677)) (fun _ hk => hk.2) (.slice Ao39 t678.length co39)) (fun _ h_ => h_.1))))) (below_size (bl2 HB GE670 GE682))); replace HO676 := ak (Kd.R_elder' (by exact (Kd.R_mono (Kd.R_far (p := ⟨gb682, 1, none⟩) (Kd.R_far (p := ⟨gb682, 0, none⟩) (Kd.R_types HO676.out BK682.out (by decide)) (fun _ hk => hk.2) (.int .i64 t677)) (fun _ hk => hk.2) (.slice Ao39 t678.length co39)) (fun _ h_ => h_.1))) (Kd.R_base ho0) hb); replace BK670 := ak (blk_below (g := gb670) (o := .cells #[.int .i64 t662, .slice Ao9 t663.length co9] 25 (0, 0)) (by refine blk_far ?_ NB670_682.out _; refine blk_far ?_ NB670_682.out _; exact BK670.out) hb); replace BK682 := ak (blk_below (g := gb682) (o := .cells #[.int .i64 t677, .slice Ao39 t678.length co39] 25 (0, 0)) (by refine blk_put (cs := #[.int .i64 t677, .slice none 0 0]) ?_ 1 _ rfl; refine blk_put (cs := #[.int .i64 0, .slice none 0 0]) ?_ 0 _ rfl; exact BK682.out) hb); replace HB := ak (below_step (bl2 HB GE670 GE682) hb); (try clear hb); (try clear hb2); (try clear hk); (try clear hi); (try clear ho0); obtain ⟨Ao44, co44, eo44⟩ := Kd.R_slice HO685.out; subst eo44; have p686 : 0 ≤ (t667 : Int) := oT (by (with_reducible assumption)); have q686 : t667 < (t683.length : Int) := oT (by (with_reducible assumption)); obtain ⟨ad686, e686, hx686_0⟩ := Kd.at_int (Kd.R_reads' HO685.out).2.2 t667 p686 q686; cases e686; replace p686 := eq_true p686; replace q686 := eq_true q686))
  go_ret
  exact ⟨by (simp [*, errW_none, errW_some] <;> rfl), bl2 HB GE670 GE682⟩

/-- THE ONE PURE STATEMENT of laws_FnCostRoads: yours. -/
def laws_FnCostRoads.Pure : Prop := ∀ (l0 : List Int), l0.length ≤ maxLen → l0.length * 1 ≤ 140737488351232 → (∀ x ∈ l0, (Lit.int .u8 x).wf = true) → ∃ k, laws_FnCostRoads.f k l0 = some true
theorem laws_FnCostRoads.walk (P : laws_FnCostRoads.Pure) (a0 : Option Addr) (len0 cap0 : Nat) (z0 : List Int) (w : World) (w0 : (a0 = none ∧ len0 = 0 ∧ cap0 = 0 ∧ z0 = []) ∨ ∃ x, a0 = some x ∧ len0 ≤ cap0 ∧ cap0 ≤ maxLen ∧ z0.length = cap0 ∧ (∀ i, i < z0.length → w.cell? (x.add i) = some (.int .u8 (z0.getD i 0))) ∧ ∀ n ∈ z0, (Lit.int .u8 n).wf = true) (y0 : len0 * 1 ≤ 140737488351232) :
  Calls Try.prog 10 #[.slice a0 len0 cap0] w fun e w' => e = .returned (.bool true) ∧ Below w.heap.size w w' := by
 obtain ⟨l0, rfl, hr0, hm0, hw0, hc0⟩ := ReadsInt.ofRowC w0
 obtain ⟨k, h⟩ := P l0 hm0 y0 hw0
 refine (laws_FnCostRoads.calls k _ _ l0 true w (Kd.C_of_reads (d := (0 : Int)) (h1 := fun _ => rfl) hr0) hc0 h rfl).mono ?_
 rintro e w' ⟨rfl, hd⟩
 exact ⟨rfl, hd⟩

end Go.Proofs.Ytddkaiegnohkcaa.F
