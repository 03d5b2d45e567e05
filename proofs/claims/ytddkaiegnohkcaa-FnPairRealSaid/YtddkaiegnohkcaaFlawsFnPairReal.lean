-- Printed by wip/px/px.py of this claim's repository (the kit's printer, extended there). Lean checks it.
import Derived.Test.YtddkaiegnohkcaaFKinds
import Derived.Test.YtddkaiegnohkcaaFimplPairAll
import Derived.Test.YtddkaiegnohkcaaFimplWalkCost
import Derived.Test.YtddkaiegnohkcaaFlawswkToll
import Derived.Test.YtddkaiegnohkcaaFspecPairAll
import Derived.Test.YtddkaiegnohkcaaFspecDrawPairAll
import Derived.Test.YtddkaiegnohkcaaFlawswkPairs
import Derived.Test.YtddkaiegnohkcaaFimplSomeWalks
namespace Go.Proofs.Ytddkaiegnohkcaa.F
open Go.RowKit Go.Proofs.YtddkaiegnohkcaaW.PrintWords Go.Proofs.YtddkaiegnohkcaaW.PrintLast Go.Proofs.YtddkaiegnohkcaaW.PrintMore
attribute [local go_sem] max2_int min2_int max_two min_two max_three min_three max_four min_four   -- for this text's walks alone
set_option linter.unusedVariables false
set_option linter.unusedSimpArgs false
/-! ### laws_FnPairReal: function 6 -/
mutual
def laws_FnPairReal.j0 : Nat → Int → Int → List (S35) → Bool → Int → List (S33) → Option (Bool)
 | 0, _, _, _, _, _, _ => none
 | k + 1, x4, x5, x6, x40, x315000, x315001 => if x40 = true then ((spec_PairAll.f k x315000 x315001 x4 x5).bind fun t322 => ((laws_wkPairs.f k x6 t322).bind fun t325 => (some t325))) else ((impl_SomeWalks.f x315000 x315001 x4 x5 6).bind fun t326 => (if (t326.length : Int) = 6 then (some true) else (laws_FnPairReal.l0 k x6 t326 0 x315000 x315001)))
def laws_FnPairReal.l0 : Nat → List (S35) → List (List Int) → Int → Int → List (S33) → Option (Bool)
 | 0, _, _, _, _, _ => none
 | k + 1, x6, x7, x8, x315000, x315001 => if x8 < (x6.length : Int) then (laws_FnPairReal.l1 k x6 x7 x8 false 0 x315000 x315001) else (some true)
def laws_FnPairReal.l1 : Nat → List (S35) → List (List Int) → Int → Bool → Int → Int → List (S33) → Option (Bool)
 | 0, _, _, _, _, _, _, _ => none
 | k + 1, x6, x7, x8, x9, x10, x315000, x315001 => if x10 < (x7.length : Int) then (if x9 = true then (laws_FnPairReal.l1 k x6 x7 x8 true (wrap64 (x10 + 1)) x315000 x315001) else (if 0 ≤ x10 then ((impl_WalkCost.f k x315000 x315001 (rd_L5 x7 x10)).bind fun t330 => (if 0 ≤ x8 then (if x8 < (x6.length : Int) then (if t330 = ((rd_T35 x6 x8).f0) then ((laws_wkToll.f k x315000 x315001 (rd_L5 x7 x10)).bind fun t333 => (laws_FnPairReal.l1 k x6 x7 x8 (t333 == ((rd_T35 x6 x8).f1)) (wrap64 (x10 + 1)) x315000 x315001)) else (laws_FnPairReal.l1 k x6 x7 x8 false (wrap64 (x10 + 1)) x315000 x315001)) else (none)) else (none))) else (none))) else (if x9 = true then (laws_FnPairReal.l0 k x6 x7 (wrap64 (x8 + 1)) x315000 x315001) else (some false))
end
def laws_FnPairReal.f (k : Nat) (l0 : List Int) : Option (Bool) := if (l0.length : Int) > 1048576 then (some true) else ((spec_DrawPairAll.f k l0).bind fun bt308 => ((impl_PairAll.f k bt308.1 bt308.2.1 bt308.2.2.1 bt308.2.2.2).bind fun t315 => ((spec_PairAll.f k bt308.1 bt308.2.1 bt308.2.2.1 bt308.2.2.2).bind fun t318 => ((laws_wkPairs.f k t315 t318).bind fun t321 => (if t321 = true then (if (t315.length : Int) = 0 then (laws_FnPairReal.j0 k bt308.2.2.1 bt308.2.2.2 t315 true bt308.1 bt308.2.1) else (laws_FnPairReal.j0 k bt308.2.2.1 bt308.2.2.2 t315 (bt308.2.2.1 == bt308.2.2.2) bt308.1 bt308.2.1)) else (laws_FnPairReal.j0 k bt308.2.2.1 bt308.2.2.2 t315 true bt308.1 bt308.2.1))))))
theorem laws_FnPairReal.mono_l : ∀ k, (∀ y0 y1 y2 y3 y4 y5, LeO (laws_FnPairReal.j0 k y0 y1 y2 y3 y4 y5) (laws_FnPairReal.j0 (k + 1) y0 y1 y2 y3 y4 y5)) ∧ (∀ y0 y1 y2 y3 y4, LeO (laws_FnPairReal.l0 k y0 y1 y2 y3 y4) (laws_FnPairReal.l0 (k + 1) y0 y1 y2 y3 y4)) ∧ (∀ y0 y1 y2 y3 y4 y5 y6, LeO (laws_FnPairReal.l1 k y0 y1 y2 y3 y4 y5 y6) (laws_FnPairReal.l1 (k + 1) y0 y1 y2 y3 y4 y5 y6))
 | 0 => ⟨fun _ _ _ _ _ _ r h => by simp [laws_FnPairReal.j0] at h, fun _ _ _ _ _ r h => by simp [laws_FnPairReal.l0] at h, fun _ _ _ _ _ _ _ r h => by simp [laws_FnPairReal.l1] at h⟩
 | k + 1 => by
  obtain ⟨ih0, ih1, ih2⟩ := laws_FnPairReal.mono_l k
  refine ⟨?_, ?_, ?_⟩
  ·intro y0 y1 y2 y3 y4 y5
   unfold laws_FnPairReal.j0
   repeat' first
   | (with_reducible exact ih0 _ _ _ _ _ _)
   | (with_reducible exact ih1 _ _ _ _ _)
   | (with_reducible exact ih2 _ _ _ _ _ _ _)
   | (with_reducible exact impl_PairAll.mono _ _ _ _ _)
   | (with_reducible exact impl_WalkCost.mono _ _ _ _)
   | (with_reducible exact laws_wkPairs.mono _ _ _)
   | (with_reducible exact laws_wkToll.mono _ _ _ _)
   | (with_reducible exact spec_DrawPairAll.mono _ _)
   | (with_reducible exact spec_PairAll.mono _ _ _ _ _)
   | (with_reducible exact LeO.refl _)
   | (with_reducible exact LeO.none _)
   | (with_reducible refine LeO.ite ?_ ?_)
   | (with_reducible refine LeO.bind ?_ (fun _ => ?_))
   | exact ih0 _ _ _ _ _ _
   | exact ih1 _ _ _ _ _
   | exact ih2 _ _ _ _ _ _ _
   | exact impl_PairAll.mono _ _ _ _ _
   | exact impl_WalkCost.mono _ _ _ _
   | exact laws_wkPairs.mono _ _ _
   | exact laws_wkToll.mono _ _ _ _
   | exact spec_DrawPairAll.mono _ _
   | exact spec_PairAll.mono _ _ _ _ _
   | exact LeO.none _
   | refine LeO.ite ?_ ?_
   | refine LeO.bind ?_ (fun _ => ?_)
  ·intro y0 y1 y2 y3 y4
   unfold laws_FnPairReal.l0
   repeat' first
   | (with_reducible exact ih0 _ _ _ _ _ _)
   | (with_reducible exact ih1 _ _ _ _ _)
   | (with_reducible exact ih2 _ _ _ _ _ _ _)
   | (with_reducible exact impl_PairAll.mono _ _ _ _ _)
   | (with_reducible exact impl_WalkCost.mono _ _ _ _)
   | (with_reducible exact laws_wkPairs.mono _ _ _)
   | (with_reducible exact laws_wkToll.mono _ _ _ _)
   | (with_reducible exact spec_DrawPairAll.mono _ _)
   | (with_reducible exact spec_PairAll.mono _ _ _ _ _)
   | (with_reducible exact LeO.refl _)
   | (with_reducible exact LeO.none _)
   | (with_reducible refine LeO.ite ?_ ?_)
   | (with_reducible refine LeO.bind ?_ (fun _ => ?_))
   | exact ih0 _ _ _ _ _ _
   | exact ih1 _ _ _ _ _
   | exact ih2 _ _ _ _ _ _ _
   | exact impl_PairAll.mono _ _ _ _ _
   | exact impl_WalkCost.mono _ _ _ _
   | exact laws_wkPairs.mono _ _ _
   | exact laws_wkToll.mono _ _ _ _
   | exact spec_DrawPairAll.mono _ _
   | exact spec_PairAll.mono _ _ _ _ _
   | exact LeO.none _
   | refine LeO.ite ?_ ?_
   | refine LeO.bind ?_ (fun _ => ?_)
  ·intro y0 y1 y2 y3 y4 y5 y6
   unfold laws_FnPairReal.l1
   repeat' first
   | (with_reducible exact ih0 _ _ _ _ _ _)
   | (with_reducible exact ih1 _ _ _ _ _)
   | (with_reducible exact ih2 _ _ _ _ _ _ _)
   | (with_reducible exact impl_PairAll.mono _ _ _ _ _)
   | (with_reducible exact impl_WalkCost.mono _ _ _ _)
   | (with_reducible exact laws_wkPairs.mono _ _ _)
   | (with_reducible exact laws_wkToll.mono _ _ _ _)
   | (with_reducible exact spec_DrawPairAll.mono _ _)
   | (with_reducible exact spec_PairAll.mono _ _ _ _ _)
   | (with_reducible exact LeO.refl _)
   | (with_reducible exact LeO.none _)
   | (with_reducible refine LeO.ite ?_ ?_)
   | (with_reducible refine LeO.bind ?_ (fun _ => ?_))
   | exact ih0 _ _ _ _ _ _
   | exact ih1 _ _ _ _ _
   | exact ih2 _ _ _ _ _ _ _
   | exact impl_PairAll.mono _ _ _ _ _
   | exact impl_WalkCost.mono _ _ _ _
   | exact laws_wkPairs.mono _ _ _
   | exact laws_wkToll.mono _ _ _ _
   | exact spec_DrawPairAll.mono _ _
   | exact spec_PairAll.mono _ _ _ _ _
   | exact LeO.none _
   | refine LeO.ite ?_ ?_
   | refine LeO.bind ?_ (fun _ => ?_)
theorem laws_FnPairReal.mono : ∀ a0 k, LeO (laws_FnPairReal.f k a0) (laws_FnPairReal.f (k + 1) a0) := by
 intro a0 k
 obtain ⟨ih0, ih1, ih2⟩ := laws_FnPairReal.mono_l k
 unfold laws_FnPairReal.f
 repeat' first
   | (with_reducible exact ih0 _ _ _ _ _ _)
   | (with_reducible exact ih1 _ _ _ _ _)
   | (with_reducible exact ih2 _ _ _ _ _ _ _)
   | (with_reducible exact impl_PairAll.mono _ _ _ _ _)
   | (with_reducible exact impl_WalkCost.mono _ _ _ _)
   | (with_reducible exact laws_wkPairs.mono _ _ _)
   | (with_reducible exact laws_wkToll.mono _ _ _ _)
   | (with_reducible exact spec_DrawPairAll.mono _ _)
   | (with_reducible exact spec_PairAll.mono _ _ _ _ _)
   | (with_reducible exact LeO.refl _)
   | (with_reducible exact LeO.none _)
   | (with_reducible refine LeO.ite ?_ ?_)
   | (with_reducible refine LeO.bind ?_ (fun _ => ?_))
   | exact ih0 _ _ _ _ _ _
   | exact ih1 _ _ _ _ _
   | exact ih2 _ _ _ _ _ _ _
   | exact impl_PairAll.mono _ _ _ _ _
   | exact impl_WalkCost.mono _ _ _ _
   | exact laws_wkPairs.mono _ _ _
   | exact laws_wkToll.mono _ _ _ _
   | exact spec_DrawPairAll.mono _ _
   | exact spec_PairAll.mono _ _ _ _ _
   | exact LeO.none _
   | refine LeO.ite ?_ ?_
   | refine LeO.bind ?_ (fun _ => ?_)
def laws_FnPairReal.T17 : Bool × List (List Nat × List Nat) := (true, [([], []), ([0], [0]), ([1], [1]), ([1], [1]), ([1], [1]), ([3, 4, 1], [1, 3, 4]), ([5, 1], [1, 5]), ([2, 6, 1, 1], [1, 2, 6]), ([1], [1]), ([1], [1]), ([8, 9, 1], [1, 8, 9]), ([10, 1], [1, 10]), ([11, 1], [1, 11]), ([7, 12, 1], [1, 7, 12]), ([13, 7, 1], [1, 13]), ([14], [14]), ([14], [14]), ([14], [14]), ([16, 17, 14], [14, 16, 17]), ([18, 14], [14, 18]), ([15, 19, 14, 14], [14, 15, 19]), ([14], [14]), ([14], [14]), ([21, 22, 14], [14, 21, 22]), ([23, 14], [14, 23]), ([24, 14], [14, 24]), ([20, 25, 14], [14, 20, 25]), ([14, 26, 1], [1, 14, 26]), ([1, 27], [1, 27]), ([28, 20, 0, 1, 2, 3, 4, 5, 6, 7, 8, 9, 10, 11, 12, 13, 14, 15, 16, 17, 18, 19, 20, 21, 22, 23, 24, 25, 26, 27, 28], [0, 28])])
def laws_FnPairReal.B17 : List Nat := [0, 1, 3, 3, 3, 27, 59, 127, 3, 3, 771, 1795, 3843, 8191, 16383, 32767, 32767, 32767, 229375, 491519, 1048575, 32767, 32767, 6324223, 14712831, 31490047, 67108863, 134217727, 268435455, 536870911]
theorem laws_FnPairReal.tab17 : rtab .any (opsOf Try.f6 17) = laws_FnPairReal.T17 := by kernel_rfl
theorem laws_FnPairReal.bits17 : waitsOk laws_FnPairReal.T17.2 laws_FnPairReal.B17 = true := by kernel_rfl
set_option maxHeartbeats 8000000 in
set_option maxRecDepth 100000 in
theorem laws_FnPairReal.calls (k : Nat) (A0 : Option Addr) (c0 : Nat) (l0 : List Int) (r : Bool) (w : World) (hr0 : Kd.C (Kd.int .u8) w A0 l0.length l0) (hc0 : l0.length ≤ c0) (h : laws_FnPairReal.f k l0 = some r) (hr_ : r = true) :
  Calls Try.prog 6 #[.slice A0 l0.length c0] w fun e w' => e = .returned (.bool r) ∧ Below w.heap.size w w' := by
 have hu25 := Try.underlying25
 have HR0 := ak hr0
 have HC0 := ak hc0
 clear hr0 hc0
 have HB := ak (Below.refl w.heap.size w)
 have H : (if (l0.length : Int) > 1048576 then (some true) else ((spec_DrawPairAll.f k l0).bind fun bt308 => ((impl_PairAll.f k bt308.1 bt308.2.1 bt308.2.2.1 bt308.2.2.2).bind fun t315 => ((spec_PairAll.f k bt308.1 bt308.2.1 bt308.2.2.1 bt308.2.2.2).bind fun t318 => ((laws_wkPairs.f k t315 t318).bind fun t321 => (if t321 = true then (if (t315.length : Int) = 0 then (laws_FnPairReal.j0 k bt308.2.2.1 bt308.2.2.2 t315 true bt308.1 bt308.2.1) else (laws_FnPairReal.j0 k bt308.2.2.1 bt308.2.2.2 t315 (bt308.2.2.1 == bt308.2.2.2) bt308.1 bt308.2.1)) else (laws_FnPairReal.j0 k bt308.2.2.1 bt308.2.2.2 t315 true bt308.1 bt308.2.1))))))) = some r := h
 clear h
 by_cases c2 : (l0.length : Int) > 1048576
 ·rw [if_pos c2] at H
  have c2b0 : decide (1048576 < (l0.length : Int)) = true := decide_eq_true c2
  have c2b1 : decide (1048576 < l0.length) = true := decide_eq_true (by omega)
  clear c2
  obtain rfl := Option.some.inj H
  go_enter Try.func6, Try.ntmps6
  go_wp2
  go_ret
  exact ⟨by first | rfl | (simp [errW_none, errW_some] <;> rfl) | (simp [*, errW_none, errW_some] <;> rfl), bl HB⟩
 rw [if_neg c2] at H
 have c2b0 : decide (1048576 < (l0.length : Int)) = false := decide_eq_false c2
 have c2b1 : decide (1048576 < l0.length) = false := decide_eq_false (by omega)
 clear c2
 replace H := Option.bind_eq_some_iff.mp H
 obtain ⟨⟨t308, t309, t312, t313⟩, A30, H⟩ := H
 have A3 := ak A30
 clear A30
 replace H := Option.bind_eq_some_iff.mp H
 obtain ⟨t315, A40, H⟩ := H
 have A4 := ak A40
 clear A40
 have HC5 := ak H
 clear H
 go_enter Try.func6, Try.ntmps6
 go_upto_region 5 with (first | ((with_reducible refine gate_callee (f := 27) rfl ?_); refine goesL_ (some 16) rfl rfl Try.func27 (by kernel_rfl) rfl #[.slice A0 l0.length c0] rfl (by (try simp only [List.map_toArray, List.map_cons, List.map_nil]); first | done | rfl | (simp only [List.length_drop, List.length_take]; rfl)) ?_; (with_reducible refine (spec_DrawPairAll.calls k _ _ l0 t308 t309 t312 t313 _ ?side1 ?side2 A3.out).mono ?_); (case side1 => repeat (first | exact HR0.out | (with_reducible refine Kd.C_alloc ?_ _) | (with_reducible refine Kd.C_drewN ?_ _) | (with_reducible refine Kd.C_drew ?_))); (case side2 => exact HC0.out); rintro e w6 ⟨v310, rfl, ho0, hb⟩; refine ⟨_, rfl, ?_⟩; have HO311 := ak (Kd.R_lower ho0 (below_size (bl HB))); replace HB := ak (below_step (bl HB) hb); (try clear hb); (try clear hb2); (try clear hk); (try clear hi); (try clear ho0)) | ((with_reducible refine gate_dst (N := 3) rfl ?_); refine box_event ?hg (N := 3) ?hd (cs := #[.int .i64 0, .slice none 0 0]) (t := 25) ?hr ?_; (case hd => rfl); (case hg => rfl); (case hr => first | (go_simp; done) | (go_simp; rfl)); intro gb314 hg w7 hbox hb; replace HO311 := ak (Kd.R_below (rk HO311) hb); have BK314 := ak (hbox); have GW314 := ak ((by rw [hg]; exact (below_size (bl HB)) : w.heap.size ≤ gb314)); have GE314 := ak ((by rw [hg]; exact (below_size (bl HB)) : w.heap.size ≤ gb314)); replace HB := ak (below_step (bl HB) hb); clear hb hbox hg; have hcz8_0 := bc w7 BK314 0 (.int .i64 0) rfl; have hcz8_1 := bc w7 BK314 1 (.slice none 0 0) rfl; have hfz8_0 := fz BK314 0; have hfz8_1 := fz BK314 1; obtain ⟨Ao9, co9, eo9⟩ := Kd.R_slice HO311.out; subst eo9) | ((with_reducible refine gate_callee (f := 14) rfl ?_); refine goesL_ (some 23) rfl rfl Try.func14 (by kernel_rfl) rfl #[.agg #[.int .i64 t308, .slice Ao9 t309.length co9], .int .i64 t312, .int .i64 t313] rfl (by (try simp only [List.map_toArray, List.map_cons, List.map_nil]); first | done | rfl | (simp only [List.length_drop, List.length_take]; rfl)) ?_; (with_reducible refine (impl_PairAll.calls k t308 _ _ t309 t312 t313 t315 _ ?side1 ?side2 A4.out).mono ?_); (case side1 => refine (Kd.R_reads' (e := 33) (base := w.heap.size) (ok := fun k_ => True) (n := t309.length) (c := co9) ?_).2.2; exact (by (with_reducible repeat (first | apply Kd.R_alloc | apply Kd.R_drewN | apply Kd.R_drew)); exact (Kd.R_mono (Kd.R_far (p := ⟨gb314, 1, none⟩) (Kd.R_far (p := ⟨gb314, 0, none⟩) (Kd.R_types HO311.out BK314.out (by decide)) (fun _ hk => hk.2) (.int .i64 t308)) (fun _ hk => hk.2) (.slice Ao9 t309.length co9)) (fun _ h_ => h_.1)))); (case side2 => exact (Kd.R_reads' HO311.out).2.1); rintro e w10 ⟨v316, rfl, ho0, hb⟩; refine ⟨_, rfl, ?_⟩; replace HO311 := ak (Kd.R_below (by (with_reducible repeat (first | apply Kd.R_alloc | apply Kd.R_drewN | apply Kd.R_drew)); exact (Kd.R_mono (Kd.R_far (p := ⟨gb314, 1, none⟩) (Kd.R_far (p := ⟨gb314, 0, none⟩) (Kd.R_types HO311.out BK314.out (by decide)) (fun _ hk => hk.2) (.int .i64 t308)) (fun _ hk => hk.2) (.slice Ao9 t309.length co9)) (fun _ h_ => h_.1))) hb); have HO317 := ak (Kd.R_lower ho0 (below_size (bl1 HB GE314))); replace BK314 := ak (blk_below (g := gb314) (o := .cells #[.int .i64 t308, .slice Ao9 t309.length co9] 25 (0, 0)) (by (with_reducible repeat (first | refine blk_drewN ?_ _ | refine blk_drew ?_ | refine blk_alloc ?_ _)); refine blk_put (cs := #[.int .i64 t308, .slice none 0 0]) ?_ 1 _ rfl; refine blk_put (cs := #[.int .i64 0, .slice none 0 0]) ?_ 0 _ rfl; (with_reducible repeat (first | refine blk_drewN ?_ _ | refine blk_drew ?_ | refine blk_alloc ?_ _)); exact BK314.out) hb); replace HB := ak (below_step (bl1 HB GE314) hb); (try clear hb); (try clear hb2); (try clear hk); (try clear hi); (try clear ho0)))
 (try simp only [Act.put, List.setIfInBounds_toArray, List.set_cons_zero, List.set_cons_succ])
 go_cut [40] (fun v40 wc => ∃ (kq : Nat) (x40_4 : Bool), v40 = .bool x40_4 ∧ Aside0 (laws_FnPairReal.j0 kq t312 t313 t315 x40_4 t308 t309 = some r) ∧ Aside0 (kq ≤ k) ∧ Aside0 (Kd.R k35 35 wc w.heap.size (fun _ => True) v316 t315) ∧ Aside0 (Kd.R k33 33 wc w.heap.size (fun _ => True) (.slice Ao9 t309.length co9) t309) ∧ Aside0 (wc.heap[gb314]? = some (.cells #[.int .i64 t308, (.slice Ao9 t309.length co9)] 25 (0, 0))) ∧ Aside0 (Below w.heap.size w wc))
 case first =>
  have H := HC5.out
  clear HC5
  replace H := Option.bind_eq_some_iff.mp H
  obtain ⟨t318, A110, H⟩ := H
  have A11 := ak A110
  clear A110
  replace H := Option.bind_eq_some_iff.mp H
  obtain ⟨t321, A120, H⟩ := H
  have A12 := ak A120
  clear A120
  by_cases c13 : t321 = true
  rotate_left
  ·replace c13 := Bool.eq_false_iff.mpr c13
   subst c13
   rw [if_neg (show ¬ (false = true) by decide)] at H
   have H' := ak H
   clear H
   have hcz23_0 := bc w10 BK314 0 (.int .i64 t308) rfl
   have hcz23_1 := bc w10 BK314 1 (.slice Ao9 t309.length co9) rfl
   have hfz23_0 := fz BK314 0
   have hfz23_1 := fz BK314 1
   go_wp2_with (first | ((with_reducible refine gate_callee (f := 22) rfl ?_); refine goesL_ (some 28) rfl rfl Try.func22 (by kernel_rfl) rfl #[.agg #[.int .i64 t308, .slice Ao9 t309.length co9], .int .i64 t312, .int .i64 t313] rfl (by (try simp only [List.map_toArray, List.map_cons, List.map_nil]); first | done | rfl | (simp only [List.length_drop, List.length_take]; rfl)) ?_; (with_reducible refine (spec_PairAll.calls k t308 _ _ t309 t312 t313 t318 _ ?side1 ?side2 A11.out).mono ?_); (case side1 => repeat (first | exact (Kd.R_reads' HO311.out).2.2 | (with_reducible refine Kd.C_alloc ?_ _) | (with_reducible refine Kd.C_drewN ?_ _) | (with_reducible refine Kd.C_drew ?_))); (case side2 => exact (Kd.R_reads' HO311.out).2.1); rintro e w24 ⟨v319, rfl, ho0, hb⟩; refine ⟨_, rfl, ?_⟩; replace HO311 := ak (Kd.R_below (rk HO311) hb); have HO320 := ak (Kd.R_lower (Kd.R_new' ho0 (Kd.R_lt (rk HO317))) (below_size (bl1 HB GE314))); replace HO317 := ak (Kd.R_elder' (rk HO317) (Kd.R_base ho0) hb); replace BK314 := ak (blk_below (bk BK314) hb); replace HB := ak (below_step (bl1 HB GE314) hb); (try clear hb); (try clear hb2); (try clear hk); (try clear hi); (try clear ho0); obtain ⟨Ao25, co25, eo25⟩ := Kd.R_slice HO317.out; subst eo25; obtain ⟨Ao26, co26, eo26⟩ := Kd.R_slice HO320.out; subst eo26) | ((with_reducible refine gate_callee (f := 28) rfl ?_); refine goesL_ (some 29) rfl rfl Try.func28 (by kernel_rfl) rfl #[.slice Ao25 t315.length co25, .slice Ao26 t318.length co26] rfl (by (try simp only [List.map_toArray, List.map_cons, List.map_nil]); first | done | rfl | (simp only [List.length_drop, List.length_take]; rfl)) ?_; (with_reducible refine (laws_wkPairs.calls k _ _ t315 _ _ t318 false _ ?side1 ?side2 ?side3 ?side4 A12.out).mono ?_); (case side1 => repeat (first | exact (Kd.R_reads' HO317.out).2.2 | (with_reducible refine Kd.C_alloc ?_ _) | (with_reducible refine Kd.C_drewN ?_ _) | (with_reducible refine Kd.C_drew ?_))); (case side2 => exact (Kd.R_reads' HO317.out).2.1); (case side3 => repeat (first | exact (Kd.R_reads' HO320.out).2.2 | (with_reducible refine Kd.C_alloc ?_ _) | (with_reducible refine Kd.C_drewN ?_ _) | (with_reducible refine Kd.C_drew ?_))); (case side4 => exact (Kd.R_reads' HO320.out).2.1); rintro e w' ⟨rfl, ⟨nd, rfl⟩⟩; refine ⟨_, rfl, ?_⟩))
   go_meet
   case rel => exact ⟨_, (true), (by first | rfl | (simp; done) | (simp [*]; done)), H', ⟨by first | omega | exact Nat.le_refl _⟩, ⟨by (with_reducible repeat (first | apply Kd.R_alloc | apply Kd.R_drewN | apply Kd.R_drew)); exact Kd.R_mono HO317.out (fun _ hk => trivial)⟩, ⟨rk HO311⟩, ⟨bk BK314⟩, ⟨bl1 HB GE314⟩⟩
  subst c13
  rw [if_pos rfl] at H
  by_cases c14 : (t315.length : Int) = 0
  ·rw [if_pos c14] at H
   have c14b0 : ((t315.length : Int) == 0) = true := beq_iff_eq.mpr c14
   have c14b1 : ((t315.length : Int) != 0) = false := bne_eq_false_iff_eq.mpr c14
   clear c14
   (first | rw [c14b0] | (simp only [i64_w, i32_w]; rw [c14b0]) | skip)
   have H' := ak H
   clear H
   have hcz15_0 := bc w10 BK314 0 (.int .i64 t308) rfl
   have hcz15_1 := bc w10 BK314 1 (.slice Ao9 t309.length co9) rfl
   have hfz15_0 := fz BK314 0
   have hfz15_1 := fz BK314 1
   go_wp2_with (first | ((with_reducible refine gate_callee (f := 22) rfl ?_); refine goesL_ (some 28) rfl rfl Try.func22 (by kernel_rfl) rfl #[.agg #[.int .i64 t308, .slice Ao9 t309.length co9], .int .i64 t312, .int .i64 t313] rfl (by (try simp only [List.map_toArray, List.map_cons, List.map_nil]); first | done | rfl | (simp only [List.length_drop, List.length_take]; rfl)) ?_; (with_reducible refine (spec_PairAll.calls k t308 _ _ t309 t312 t313 t318 _ ?side1 ?side2 A11.out).mono ?_); (case side1 => repeat (first | exact (Kd.R_reads' HO311.out).2.2 | (with_reducible refine Kd.C_alloc ?_ _) | (with_reducible refine Kd.C_drewN ?_ _) | (with_reducible refine Kd.C_drew ?_))); (case side2 => exact (Kd.R_reads' HO311.out).2.1); rintro e w16 ⟨v319, rfl, ho0, hb⟩; refine ⟨_, rfl, ?_⟩; replace HO311 := ak (Kd.R_below (rk HO311) hb); have HO320 := ak (Kd.R_lower (Kd.R_new' ho0 (Kd.R_lt (rk HO317))) (below_size (bl1 HB GE314))); replace HO317 := ak (Kd.R_elder' (rk HO317) (Kd.R_base ho0) hb); replace BK314 := ak (blk_below (bk BK314) hb); replace HB := ak (below_step (bl1 HB GE314) hb); (try clear hb); (try clear hb2); (try clear hk); (try clear hi); (try clear ho0); obtain ⟨Ao17, co17, eo17⟩ := Kd.R_slice HO317.out; subst eo17; obtain ⟨Ao18, co18, eo18⟩ := Kd.R_slice HO320.out; subst eo18) | ((with_reducible refine gate_callee (f := 28) rfl ?_); refine goesL_ (some 29) rfl rfl Try.func28 (by kernel_rfl) rfl #[.slice Ao17 t315.length co17, .slice Ao18 t318.length co18] rfl (by (try simp only [List.map_toArray, List.map_cons, List.map_nil]); first | done | rfl | (simp only [List.length_drop, List.length_take]; rfl)) ?_; (with_reducible refine (laws_wkPairs.calls k _ _ t315 _ _ t318 true _ ?side1 ?side2 ?side3 ?side4 A12.out).mono ?_); (case side1 => repeat (first | exact (Kd.R_reads' HO317.out).2.2 | (with_reducible refine Kd.C_alloc ?_ _) | (with_reducible refine Kd.C_drewN ?_ _) | (with_reducible refine Kd.C_drew ?_))); (case side2 => exact (Kd.R_reads' HO317.out).2.1); (case side3 => repeat (first | exact (Kd.R_reads' HO320.out).2.2 | (with_reducible refine Kd.C_alloc ?_ _) | (with_reducible refine Kd.C_drewN ?_ _) | (with_reducible refine Kd.C_drew ?_))); (case side4 => exact (Kd.R_reads' HO320.out).2.1); rintro e w' ⟨rfl, ⟨nd, rfl⟩⟩; refine ⟨_, rfl, ?_⟩))
   go_meet
   case rel => exact ⟨_, (true), (by first | rfl | (simp; done) | (simp [*]; done)), H', ⟨by first | omega | exact Nat.le_refl _⟩, ⟨by (with_reducible repeat (first | apply Kd.R_alloc | apply Kd.R_drewN | apply Kd.R_drew)); exact Kd.R_mono HO317.out (fun _ hk => trivial)⟩, ⟨rk HO311⟩, ⟨bk BK314⟩, ⟨bl1 HB GE314⟩⟩
  rw [if_neg c14] at H
  have c14b0 : ((t315.length : Int) == 0) = false := beq_eq_false_iff_ne.mpr c14
  have c14b1 : ((t315.length : Int) != 0) = true := bne_iff_ne.mpr c14
  have c14b2 : ¬ (t315 = []) := fun h_ => c14 (by rw [h_]; rfl)
  (first | rw [c14b0] | (simp only [i64_w, i32_w]; rw [c14b0]) | skip)
  have H' := ak H
  clear H
  have hcz19_0 := bc w10 BK314 0 (.int .i64 t308) rfl
  have hcz19_1 := bc w10 BK314 1 (.slice Ao9 t309.length co9) rfl
  have hfz19_0 := fz BK314 0
  have hfz19_1 := fz BK314 1
  go_wp2_with (first | ((with_reducible refine gate_callee (f := 22) rfl ?_); refine goesL_ (some 28) rfl rfl Try.func22 (by kernel_rfl) rfl #[.agg #[.int .i64 t308, .slice Ao9 t309.length co9], .int .i64 t312, .int .i64 t313] rfl (by (try simp only [List.map_toArray, List.map_cons, List.map_nil]); first | done | rfl | (simp only [List.length_drop, List.length_take]; rfl)) ?_; (with_reducible refine (spec_PairAll.calls k t308 _ _ t309 t312 t313 t318 _ ?side1 ?side2 A11.out).mono ?_); (case side1 => repeat (first | exact (Kd.R_reads' HO311.out).2.2 | (with_reducible refine Kd.C_alloc ?_ _) | (with_reducible refine Kd.C_drewN ?_ _) | (with_reducible refine Kd.C_drew ?_))); (case side2 => exact (Kd.R_reads' HO311.out).2.1); rintro e w20 ⟨v319, rfl, ho0, hb⟩; refine ⟨_, rfl, ?_⟩; replace HO311 := ak (Kd.R_below (rk HO311) hb); have HO320 := ak (Kd.R_lower (Kd.R_new' ho0 (Kd.R_lt (rk HO317))) (below_size (bl1 HB GE314))); replace HO317 := ak (Kd.R_elder' (rk HO317) (Kd.R_base ho0) hb); replace BK314 := ak (blk_below (bk BK314) hb); replace HB := ak (below_step (bl1 HB GE314) hb); (try clear hb); (try clear hb2); (try clear hk); (try clear hi); (try clear ho0); obtain ⟨Ao21, co21, eo21⟩ := Kd.R_slice HO317.out; subst eo21; obtain ⟨Ao22, co22, eo22⟩ := Kd.R_slice HO320.out; subst eo22) | ((with_reducible refine gate_callee (f := 28) rfl ?_); refine goesL_ (some 29) rfl rfl Try.func28 (by kernel_rfl) rfl #[.slice Ao21 t315.length co21, .slice Ao22 t318.length co22] rfl (by (try simp only [List.map_toArray, List.map_cons, List.map_nil]); first | done | rfl | (simp only [List.length_drop, List.length_take]; rfl)) ?_; (with_reducible refine (laws_wkPairs.calls k _ _ t315 _ _ t318 true _ ?side1 ?side2 ?side3 ?side4 A12.out).mono ?_); (case side1 => repeat (first | exact (Kd.R_reads' HO317.out).2.2 | (with_reducible refine Kd.C_alloc ?_ _) | (with_reducible refine Kd.C_drewN ?_ _) | (with_reducible refine Kd.C_drew ?_))); (case side2 => exact (Kd.R_reads' HO317.out).2.1); (case side3 => repeat (first | exact (Kd.R_reads' HO320.out).2.2 | (with_reducible refine Kd.C_alloc ?_ _) | (with_reducible refine Kd.C_drewN ?_ _) | (with_reducible refine Kd.C_drew ?_))); (case side4 => exact (Kd.R_reads' HO320.out).2.1); rintro e w' ⟨rfl, ⟨nd, rfl⟩⟩; refine ⟨_, rfl, ?_⟩))
  go_meet
  case rel => exact ⟨_, ((t312 == t313)), (by first | rfl | (simp; done) | (simp [*]; done)), H', ⟨by first | omega | exact Nat.le_refl _⟩, ⟨by (with_reducible repeat (first | apply Kd.R_alloc | apply Kd.R_drewN | apply Kd.R_drew)); exact Kd.R_mono HO317.out (fun _ hk => trivial)⟩, ⟨rk HO311⟩, ⟨bk BK314⟩, ⟨bl1 HB GE314⟩⟩
 clear HC5
 try clear c1
 try clear c2
 try clear c2b0
 try clear c2b1
 try clear p2
 try clear c6
 try clear c13
 try clear c14
 try clear c14b0
 try clear c14b1
 try clear c14b2
 try clear c22
 try clear hcz15_0
 try clear hcz15_1
 try clear hcz19_0
 try clear hcz19_1
 try clear hcz23_0
 try clear hcz23_1
 try clear hcz8_0
 try clear hcz8_1
 try clear hfz15_0
 try clear hfz15_1
 try clear hfz19_0
 try clear hfz19_1
 try clear hfz23_0
 try clear hfz23_1
 try clear hfz8_0
 try clear hfz8_1
 obtain ⟨kq, x40_4, rfl, HA, HJ4, HO_6, HO_315001, BK314, HB⟩ := hcut
 cases kq with
 | zero => exact absurd HA.out (by simp [laws_FnPairReal.j0])
 | succ kj4 =>
  have H := HA.out
  clear HA
  simp only [laws_FnPairReal.j0] at H
  by_cases c27 : x40_4 = true
  ·subst c27
   rw [if_pos rfl] at H
   replace H := Option.bind_eq_some_iff.mp H
   obtain ⟨t322, A280, H⟩ := H
   have A28 := ak A280
   clear A280
   replace H := Option.bind_eq_some_iff.mp H
   obtain ⟨t325, A290, H⟩ := H
   have A29 := ak A290
   clear A290
   obtain rfl := Option.some.inj H
   have hcz30_0 := bc wc BK314 0 (.int .i64 t308) rfl
   have hcz30_1 := bc wc BK314 1 (.slice Ao9 t309.length co9) rfl
   have hfz30_0 := fz BK314 0
   have hfz30_1 := fz BK314 1
   go_wp2_with (first | ((with_reducible refine gate_callee (f := 22) rfl ?_); refine goesL_ (some 45) rfl rfl Try.func22 (by kernel_rfl) rfl #[.agg #[.int .i64 t308, .slice Ao9 t309.length co9], .int .i64 t312, .int .i64 t313] rfl (by (try simp only [List.map_toArray, List.map_cons, List.map_nil]); first | done | rfl | (simp only [List.length_drop, List.length_take]; rfl)) ?_; (with_reducible refine (spec_PairAll.calls kj4 t308 _ _ t309 t312 t313 t322 _ ?side1 ?side2 A28.out).mono ?_); (case side1 => repeat (first | exact (Kd.R_reads' HO_315001.out).2.2 | (with_reducible refine Kd.C_alloc ?_ _) | (with_reducible refine Kd.C_drewN ?_ _) | (with_reducible refine Kd.C_drew ?_))); (case side2 => exact (Kd.R_reads' HO_315001.out).2.1); rintro e w31 ⟨v323, rfl, ho0, hb⟩; refine ⟨_, rfl, ?_⟩; replace HO_315001 := ak (Kd.R_below (rk HO_315001) hb); have HO324 := ak (Kd.R_lower (Kd.R_new' ho0 (Kd.R_lt (rk HO_6))) (below_size (bl1 HB GE314))); replace HO_6 := ak (Kd.R_elder' (rk HO_6) (Kd.R_base ho0) hb); replace BK314 := ak (blk_below (bk BK314) hb); replace HB := ak (below_step (bl1 HB GE314) hb); (try clear hb); (try clear hb2); (try clear hk); (try clear hi); (try clear ho0); obtain ⟨Ao32, co32, eo32⟩ := Kd.R_slice HO_6.out; subst eo32; obtain ⟨Ao33, co33, eo33⟩ := Kd.R_slice HO324.out; subst eo33) | ((with_reducible refine gate_callee (f := 28) rfl ?_); refine goesL_ (some 46) rfl rfl Try.func28 (by kernel_rfl) rfl #[.slice Ao32 t315.length co32, .slice Ao33 t322.length co33] rfl (by (try simp only [List.map_toArray, List.map_cons, List.map_nil]); first | done | rfl | (simp only [List.length_drop, List.length_take]; rfl)) ?_; (with_reducible refine (laws_wkPairs.calls kj4 _ _ t315 _ _ t322 t325 _ ?side1 ?side2 ?side3 ?side4 A29.out).mono ?_); (case side1 => repeat (first | exact (Kd.R_reads' HO_6.out).2.2 | (with_reducible refine Kd.C_alloc ?_ _) | (with_reducible refine Kd.C_drewN ?_ _) | (with_reducible refine Kd.C_drew ?_))); (case side2 => exact (Kd.R_reads' HO_6.out).2.1); (case side3 => repeat (first | exact (Kd.R_reads' HO324.out).2.2 | (with_reducible refine Kd.C_alloc ?_ _) | (with_reducible refine Kd.C_drewN ?_ _) | (with_reducible refine Kd.C_drew ?_))); (case side4 => exact (Kd.R_reads' HO324.out).2.1); rintro e w' ⟨rfl, ⟨nd, rfl⟩⟩; refine ⟨_, rfl, ?_⟩))
   go_ret
   exact ⟨by first | rfl | (simp [errW_none, errW_some] <;> rfl) | (simp [*, errW_none, errW_some] <;> rfl), bl1 HB GE314⟩
  replace c27 := Bool.eq_false_iff.mpr c27
  subst c27
  rw [if_neg (show ¬ (false = true) by decide)] at H
  replace H := Option.bind_eq_some_iff.mp H
  obtain ⟨t326, A340, H⟩ := H
  have A34 := ak A340
  clear A340
  by_cases c35 : (t326.length : Int) = 6
  ·rw [if_pos c35] at H
   have c35b0 : ((t326.length : Int) == 6) = true := beq_iff_eq.mpr c35
   have c35b1 : ((t326.length : Int) != 6) = false := bne_eq_false_iff_eq.mpr c35
   clear c35
   obtain rfl := Option.some.inj H
   have hcz36_0 := bc wc BK314 0 (.int .i64 t308) rfl
   have hcz36_1 := bc wc BK314 1 (.slice Ao9 t309.length co9) rfl
   have hfz36_0 := fz BK314 0
   have hfz36_1 := fz BK314 1
   go_wp2_with (first | ((with_reducible refine gate_callee (f := 29) rfl ?_); refine goesL_ (some 50) rfl rfl Try.func29 (by kernel_rfl) rfl #[.agg #[.int .i64 t308, .slice Ao9 t309.length co9], .int .i64 t312, .int .i64 t313, .int .i64 6] rfl (by (try simp only [List.map_toArray, List.map_cons, List.map_nil]); first | done | rfl | (simp only [List.length_drop, List.length_take]; rfl)) ?_; (with_reducible refine (impl_SomeWalks.calls t308 _ _ t309 t312 t313 6 t326 _ ?side1 ?side2 A34.out).mono ?_); (case side1 => repeat (first | exact (Kd.R_reads' HO_315001.out).2.2 | (with_reducible refine Kd.C_alloc ?_ _) | (with_reducible refine Kd.C_drewN ?_ _) | (with_reducible refine Kd.C_drew ?_))); (case side2 => exact (Kd.R_reads' HO_315001.out).2.1); rintro e w37 ⟨v327, rfl, ho0, hb⟩; refine ⟨_, rfl, ?_⟩; replace HO_6 := ak (Kd.R_below (rk HO_6) hb); replace HO_315001 := ak (Kd.R_below (rk HO_315001) hb); have HO328 := ak (Kd.S_lower ho0 (below_size (bl1 HB GE314))); replace BK314 := ak (blk_below (bk BK314) hb); replace HB := ak (below_step (bl1 HB GE314) hb); (try clear hb); (try clear hb2); (try clear hk); (try clear hi); (try clear ho0); obtain ⟨Ao38, co38, eo38⟩ := Kd.S_slice HO328.out; subst eo38))
   go_ret
   exact ⟨by first | rfl | (simp [errW_none, errW_some] <;> rfl) | (simp [*, errW_none, errW_some] <;> rfl), bl1 HB GE314⟩
  rw [if_neg c35] at H
  have c35b0 : ((t326.length : Int) == 6) = false := beq_eq_false_iff_ne.mpr c35
  have c35b1 : ((t326.length : Int) != 6) = true := bne_iff_ne.mpr c35
  have H' := ak H
  clear H
  have hcz39_0 := bc wc BK314 0 (.int .i64 t308) rfl
  have hcz39_1 := bc wc BK314 1 (.slice Ao9 t309.length co9) rfl
  have hfz39_0 := fz BK314 0
  have hfz39_1 := fz BK314 1
  go_wp2_with (first | ((with_reducible refine gate_callee (f := 29) rfl ?_); refine goesL_ (some 50) rfl rfl Try.func29 (by kernel_rfl) rfl #[.agg #[.int .i64 t308, .slice Ao9 t309.length co9], .int .i64 t312, .int .i64 t313, .int .i64 6] rfl (by (try simp only [List.map_toArray, List.map_cons, List.map_nil]); first | done | rfl | (simp only [List.length_drop, List.length_take]; rfl)) ?_; (with_reducible refine (impl_SomeWalks.calls t308 _ _ t309 t312 t313 6 t326 _ ?side1 ?side2 A34.out).mono ?_); (case side1 => repeat (first | exact (Kd.R_reads' HO_315001.out).2.2 | (with_reducible refine Kd.C_alloc ?_ _) | (with_reducible refine Kd.C_drewN ?_ _) | (with_reducible refine Kd.C_drew ?_))); (case side2 => exact (Kd.R_reads' HO_315001.out).2.1); rintro e w40 ⟨v327, rfl, ho0, hb⟩; refine ⟨_, rfl, ?_⟩; replace HO_6 := ak (Kd.R_below (rk HO_6) hb); replace HO_315001 := ak (Kd.R_below (rk HO_315001) hb); have HO328 := ak (Kd.S_lower ho0 (below_size (bl1 HB GE314))); replace BK314 := ak (blk_below (bk BK314) hb); replace HB := ak (below_step (bl1 HB GE314) hb); (try clear hb); (try clear hb2); (try clear hk); (try clear hi); (try clear ho0); obtain ⟨Ao41, co41, eo41⟩ := Kd.S_slice HO328.out; subst eo41))
  go_loopg [8] kj4 (fun kq v8 w' => ∃ (x8_2 : Int), v8 = .int .i64 x8_2 ∧ Aside0 (laws_FnPairReal.l0 kq t315 t326 x8_2 t308 t309 = some r) ∧ Aside0 (kq ≤ kj4) ∧ Aside0 (Kd.R k35 35 w' w.heap.size (fun _ => True) v316 t315) ∧ Aside0 (Kd.S (Kd.slice 3 (Kd.int .i64)) 26 w' w.heap.size (fun _ => True) (.slice Ao41 t326.length co41) t326) ∧ Aside0 (Kd.R k33 33 w' w.heap.size (fun _ => True) (.slice Ao9 t309.length co9) t309) ∧ Aside0 (w'.heap[gb314]? = some (.cells #[.int .i64 t308, (.slice Ao9 t309.length co9)] 25 (0, 0))) ∧ Aside0 (Below w.heap.size w w'))
  case atStart => exact ⟨(0), (by first | rfl | (simp; done) | (simp [*]; done)), H', ⟨Nat.le_refl _⟩, ⟨rk HO_6⟩, ⟨by (with_reducible repeat (first | apply Kd.S_alloc | apply Kd.S_drewN | apply Kd.S_drew)); exact HO328.out⟩, ⟨rk HO_315001⟩, ⟨bk BK314⟩, ⟨bl1 HB GE314⟩⟩
  clear H'
  try clear c1
  try clear c2
  try clear c2b0
  try clear c2b1
  try clear p2
  try clear c3
  try clear c6
  try clear c13
  try clear c14
  try clear c14b0
  try clear c14b1
  try clear c14b2
  try clear c22
  try clear c27
  try clear c28
  try clear c29
  try clear c35
  try clear c35b0
  try clear c35b1
  try clear hcz15_0
  try clear hcz15_1
  try clear hcz19_0
  try clear hcz19_1
  try clear hcz23_0
  try clear hcz23_1
  try clear hcz30_0
  try clear hcz30_1
  try clear hcz36_0
  try clear hcz36_1
  try clear hcz39_0
  try clear hcz39_1
  try clear hcz8_0
  try clear hcz8_1
  try clear hfz15_0
  try clear hfz15_1
  try clear hfz19_0
  try clear hfz19_1
  try clear hfz23_0
  try clear hfz23_1
  try clear hfz30_0
  try clear hfz30_1
  try clear hfz36_0
  try clear hfz36_1
  try clear hfz39_0
  try clear hfz39_1
  try clear hfz8_0
  try clear hfz8_1
  try clear p2
  obtain ⟨x8_2, rfl, HA, HK2, HO_6, HO_7, HO_315001, BK314, HB⟩ := hrel
  cases gk with
  | zero => exact absurd HA.out (by simp [laws_FnPairReal.l0])
  | succ k2 =>
   have H := HA.out
   clear HA
   simp only [laws_FnPairReal.l0] at H
   by_cases c42 : x8_2 < (t315.length : Int)
   rotate_left
   ·rw [if_neg c42] at H
    have c42b0 : decide (x8_2 < (t315.length : Int)) = false := decide_eq_false c42
    clear c42
    obtain rfl := Option.some.inj H
    obtain ⟨Ao59, co59, eo59⟩ := Kd.R_slice HO_6.out
    subst eo59
    go_wp2
    go_ret
    exact ⟨by first | rfl | (simp [errW_none, errW_some] <;> rfl) | (simp [*, errW_none, errW_some] <;> rfl), bl1 HB GE314⟩
   rw [if_pos c42] at H
   have c42b0 : decide (x8_2 < (t315.length : Int)) = true := decide_eq_true c42
   clear c42
   have H' := ak H
   clear H
   obtain ⟨Ao43, co43, eo43⟩ := Kd.R_slice HO_6.out
   subst eo43
   go_wp2
   go_loopg [9, 10] k2 (fun kq v9 v10 w' => ∃ (x9_3 : Bool) (x10_3 : Int), v9 = .bool x9_3 ∧ v10 = .int .i64 x10_3 ∧ Aside0 (laws_FnPairReal.l1 kq t315 t326 x8_2 x9_3 x10_3 t308 t309 = some r) ∧ Aside0 (kq ≤ k2) ∧ Aside0 (Kd.R k35 35 w' w.heap.size (fun _ => True) (.slice Ao43 t315.length co43) t315) ∧ Aside0 (Kd.S (Kd.slice 3 (Kd.int .i64)) 26 w' w.heap.size (fun _ => True) (.slice Ao41 t326.length co41) t326) ∧ Aside0 (Kd.R k33 33 w' w.heap.size (fun _ => True) (.slice Ao9 t309.length co9) t309) ∧ Aside0 (w'.heap[gb314]? = some (.cells #[.int .i64 t308, (.slice Ao9 t309.length co9)] 25 (0, 0))) ∧ Aside0 (Below w.heap.size w w'))
   case atStart => exact ⟨(false), (0), (by first | rfl | (simp; done) | (simp [*]; done)), (by first | rfl | (simp; done) | (simp [*]; done)), H', ⟨Nat.le_refl _⟩, ⟨rk HO_6⟩, ⟨by (with_reducible repeat (first | apply Kd.S_alloc | apply Kd.S_drewN | apply Kd.S_drew)); exact HO_7.out⟩, ⟨rk HO_315001⟩, ⟨bk BK314⟩, ⟨bl1 HB GE314⟩⟩
   clear H'
   try clear c1
   try clear c2
   try clear c2b0
   try clear c2b1
   try clear p2
   try clear c3
   try clear c4
   try clear c6
   try clear c13
   try clear c14
   try clear c14b0
   try clear c14b1
   try clear c14b2
   try clear c22
   try clear c27
   try clear c28
   try clear c29
   try clear c35
   try clear c35b0
   try clear c35b1
   try clear c42
   try clear c42b0
   try clear hcz15_0
   try clear hcz15_1
   try clear hcz19_0
   try clear hcz19_1
   try clear hcz23_0
   try clear hcz23_1
   try clear hcz30_0
   try clear hcz30_1
   try clear hcz36_0
   try clear hcz36_1
   try clear hcz39_0
   try clear hcz39_1
   try clear hcz8_0
   try clear hcz8_1
   try clear hfz15_0
   try clear hfz15_1
   try clear hfz19_0
   try clear hfz19_1
   try clear hfz23_0
   try clear hfz23_1
   try clear hfz30_0
   try clear hfz30_1
   try clear hfz36_0
   try clear hfz36_1
   try clear hfz39_0
   try clear hfz39_1
   try clear hfz8_0
   try clear hfz8_1
   try clear p2
   obtain ⟨x9_3, x10_3, rfl, rfl, HA, HK3, HO_6, HO_7, HO_315001, BK314, HB⟩ := hrel
   cases gk with
   | zero => exact absurd HA.out (by simp [laws_FnPairReal.l1])
   | succ k3 =>
    have H := HA.out
    clear HA
    simp only [laws_FnPairReal.l1] at H
    by_cases c44 : x10_3 < (t326.length : Int)
    rotate_left
    ·rw [if_neg c44] at H
     have c44b0 : decide (x10_3 < (t326.length : Int)) = false := decide_eq_false c44
     clear c44
     by_cases c58 : x9_3 = true
     rotate_left
     ·replace c58 := Bool.eq_false_iff.mpr c58
      subst c58
      rw [if_neg (show ¬ (false = true) by decide)] at H
      exact absurd ((Option.some.inj H).trans hr_) Bool.false_ne_true
     subst c58
     rw [if_pos rfl] at H
     have H' := ak H
     clear H
     go_wp2
     go_roundg k3
     case measure => have := HJ4.out; have := HK2.out; have := HK3.out; omega
     case rel => exact ⟨(wrap64 (x8_2 + 1)), (by first | rfl | (simp; done) | (simp [*]; done)), H', ⟨by have := HJ4.out; have := HK2.out; have := HK3.out; omega⟩, ⟨rk HO_6⟩, ⟨by (with_reducible repeat (first | apply Kd.S_alloc | apply Kd.S_drewN | apply Kd.S_drew)); exact HO_7.out⟩, ⟨rk HO_315001⟩, ⟨bk BK314⟩, ⟨bl1 HB GE314⟩⟩
    rw [if_pos c44] at H
    have c44b0 : decide (x10_3 < (t326.length : Int)) = true := decide_eq_true c44
    clear c44
    by_cases c45 : x9_3 = true
    ·subst c45
     rw [if_pos rfl] at H
     have H' := ak H
     clear H
     try go_wp2
     replace HO_6 := ak (Kd.R_drew HO_6.out)
     replace HO_7 := ak (Kd.S_drew HO_7.out)
     replace HO_315001 := ak (Kd.R_drew HO_315001.out)
     replace BK314 := ak (blk_drew BK314.out)
     replace HB := ak (below_drew1 HB.out)
     refine start_ (n := 30) (S := fun w' => True) (ds := []) (ms 30 0) (by kernel_rfl) rfl (by kernel_rfl) trivial (fun hHeld => ?_); refine with_tabW laws_FnPairReal.tab17 laws_FnPairReal.bits17 (fun HT_ HW_ => ?_)
     generalize wr.drew = w46 at HO_6 HO_7 HO_315001 BK314 HB hHeld ⊢
     refine pu 0 66 ?_ (ms 30 1) rfl rfl HT_ (by kernel_rfl) (fun _ _ _ h => h) (by rfl) ?_ ?_ ?_ ?_
     rotate_left
     ·intro w'
      go_simp
      with_reducible rfl
     rotate_left
     ·simp only [SX]
      rfl
     refine pu 1 67 ?_ (ms 30 3) rfl rfl HT_ (by kernel_rfl) (fun _ _ _ h => h) (by rfl) ?_ ?_ ?_ ?_
     rotate_left
     ·intro w'
      go_simp
      with_reducible rfl
     rotate_left
     ·simp only [SX]
      rfl
     refine pure_ (i := 2) (N := some 68) (v := undef) (a' := ?_) (ms 30 7) rfl rfl (any_of HT_.out (by kernel_rfl)) (fun _ _ _ h => h) (Or.inr ⟨by rfl, rfl⟩) ?_ ?_
     rotate_left
     ·simp only [SX]
      rfl
     refine pure_ (i := 3) (N := some 69) (v := undef) (a' := ?_) (ms 30 15) rfl rfl (any_of HT_.out (by kernel_rfl)) (fun _ _ _ h => h) (Or.inr ⟨by rfl, rfl⟩) ?_ ?_
     rotate_left
     ·simp only [SX]
      rfl
     refine pure_ (i := 4) (N := some 70) (v := undef) (a' := ?_) (ms 30 31) rfl rfl (any_of HT_.out (by kernel_rfl)) (fun _ _ _ h => h) (Or.inr ⟨by rfl, rfl⟩) ?_ ?_
     rotate_left
     ·simp only [SX]
      rfl
     refine pure_ (i := 5) (N := some 71) (v := undef) (a' := ?_) (ms 30 63) rfl rfl (any_of HT_.out (by kernel_rfl)) (fun _ _ _ h => h) (Or.inr ⟨by rfl, rfl⟩) ?_ ?_
     rotate_left
     ·simp only [SX]
      rfl
     refine pure_ (i := 6) (N := some 72) (v := undef) (a' := ?_) (ms 30 127) rfl rfl (any_of HT_.out (by kernel_rfl)) (fun _ _ _ h => h) (Or.inr ⟨by rfl, rfl⟩) ?_ ?_
     rotate_left
     ·simp only [SX]
      rfl
     refine pure_ (i := 7) (N := some 73) (v := undef) (a' := ?_) (ms 30 255) rfl rfl (any_of HT_.out (by kernel_rfl)) (fun _ _ _ h => h) (Or.inr ⟨by rfl, rfl⟩) ?_ ?_
     rotate_left
     ·simp only [SX]
      rfl
     refine pure_ (i := 8) (N := some 74) (v := undef) (a' := ?_) (ms 30 511) rfl rfl (any_of HT_.out (by kernel_rfl)) (fun _ _ _ h => h) (Or.inr ⟨by rfl, rfl⟩) ?_ ?_
     rotate_left
     ·simp only [SX]
      rfl
     refine pure_ (i := 9) (N := some 75) (v := undef) (a' := ?_) (ms 30 1023) rfl rfl (any_of HT_.out (by kernel_rfl)) (fun _ _ _ h => h) (Or.inr ⟨by rfl, rfl⟩) ?_ ?_
     rotate_left
     ·simp only [SX]
      rfl
     refine pure_ (i := 10) (N := some 76) (v := undef) (a' := ?_) (ms 30 2047) rfl rfl (any_of HT_.out (by kernel_rfl)) (fun _ _ _ h => h) (Or.inr ⟨by rfl, rfl⟩) ?_ ?_
     rotate_left
     ·simp only [SX]
      rfl
     refine pure_ (i := 11) (N := some 77) (v := undef) (a' := ?_) (ms 30 4095) rfl rfl (any_of HT_.out (by kernel_rfl)) (fun _ _ _ h => h) (Or.inr ⟨by rfl, rfl⟩) ?_ ?_
     rotate_left
     ·simp only [SX]
      rfl
     refine pure_ (i := 12) (N := some 78) (v := undef) (a' := ?_) (ms 30 8191) rfl rfl (any_of HT_.out (by kernel_rfl)) (fun _ _ _ h => h) (Or.inr ⟨by rfl, rfl⟩) ?_ ?_
     rotate_left
     ·simp only [SX]
      rfl
     refine pure_ (i := 13) (N := some 79) (v := undef) (a' := ?_) (ms 30 16383) rfl rfl (any_of HT_.out (by kernel_rfl)) (fun _ _ _ h => h) (Or.inr ⟨by rfl, rfl⟩) ?_ ?_
     rotate_left
     ·simp only [SX]
      rfl
     refine pure_ (i := 14) (N := some 80) (v := undef) (a' := ?_) (ms 30 32767) rfl rfl (any_of HT_.out (by kernel_rfl)) (fun _ _ _ h => h) (Or.inr ⟨by rfl, rfl⟩) ?_ ?_
     rotate_left
     ·simp only [SX]
      rfl
     refine pure_ (i := 15) (N := some 81) (v := undef) (a' := ?_) (ms 30 65535) rfl rfl (any_of HT_.out (by kernel_rfl)) (fun _ _ _ h => h) (Or.inr ⟨by rfl, rfl⟩) ?_ ?_
     rotate_left
     ·simp only [SX]
      rfl
     refine pure_ (i := 16) (N := some 82) (v := undef) (a' := ?_) (ms 30 131071) rfl rfl (any_of HT_.out (by kernel_rfl)) (fun _ _ _ h => h) (Or.inr ⟨by rfl, rfl⟩) ?_ ?_
     rotate_left
     ·simp only [SX]
      rfl
     refine pure_ (i := 17) (N := some 83) (v := undef) (a' := ?_) (ms 30 262143) rfl rfl (any_of HT_.out (by kernel_rfl)) (fun _ _ _ h => h) (Or.inr ⟨by rfl, rfl⟩) ?_ ?_
     rotate_left
     ·simp only [SX]
      rfl
     refine pure_ (i := 18) (N := some 84) (v := undef) (a' := ?_) (ms 30 524287) rfl rfl (any_of HT_.out (by kernel_rfl)) (fun _ _ _ h => h) (Or.inr ⟨by rfl, rfl⟩) ?_ ?_
     rotate_left
     ·simp only [SX]
      rfl
     refine pure_ (i := 19) (N := some 85) (v := undef) (a' := ?_) (ms 30 1048575) rfl rfl (any_of HT_.out (by kernel_rfl)) (fun _ _ _ h => h) (Or.inr ⟨by rfl, rfl⟩) ?_ ?_
     rotate_left
     ·simp only [SX]
      rfl
     refine pure_ (i := 20) (N := some 86) (v := undef) (a' := ?_) (ms 30 2097151) rfl rfl (any_of HT_.out (by kernel_rfl)) (fun _ _ _ h => h) (Or.inr ⟨by rfl, rfl⟩) ?_ ?_
     rotate_left
     ·simp only [SX]
      rfl
     refine pure_ (i := 21) (N := some 87) (v := undef) (a' := ?_) (ms 30 4194303) rfl rfl (any_of HT_.out (by kernel_rfl)) (fun _ _ _ h => h) (Or.inr ⟨by rfl, rfl⟩) ?_ ?_
     rotate_left
     ·simp only [SX]
      rfl
     refine pure_ (i := 22) (N := some 88) (v := undef) (a' := ?_) (ms 30 8388607) rfl rfl (any_of HT_.out (by kernel_rfl)) (fun _ _ _ h => h) (Or.inr ⟨by rfl, rfl⟩) ?_ ?_
     rotate_left
     ·simp only [SX]
      rfl
     refine pure_ (i := 23) (N := some 89) (v := undef) (a' := ?_) (ms 30 16777215) rfl rfl (any_of HT_.out (by kernel_rfl)) (fun _ _ _ h => h) (Or.inr ⟨by rfl, rfl⟩) ?_ ?_
     rotate_left
     ·simp only [SX]
      rfl
     refine pure_ (i := 24) (N := some 90) (v := undef) (a' := ?_) (ms 30 33554431) rfl rfl (any_of HT_.out (by kernel_rfl)) (fun _ _ _ h => h) (Or.inr ⟨by rfl, rfl⟩) ?_ ?_
     rotate_left
     ·simp only [SX]
      rfl
     refine pure_ (i := 25) (N := some 91) (v := undef) (a' := ?_) (ms 30 67108863) rfl rfl (any_of HT_.out (by kernel_rfl)) (fun _ _ _ h => h) (Or.inr ⟨by rfl, rfl⟩) ?_ ?_
     rotate_left
     ·simp only [SX]
      rfl
     refine pure_ (i := 26) (N := some 92) (v := undef) (a' := ?_) (ms 30 134217727) rfl rfl (any_of HT_.out (by kernel_rfl)) (fun _ _ _ h => h) (Or.inr ⟨by rfl, rfl⟩) ?_ ?_
     rotate_left
     ·simp only [SX]
      rfl
     refine pure_ (i := 27) (N := some 93) (v := undef) (a' := ?_) (ms 30 268435455) rfl rfl (any_of HT_.out (by kernel_rfl)) (fun _ _ _ h => h) (Or.inr ⟨by rfl, rfl⟩) ?_ ?_
     rotate_left
     ·simp only [SX]
      rfl
     refine pu 28 94 ?_ (ms 30 536870911) rfl rfl HT_ (by kernel_rfl) (fun _ _ _ h => h) (by rfl) ?_ ?_ ?_ ?_
     rotate_left
     ·intro w'
      go_simp
      with_reducible rfl
     rotate_left
     ·simp only [SX]
      rfl
     refine pu 29 9 ?_ (ms 30 1073741823) rfl rfl HT_ (by kernel_rfl) (fun _ _ _ h => h) (by rfl) ?_ ?_ ?_ ?_
     rotate_left
     ·intro w'
      go_simp
      with_reducible rfl
     rotate_left
     ·simp only [SX]
      rfl
     refine done_ (done_of HT_.out (by kernel_rfl)) ?_
     try go_wp2
     go_roundg k3
     case measure => have := HJ4.out; have := HK2.out; have := HK3.out; omega
     case rel => exact ⟨(true), (wrap64 (x10_3 + 1)), (by first | rfl | (simp; done) | (simp [*]; done)), (by first | rfl | (simp; done) | (simp [*]; done)), H', ⟨by have := HJ4.out; have := HK2.out; have := HK3.out; omega⟩, ⟨rk HO_6⟩, ⟨by (with_reducible repeat (first | apply Kd.S_alloc | apply Kd.S_drewN | apply Kd.S_drew)); exact HO_7.out⟩, ⟨rk HO_315001⟩, ⟨bk BK314⟩, ⟨bl1 HB GE314⟩⟩
    replace c45 := Bool.eq_false_iff.mpr c45
    subst c45
    rw [if_neg (show ¬ (false = true) by decide)] at H
    by_cases c47 : 0 ≤ x10_3
    rotate_left
    ·rw [if_neg c47] at H
     exact absurd H (by simp)
    rw [if_pos c47] at H
    have c47b0 : decide (0 ≤ x10_3) = true := decide_eq_true c47
    clear c47
    replace H := Option.bind_eq_some_iff.mp H
    obtain ⟨t330, A480, H⟩ := H
    have A48 := ak A480
    clear A480
    by_cases c49 : 0 ≤ x8_2
    rotate_left
    ·rw [if_neg c49] at H
     exact absurd H (by simp)
    rw [if_pos c49] at H
    have c49b0 : decide (0 ≤ x8_2) = true := decide_eq_true c49
    clear c49
    by_cases c50 : x8_2 < (t315.length : Int)
    rotate_left
    ·rw [if_neg c50] at H
     exact absurd H (by simp)
    rw [if_pos c50] at H
    have c50b0 : decide (x8_2 < (t315.length : Int)) = true := decide_eq_true c50
    clear c50
    by_cases c51 : t330 = ((rd_T35 t315 x8_2).f0)
    rotate_left
    ·rw [if_neg c51] at H
     have c51b0 : (t330 == ((rd_T35 t315 x8_2).f0)) = false := beq_eq_false_iff_ne.mpr c51
     have c51b1 : (t330 != ((rd_T35 t315 x8_2).f0)) = true := bne_iff_ne.mpr c51
     have H' := ak H
     clear H
     try go_wp2
     replace HO_6 := ak (Kd.R_drew HO_6.out)
     replace HO_7 := ak (Kd.S_drew HO_7.out)
     replace HO_315001 := ak (Kd.R_drew HO_315001.out)
     replace BK314 := ak (blk_drew BK314.out)
     replace HB := ak (below_drew1 HB.out)
     have p329 : 0 ≤ (x10_3 : Int) := oT (by first | (with_reducible assumption) | assumption)
     have q329 : x10_3 < (t326.length : Int) := oT (by first | (with_reducible assumption) | assumption)
     obtain ⟨ad329, A329_0, c329_0, e329, hx329_0, hl329_0, hi329_0⟩ := at_L5 (Kd.S_reads' HO_7.out).2.2 x10_3 p329 q329
     cases e329
     obtain ⟨ce329, hce329, hMe329, hcc329⟩ := Kd.S_get HO_7.out [] x10_3 p329 (by first | exact q329 | exact oT (by first | (with_reducible assumption) | assumption) | (have e_ := (Kd.S_reads' HO_7.out).1; omega))
     obtain ⟨ve329_0, rfl, ge329_0⟩ := hMe329
     have hv329_0 := hcc329 0 _ rfl
     rw [Nat.add_zero, show ((Kd.slice 3 (Kd.int .i64))).sz = 1 from rfl, Nat.mul_one] at hv329_0
     replace hv329_0 := Option.some.inj (hv329_0.symm.trans hx329_0)
     rw [hv329_0] at ge329_0
     have HL329_0 := ak (show Kd.R (Kd.int .i64) 3 _ _ _ _ (rd_L5 t326 x10_3) from ge329_0)
     clear hv329_0 ge329_0
     clear hcc329 hce329
     have HR329_0 := ak hi329_0
     have HC329_0 := ak hl329_0
     clear hi329_0 hl329_0
     replace p329 := eq_true p329
     replace q329 := eq_true q329
     have p331 : 0 ≤ (x8_2 : Int) := oT (by first | (with_reducible assumption) | assumption)
     have q331 : x8_2 < (t315.length : Int) := oT (by first | (with_reducible assumption) | assumption)
     obtain ⟨ad331, e331, hx331_0, hx331_1⟩ := at_T35 (Kd.R_reads' HO_6.out).2.2 x8_2 p331 q331
     cases e331
     replace p331 := eq_true p331
     replace q331 := eq_true q331
     refine start_ (n := 30) (S := fun w' => w'.cell? ⟨gb314, 0, none⟩ = some (.int .i64 t308) ∧ w'.cell? ⟨gb314, 1, none⟩ = some (.slice Ao9 t309.length co9) ∧ w'.cell? (ad329.add (x10_3).toNat) = some (.slice A329_0 (rd_L5 t326 x10_3).length c329_0) ∧ w'.cell? (ad331.add ((x8_2).toNat * 2)) = some (.int .i64 ((rd_T35 t315 x8_2).f0)) ∧ w'.cell? ⟨(ad331.add ((x8_2).toNat * 2)).block, (ad331.add ((x8_2).toNat * 2)).off + 1, none⟩ = some (.int .i64 ((rd_T35 t315 x8_2).f1))) (ds := []) (ms 30 0) (by kernel_rfl) rfl (by kernel_rfl) ⟨(blk_cell BK314.out 0).trans rfl, (blk_cell BK314.out 1).trans rfl, hx329_0, hx331_0, hx331_1⟩ (fun hHeld => ?_); refine with_tabW laws_FnPairReal.tab17 laws_FnPairReal.bits17 (fun HT_ HW_ => ?_)
     generalize wr.drew = w56 at HO_6 HO_7 HO_315001 BK314 HB HL329_0 HR329_0 hx329_0 hx331_0 hx331_1 hHeld ⊢
     refine pu 0 66 ?_ (ms 30 1) rfl rfl HT_ (by kernel_rfl) (fun _ _ _ h => h) (by rfl) ?_ ?_ ?_ ?_
     rotate_left
     ·intro w'
      go_simp
      with_reducible rfl
     rotate_left
     ·simp only [SX]
      rfl
     refine pu 1 67 ?_ (ms 30 3) rfl rfl HT_ (by kernel_rfl) (fun _ _ _ h => h) (by rfl) ?_ ?_ ?_ ?_
     rotate_left
     ·intro w'
      go_simp
      with_reducible rfl
     rotate_left
     ·simp only [SX]
      rfl
     refine pu 3 69 ?_ (ms 30 11) rfl rfl HT_ (by kernel_rfl) (fun _ _ _ h => h) (by rfl) ?_ ?_ ?_ ?_
     rotate_left
     ·intro w'
      go_simp
      with_reducible rfl
     rotate_left
     ·simp only [SX]
      rfl
     refine pu 4 70 ?_ (ms 30 27) rfl rfl HT_ (by kernel_rfl) (fun _ _ _ h => h) (by rfl) ?_ ?_ ?_ ?_
     rotate_left
     ·intro w'
      go_simp
      with_reducible rfl
     rotate_left
     ·simp only [SX]
      rfl
     refine pu 5 71 ?_ (ms 30 59) rfl rfl HT_ (by kernel_rfl) (fun _ _ _ h => h) (by rfl) ?_ ?_ ?_ ?_
     rotate_left
     ·intro w'
      go_simp
      with_reducible rfl
     rotate_left
     ·simp only [SX]
      rfl
     refine pu 8 74 ?_ (ms 30 315) rfl rfl HT_ (by kernel_rfl) (fun _ _ _ h => h) (by rfl) ?_ ?_ ?_ ?_
     rotate_left
     ·intro w'
      go_simp
      with_reducible rfl
     rotate_left
     ·simp only [SX]
      rfl
     refine pu 9 75 ?_ (ms 30 827) rfl rfl HT_ (by kernel_rfl) (fun _ _ _ h => h) (by rfl) ?_ ?_ ?_ ?_
     rotate_left
     ·intro w'
      go_simp
      with_reducible rfl
     rotate_left
     ·simp only [SX]
      rfl
     refine pu 10 76 ?_ (ms 30 1851) rfl rfl HT_ (by kernel_rfl) (fun _ _ _ h => h) (by rfl) ?_ ?_ ?_ ?_
     rotate_left
     ·intro w'
      go_simp
      with_reducible rfl
     rotate_left
     ·simp only [SX]
      rfl
     refine pu 11 77 ?_ (ms 30 3899) rfl rfl HT_ (by kernel_rfl) (fun _ _ _ h => h) (by rfl) ?_ ?_ ?_ ?_
     rotate_left
     ·intro w'
      go_simp
      with_reducible rfl
     rotate_left
     ·simp only [SX]
      rfl
     refine tk 2 68 ?_ (ms 30 3903) rfl rfl HT_ HW_ (by kernel_rfl) (fun _ _ _ h => h) (by rfl) ?_ hHeld ?_ ?_ ?_
     rotate_left
     ·rintro w' ⟨s0, s1, s2, s3, s4⟩
      go_simp
      with_reducible rfl
     rotate_left
     ·simp only [SX]
      rfl
     refine tk 6 72 ?_ (ms 30 3967) rfl rfl HT_ HW_ (by kernel_rfl) (fun _ _ _ h => h) (by rfl) ?_ hHeld ?_ ?_ ?_
     rotate_left
     ·rintro w' ⟨s0, s1, s2, s3, s4⟩
      go_simp
      with_reducible rfl
     rotate_left
     ·simp only [SX]
      rfl
     refine tk 12 78 ?_ (ms 30 8063) rfl rfl HT_ HW_ (by kernel_rfl) (fun _ _ _ h => h) (by rfl) ?_ hHeld ?_ ?_ ?_
     rotate_left
     ·rintro w' ⟨s0, s1, s2, s3, s4⟩
      go_simp
      with_reducible rfl
     rotate_left
     ·simp only [SX]
      rfl
     refine one_ (i := 7) (N := some 73) (ms 30 8191) rfl rfl (one_of HT_.out (by kernel_rfl)) (by decide) (fun K hK => ?_)
     refine goes_ Try.func15 (by kernel_rfl) rfl #[.agg #[.int .i64 t308, .slice Ao9 t309.length co9], .slice A329_0 (rd_L5 t326 x10_3).length c329_0] (by rfl) rfl rfl (by (try simp only [List.map_toArray, List.map_cons, List.map_nil]); first | done | rfl | (simp only [List.length_drop, List.length_take]; rfl)) ?_
     with_reducible refine (impl_WalkCost.calls k3 t308 _ _ t309 _ _ (rd_L5 t326 x10_3) t330 _ ?side1 ?side2 ?side3 ?side4 A48.out).mono ?_
     (case side1 => repeat (first | exact (Kd.R_reads' HO_315001.out).2.2 | (with_reducible refine Kd.C_alloc ?_ _) | (with_reducible refine Kd.C_drewN ?_ _) | (with_reducible refine Kd.C_drew ?_)))
     (case side2 => exact (Kd.R_reads' HO_315001.out).2.1)
     (case side3 => repeat (first | exact (by repeat (first | (with_reducible exact HR329_0.out) | (with_reducible refine Kd.C_alloc ?_ _) | (with_reducible refine Kd.C_drewN ?_ _) | (with_reducible refine Kd.C_drew ?_) | exact HR329_0.out)) | (with_reducible refine Kd.C_alloc ?_ _) | (with_reducible refine Kd.C_drewN ?_ _) | (with_reducible refine Kd.C_drew ?_)))
     (case side4 => exact HC329_0.out)
     rintro e w57 ⟨rfl, hb⟩
     have HS2_ := (hb.cell (World.block_lt_of_cell? _ _ (hHeld.2.2.1))).trans (hHeld.2.2.1)
     have HS3_ := (hb.cell (World.block_lt_of_cell? _ _ (hHeld.2.2.2.1))).trans (hHeld.2.2.2.1)
     have HS4_ := (hb.cell (World.block_lt_of_cell? _ _ (hHeld.2.2.2.2))).trans (hHeld.2.2.2.2)
     refine ⟨_, rfl, ?_⟩
     replace HO_6 := ak (Kd.R_below (rk HO_6) hb)
     replace HO_7 := ak (Kd.S_below (by (with_reducible repeat (first | apply Kd.S_alloc | apply Kd.S_drewN | apply Kd.S_drew)); exact HO_7.out) hb)
     replace HO_315001 := ak (Kd.R_below (rk HO_315001) hb)
     replace HL329_0 := ak (Kd.R_below (by (with_reducible repeat (first | apply Kd.R_alloc | apply Kd.R_drewN | apply Kd.R_drew)); exact HL329_0.out) hb)
     replace BK314 := ak (blk_below (bk BK314) hb)
     replace HR329_0 := ak (Kd.C_below (by repeat (first | (with_reducible exact HR329_0.out) | (with_reducible refine Kd.C_alloc ?_ _) | (with_reducible refine Kd.C_drewN ?_ _) | (with_reducible refine Kd.C_drew ?_) | exact HR329_0.out)) hb)
     replace HB := ak (below_step (bl1 HB GE314) hb)
     (try clear hb)
     (try clear hb2)
     (try clear hk)
     (try clear hi)
     refine hK.out _ _ ⟨(blk_cell BK314.out 0).trans rfl, (blk_cell BK314.out 1).trans rfl, HS2_, HS3_, HS4_⟩ (fun hHeld => ?_)
     clear hK K
     refine norm_ (a' := ?_) ?_ ?_
     rotate_left
     ·show Act.put _ (some 73) _ = _
      simp only [SX]
      rfl
     refine pu 13 79 ?_ (ms 30 16383) rfl rfl HT_ (by kernel_rfl) (fun _ _ _ h => h) (by rfl) ?_ ?_ ?_ ?_
     rotate_left
     ·intro w'
      go_simp
      with_reducible rfl
     rotate_left
     ·simp only [SX]
      rfl
     refine pu 14 80 ?_ (ms 30 32767) rfl rfl HT_ (by kernel_rfl) (fun _ _ _ h => h) (by rfl) ?_ ?_ ?_ ?_
     rotate_left
     ·intro w'
      go_simp
      with_reducible rfl
     rotate_left
     ·simp only [SX]
      rfl
     refine pure_ (i := 15) (N := some 81) (v := undef) (a' := ?_) (ms 30 65535) rfl rfl (any_of HT_.out (by kernel_rfl)) (fun _ _ _ h => h) (Or.inr ⟨by rfl, rfl⟩) ?_ ?_
     rotate_left
     ·simp only [SX]
      rfl
     refine pure_ (i := 16) (N := some 82) (v := undef) (a' := ?_) (ms 30 131071) rfl rfl (any_of HT_.out (by kernel_rfl)) (fun _ _ _ h => h) (Or.inr ⟨by rfl, rfl⟩) ?_ ?_
     rotate_left
     ·simp only [SX]
      rfl
     refine pure_ (i := 17) (N := some 83) (v := undef) (a' := ?_) (ms 30 262143) rfl rfl (any_of HT_.out (by kernel_rfl)) (fun _ _ _ h => h) (Or.inr ⟨by rfl, rfl⟩) ?_ ?_
     rotate_left
     ·simp only [SX]
      rfl
     refine pure_ (i := 18) (N := some 84) (v := undef) (a' := ?_) (ms 30 524287) rfl rfl (any_of HT_.out (by kernel_rfl)) (fun _ _ _ h => h) (Or.inr ⟨by rfl, rfl⟩) ?_ ?_
     rotate_left
     ·simp only [SX]
      rfl
     refine pure_ (i := 19) (N := some 85) (v := undef) (a' := ?_) (ms 30 1048575) rfl rfl (any_of HT_.out (by kernel_rfl)) (fun _ _ _ h => h) (Or.inr ⟨by rfl, rfl⟩) ?_ ?_
     rotate_left
     ·simp only [SX]
      rfl
     refine pure_ (i := 20) (N := some 86) (v := undef) (a' := ?_) (ms 30 2097151) rfl rfl (any_of HT_.out (by kernel_rfl)) (fun _ _ _ h => h) (Or.inr ⟨by rfl, rfl⟩) ?_ ?_
     rotate_left
     ·simp only [SX]
      rfl
     refine pure_ (i := 21) (N := some 87) (v := undef) (a' := ?_) (ms 30 4194303) rfl rfl (any_of HT_.out (by kernel_rfl)) (fun _ _ _ h => h) (Or.inr ⟨by rfl, rfl⟩) ?_ ?_
     rotate_left
     ·simp only [SX]
      rfl
     refine pure_ (i := 22) (N := some 88) (v := undef) (a' := ?_) (ms 30 8388607) rfl rfl (any_of HT_.out (by kernel_rfl)) (fun _ _ _ h => h) (Or.inr ⟨by rfl, rfl⟩) ?_ ?_
     rotate_left
     ·simp only [SX]
      rfl
     refine pure_ (i := 23) (N := some 89) (v := undef) (a' := ?_) (ms 30 16777215) rfl rfl (any_of HT_.out (by kernel_rfl)) (fun _ _ _ h => h) (Or.inr ⟨by rfl, rfl⟩) ?_ ?_
     rotate_left
     ·simp only [SX]
      rfl
     refine pure_ (i := 24) (N := some 90) (v := undef) (a' := ?_) (ms 30 33554431) rfl rfl (any_of HT_.out (by kernel_rfl)) (fun _ _ _ h => h) (Or.inr ⟨by rfl, rfl⟩) ?_ ?_
     rotate_left
     ·simp only [SX]
      rfl
     refine pure_ (i := 25) (N := some 91) (v := undef) (a' := ?_) (ms 30 67108863) rfl rfl (any_of HT_.out (by kernel_rfl)) (fun _ _ _ h => h) (Or.inr ⟨by rfl, rfl⟩) ?_ ?_
     rotate_left
     ·simp only [SX]
      rfl
     refine pure_ (i := 26) (N := some 92) (v := undef) (a' := ?_) (ms 30 134217727) rfl rfl (any_of HT_.out (by kernel_rfl)) (fun _ _ _ h => h) (Or.inr ⟨by rfl, rfl⟩) ?_ ?_
     rotate_left
     ·simp only [SX]
      rfl
     refine pu 27 93 ?_ (ms 30 268435455) rfl rfl HT_ (by kernel_rfl) (fun _ _ _ h => h) (by rfl) ?_ ?_ ?_ ?_
     rotate_left
     ·intro w'
      go_simp
      with_reducible rfl
     rotate_left
     ·simp only [SX]
      rfl
     refine pu 28 94 ?_ (ms 30 536870911) rfl rfl HT_ (by kernel_rfl) (fun _ _ _ h => h) (by rfl) ?_ ?_ ?_ ?_
     rotate_left
     ·intro w'
      go_simp
      with_reducible rfl
     rotate_left
     ·simp only [SX]
      rfl
     refine pu 29 9 ?_ (ms 30 1073741823) rfl rfl HT_ (by kernel_rfl) (fun _ _ _ h => h) (by rfl) ?_ ?_ ?_ ?_
     rotate_left
     ·intro w'
      go_simp
      with_reducible rfl
     rotate_left
     ·simp only [SX]
      rfl
     refine done_ (done_of HT_.out (by kernel_rfl)) ?_
     try go_wp2
     go_roundg k3
     case measure => have := HJ4.out; have := HK2.out; have := HK3.out; omega
     case rel => exact ⟨(false), (wrap64 (x10_3 + 1)), (by first | rfl | (simp; done) | (simp [*]; done)), (by first | rfl | (simp; done) | (simp [*]; done)), H', ⟨by have := HJ4.out; have := HK2.out; have := HK3.out; omega⟩, ⟨rk HO_6⟩, ⟨by (with_reducible repeat (first | apply Kd.S_alloc | apply Kd.S_drewN | apply Kd.S_drew)); exact HO_7.out⟩, ⟨rk HO_315001⟩, ⟨bk BK314⟩, ⟨bl1 HB GE314⟩⟩
    rw [if_pos c51] at H
    have c51b0 : (t330 == ((rd_T35 t315 x8_2).f0)) = true := beq_iff_eq.mpr c51
    have c51b1 : (t330 != ((rd_T35 t315 x8_2).f0)) = false := bne_eq_false_iff_eq.mpr c51
    clear c51
    replace H := Option.bind_eq_some_iff.mp H
    obtain ⟨t333, A520, H⟩ := H
    have A52 := ak A520
    clear A520
    have H' := ak H
    clear H
    try go_wp2
    replace HO_6 := ak (Kd.R_drew HO_6.out)
    replace HO_7 := ak (Kd.S_drew HO_7.out)
    replace HO_315001 := ak (Kd.R_drew HO_315001.out)
    replace BK314 := ak (blk_drew BK314.out)
    replace HB := ak (below_drew1 HB.out)
    have p329 : 0 ≤ (x10_3 : Int) := oT (by first | (with_reducible assumption) | assumption)
    have q329 : x10_3 < (t326.length : Int) := oT (by first | (with_reducible assumption) | assumption)
    obtain ⟨ad329, A329_0, c329_0, e329, hx329_0, hl329_0, hi329_0⟩ := at_L5 (Kd.S_reads' HO_7.out).2.2 x10_3 p329 q329
    cases e329
    obtain ⟨ce329, hce329, hMe329, hcc329⟩ := Kd.S_get HO_7.out [] x10_3 p329 (by first | exact q329 | exact oT (by first | (with_reducible assumption) | assumption) | (have e_ := (Kd.S_reads' HO_7.out).1; omega))
    obtain ⟨ve329_0, rfl, ge329_0⟩ := hMe329
    have hv329_0 := hcc329 0 _ rfl
    rw [Nat.add_zero, show ((Kd.slice 3 (Kd.int .i64))).sz = 1 from rfl, Nat.mul_one] at hv329_0
    replace hv329_0 := Option.some.inj (hv329_0.symm.trans hx329_0)
    rw [hv329_0] at ge329_0
    have HL329_0 := ak (show Kd.R (Kd.int .i64) 3 _ _ _ _ (rd_L5 t326 x10_3) from ge329_0)
    clear hv329_0 ge329_0
    clear hcc329 hce329
    have HR329_0 := ak hi329_0
    have HC329_0 := ak hl329_0
    clear hi329_0 hl329_0
    replace p329 := eq_true p329
    replace q329 := eq_true q329
    have p331 : 0 ≤ (x8_2 : Int) := oT (by first | (with_reducible assumption) | assumption)
    have q331 : x8_2 < (t315.length : Int) := oT (by first | (with_reducible assumption) | assumption)
    obtain ⟨ad331, e331, hx331_0, hx331_1⟩ := at_T35 (Kd.R_reads' HO_6.out).2.2 x8_2 p331 q331
    cases e331
    replace p331 := eq_true p331
    replace q331 := eq_true q331
    have p332 : 0 ≤ (x10_3 : Int) := oT (by first | (with_reducible assumption) | assumption)
    have q332 : x10_3 < (t326.length : Int) := oT (by first | (with_reducible assumption) | assumption)
    obtain ⟨ad332, A332_0, c332_0, e332, hx332_0, hl332_0, hi332_0⟩ := at_L5 (Kd.S_reads' HO_7.out).2.2 x10_3 p332 q332
    obtain rfl : ad329 = ad332 := (by injection e332)
    obtain ⟨ce332, hce332, hMe332, hcc332⟩ := Kd.S_get HO_7.out [] x10_3 p332 (by first | exact q332 | exact oT (by first | (with_reducible assumption) | assumption) | (have e_ := (Kd.S_reads' HO_7.out).1; omega))
    obtain ⟨ve332_0, rfl, ge332_0⟩ := hMe332
    have hv332_0 := hcc332 0 _ rfl
    rw [Nat.add_zero, show ((Kd.slice 3 (Kd.int .i64))).sz = 1 from rfl, Nat.mul_one] at hv332_0
    replace hv332_0 := Option.some.inj (hv332_0.symm.trans hx332_0)
    rw [hv332_0] at ge332_0
    have HL332_0 := ak (show Kd.R (Kd.int .i64) 3 _ _ _ _ (rd_L5 t326 x10_3) from ge332_0)
    clear hv332_0 ge332_0
    clear hcc332 hce332
    have ev_ := Option.some.inj (hx329_0.symm.trans hx332_0)
    injection ev_ with ea_ el_ ec_
    clear el_
    subst ea_
    subst ec_
    have HR329_0 := ak hi332_0
    have HC329_0 := ak hl332_0
    clear hi332_0 hl332_0
    replace p332 := eq_true p332
    replace q332 := eq_true q332
    have p334 : 0 ≤ (x8_2 : Int) := oT (by first | (with_reducible assumption) | assumption)
    have q334 : x8_2 < (t315.length : Int) := oT (by first | (with_reducible assumption) | assumption)
    obtain ⟨ad334, e334, hx334_0, hx334_1⟩ := at_T35 (Kd.R_reads' HO_6.out).2.2 x8_2 p334 q334
    obtain rfl : ad331 = ad334 := (by injection e334)
    replace p334 := eq_true p334
    replace q334 := eq_true q334
    refine start_ (n := 30) (S := fun w' => w'.cell? ⟨gb314, 0, none⟩ = some (.int .i64 t308) ∧ w'.cell? ⟨gb314, 1, none⟩ = some (.slice Ao9 t309.length co9) ∧ w'.cell? (ad329.add (x10_3).toNat) = some (.slice A329_0 (rd_L5 t326 x10_3).length c329_0) ∧ w'.cell? (ad331.add ((x8_2).toNat * 2)) = some (.int .i64 ((rd_T35 t315 x8_2).f0)) ∧ w'.cell? ⟨(ad331.add ((x8_2).toNat * 2)).block, (ad331.add ((x8_2).toNat * 2)).off + 1, none⟩ = some (.int .i64 ((rd_T35 t315 x8_2).f1)) ∧ w'.cell? (ad329.add (x10_3).toNat) = some (.slice A329_0 (rd_L5 t326 x10_3).length c329_0) ∧ w'.cell? (ad331.add ((x8_2).toNat * 2)) = some (.int .i64 ((rd_T35 t315 x8_2).f0)) ∧ w'.cell? ⟨(ad331.add ((x8_2).toNat * 2)).block, (ad331.add ((x8_2).toNat * 2)).off + 1, none⟩ = some (.int .i64 ((rd_T35 t315 x8_2).f1))) (ds := []) (ms 30 0) (by kernel_rfl) rfl (by kernel_rfl) ⟨(blk_cell BK314.out 0).trans rfl, (blk_cell BK314.out 1).trans rfl, hx329_0, hx331_0, hx331_1, hx332_0, hx334_0, hx334_1⟩ (fun hHeld => ?_); refine with_tabW laws_FnPairReal.tab17 laws_FnPairReal.bits17 (fun HT_ HW_ => ?_)
    generalize wr.drew = w53 at HO_6 HO_7 HO_315001 BK314 HB HL329_0 HR329_0 hx329_0 hx331_0 hx331_1 hx332_0 hx334_0 hx334_1 hHeld ⊢
    refine pu 0 66 ?_ (ms 30 1) rfl rfl HT_ (by kernel_rfl) (fun _ _ _ h => h) (by rfl) ?_ ?_ ?_ ?_
    rotate_left
    ·intro w'
     go_simp
     with_reducible rfl
    rotate_left
    ·simp only [SX]
     rfl
    refine pu 1 67 ?_ (ms 30 3) rfl rfl HT_ (by kernel_rfl) (fun _ _ _ h => h) (by rfl) ?_ ?_ ?_ ?_
    rotate_left
    ·intro w'
     go_simp
     with_reducible rfl
    rotate_left
    ·simp only [SX]
     rfl
    refine pu 3 69 ?_ (ms 30 11) rfl rfl HT_ (by kernel_rfl) (fun _ _ _ h => h) (by rfl) ?_ ?_ ?_ ?_
    rotate_left
    ·intro w'
     go_simp
     with_reducible rfl
    rotate_left
    ·simp only [SX]
     rfl
    refine pu 4 70 ?_ (ms 30 27) rfl rfl HT_ (by kernel_rfl) (fun _ _ _ h => h) (by rfl) ?_ ?_ ?_ ?_
    rotate_left
    ·intro w'
     go_simp
     with_reducible rfl
    rotate_left
    ·simp only [SX]
     rfl
    refine pu 5 71 ?_ (ms 30 59) rfl rfl HT_ (by kernel_rfl) (fun _ _ _ h => h) (by rfl) ?_ ?_ ?_ ?_
    rotate_left
    ·intro w'
     go_simp
     with_reducible rfl
    rotate_left
    ·simp only [SX]
     rfl
    refine pu 8 74 ?_ (ms 30 315) rfl rfl HT_ (by kernel_rfl) (fun _ _ _ h => h) (by rfl) ?_ ?_ ?_ ?_
    rotate_left
    ·intro w'
     go_simp
     with_reducible rfl
    rotate_left
    ·simp only [SX]
     rfl
    refine pu 9 75 ?_ (ms 30 827) rfl rfl HT_ (by kernel_rfl) (fun _ _ _ h => h) (by rfl) ?_ ?_ ?_ ?_
    rotate_left
    ·intro w'
     go_simp
     with_reducible rfl
    rotate_left
    ·simp only [SX]
     rfl
    refine pu 10 76 ?_ (ms 30 1851) rfl rfl HT_ (by kernel_rfl) (fun _ _ _ h => h) (by rfl) ?_ ?_ ?_ ?_
    rotate_left
    ·intro w'
     go_simp
     with_reducible rfl
    rotate_left
    ·simp only [SX]
     rfl
    refine pu 11 77 ?_ (ms 30 3899) rfl rfl HT_ (by kernel_rfl) (fun _ _ _ h => h) (by rfl) ?_ ?_ ?_ ?_
    rotate_left
    ·intro w'
     go_simp
     with_reducible rfl
    rotate_left
    ·simp only [SX]
     rfl
    refine tk 2 68 ?_ (ms 30 3903) rfl rfl HT_ HW_ (by kernel_rfl) (fun _ _ _ h => h) (by rfl) ?_ hHeld ?_ ?_ ?_
    rotate_left
    ·rintro w' ⟨s0, s1, s2, s3, s4, s5, s6, s7⟩
     go_simp
     with_reducible rfl
    rotate_left
    ·simp only [SX]
     rfl
    refine tk 6 72 ?_ (ms 30 3967) rfl rfl HT_ HW_ (by kernel_rfl) (fun _ _ _ h => h) (by rfl) ?_ hHeld ?_ ?_ ?_
    rotate_left
    ·rintro w' ⟨s0, s1, s2, s3, s4, s5, s6, s7⟩
     go_simp
     with_reducible rfl
    rotate_left
    ·simp only [SX]
     rfl
    refine tk 12 78 ?_ (ms 30 8063) rfl rfl HT_ HW_ (by kernel_rfl) (fun _ _ _ h => h) (by rfl) ?_ hHeld ?_ ?_ ?_
    rotate_left
    ·rintro w' ⟨s0, s1, s2, s3, s4, s5, s6, s7⟩
     go_simp
     with_reducible rfl
    rotate_left
    ·simp only [SX]
     rfl
    refine one_ (i := 7) (N := some 73) (ms 30 8191) rfl rfl (one_of HT_.out (by kernel_rfl)) (by decide) (fun K hK => ?_)
    refine goes_ Try.func15 (by kernel_rfl) rfl #[.agg #[.int .i64 t308, .slice Ao9 t309.length co9], .slice A329_0 (rd_L5 t326 x10_3).length c329_0] (by rfl) rfl rfl (by (try simp only [List.map_toArray, List.map_cons, List.map_nil]); first | done | rfl | (simp only [List.length_drop, List.length_take]; rfl)) ?_
    with_reducible refine (impl_WalkCost.calls k3 t308 _ _ t309 _ _ (rd_L5 t326 x10_3) t330 _ ?side1 ?side2 ?side3 ?side4 A48.out).mono ?_
    (case side1 => repeat (first | exact (Kd.R_reads' HO_315001.out).2.2 | (with_reducible refine Kd.C_alloc ?_ _) | (with_reducible refine Kd.C_drewN ?_ _) | (with_reducible refine Kd.C_drew ?_)))
    (case side2 => exact (Kd.R_reads' HO_315001.out).2.1)
    (case side3 => repeat (first | exact (by repeat (first | (with_reducible exact HR329_0.out) | (with_reducible refine Kd.C_alloc ?_ _) | (with_reducible refine Kd.C_drewN ?_ _) | (with_reducible refine Kd.C_drew ?_) | exact HR329_0.out)) | (with_reducible refine Kd.C_alloc ?_ _) | (with_reducible refine Kd.C_drewN ?_ _) | (with_reducible refine Kd.C_drew ?_)))
    (case side4 => exact HC329_0.out)
    rintro e w54 ⟨rfl, hb⟩
    have HS2_ := (hb.cell (World.block_lt_of_cell? _ _ (hHeld.2.2.1))).trans (hHeld.2.2.1)
    have HS3_ := (hb.cell (World.block_lt_of_cell? _ _ (hHeld.2.2.2.1))).trans (hHeld.2.2.2.1)
    have HS4_ := (hb.cell (World.block_lt_of_cell? _ _ (hHeld.2.2.2.2.1))).trans (hHeld.2.2.2.2.1)
    have HS5_ := (hb.cell (World.block_lt_of_cell? _ _ (hHeld.2.2.2.2.2.1))).trans (hHeld.2.2.2.2.2.1)
    have HS6_ := (hb.cell (World.block_lt_of_cell? _ _ (hHeld.2.2.2.2.2.2.1))).trans (hHeld.2.2.2.2.2.2.1)
    have HS7_ := (hb.cell (World.block_lt_of_cell? _ _ (hHeld.2.2.2.2.2.2.2))).trans (hHeld.2.2.2.2.2.2.2)
    refine ⟨_, rfl, ?_⟩
    replace HO_6 := ak (Kd.R_below (rk HO_6) hb)
    replace HO_7 := ak (Kd.S_below (by (with_reducible repeat (first | apply Kd.S_alloc | apply Kd.S_drewN | apply Kd.S_drew)); exact HO_7.out) hb)
    replace HO_315001 := ak (Kd.R_below (rk HO_315001) hb)
    replace HL329_0 := ak (Kd.R_below (by (with_reducible repeat (first | apply Kd.R_alloc | apply Kd.R_drewN | apply Kd.R_drew)); exact HL329_0.out) hb)
    replace BK314 := ak (blk_below (bk BK314) hb)
    replace HR329_0 := ak (Kd.C_below (by repeat (first | (with_reducible exact HR329_0.out) | (with_reducible refine Kd.C_alloc ?_ _) | (with_reducible refine Kd.C_drewN ?_ _) | (with_reducible refine Kd.C_drew ?_) | exact HR329_0.out)) hb)
    replace HB := ak (below_step (bl1 HB GE314) hb)
    (try clear hb)
    (try clear hb2)
    (try clear hk)
    (try clear hi)
    refine hK.out _ _ ⟨(blk_cell BK314.out 0).trans rfl, (blk_cell BK314.out 1).trans rfl, HS2_, HS3_, HS4_, HS5_, HS6_, HS7_⟩ (fun hHeld => ?_)
    clear hK K
    refine norm_ (a' := ?_) ?_ ?_
    rotate_left
    ·show Act.put _ (some 73) _ = _
     simp only [SX]
     rfl
    refine pu 13 79 ?_ (ms 30 16383) rfl rfl HT_ (by kernel_rfl) (fun _ _ _ h => h) (by rfl) ?_ ?_ ?_ ?_
    rotate_left
    ·intro w'
     go_simp
     with_reducible rfl
    rotate_left
    ·simp only [SX]
     rfl
    refine pu 14 80 ?_ (ms 30 32767) rfl rfl HT_ (by kernel_rfl) (fun _ _ _ h => h) (by rfl) ?_ ?_ ?_ ?_
    rotate_left
    ·intro w'
     go_simp
     with_reducible rfl
    rotate_left
    ·simp only [SX]
     rfl
    refine pu 16 82 ?_ (ms 30 98303) rfl rfl HT_ (by kernel_rfl) (fun _ _ _ h => h) (by rfl) ?_ ?_ ?_ ?_
    rotate_left
    ·intro w'
     go_simp
     with_reducible rfl
    rotate_left
    ·simp only [SX]
     rfl
    refine pu 17 83 ?_ (ms 30 229375) rfl rfl HT_ (by kernel_rfl) (fun _ _ _ h => h) (by rfl) ?_ ?_ ?_ ?_
    rotate_left
    ·intro w'
     go_simp
     with_reducible rfl
    rotate_left
    ·simp only [SX]
     rfl
    refine pu 18 84 ?_ (ms 30 491519) rfl rfl HT_ (by kernel_rfl) (fun _ _ _ h => h) (by rfl) ?_ ?_ ?_ ?_
    rotate_left
    ·intro w'
     go_simp
     with_reducible rfl
    rotate_left
    ·simp only [SX]
     rfl
    refine pu 21 87 ?_ (ms 30 2588671) rfl rfl HT_ (by kernel_rfl) (fun _ _ _ h => h) (by rfl) ?_ ?_ ?_ ?_
    rotate_left
    ·intro w'
     go_simp
     with_reducible rfl
    rotate_left
    ·simp only [SX]
     rfl
    refine pu 22 88 ?_ (ms 30 6782975) rfl rfl HT_ (by kernel_rfl) (fun _ _ _ h => h) (by rfl) ?_ ?_ ?_ ?_
    rotate_left
    ·intro w'
     go_simp
     with_reducible rfl
    rotate_left
    ·simp only [SX]
     rfl
    refine pu 23 89 ?_ (ms 30 15171583) rfl rfl HT_ (by kernel_rfl) (fun _ _ _ h => h) (by rfl) ?_ ?_ ?_ ?_
    rotate_left
    ·intro w'
     go_simp
     with_reducible rfl
    rotate_left
    ·simp only [SX]
     rfl
    refine pu 24 90 ?_ (ms 30 31948799) rfl rfl HT_ (by kernel_rfl) (fun _ _ _ h => h) (by rfl) ?_ ?_ ?_ ?_
    rotate_left
    ·intro w'
     go_simp
     with_reducible rfl
    rotate_left
    ·simp only [SX]
     rfl
    refine tk 15 81 ?_ (ms 30 31981567) rfl rfl HT_ HW_ (by kernel_rfl) (fun _ _ _ h => h) (by rfl) ?_ hHeld ?_ ?_ ?_
    rotate_left
    ·rintro w' ⟨s0, s1, s2, s3, s4, s5, s6, s7⟩
     go_simp
     with_reducible rfl
    rotate_left
    ·simp only [SX]
     rfl
    refine tk 19 85 ?_ (ms 30 32505855) rfl rfl HT_ HW_ (by kernel_rfl) (fun _ _ _ h => h) (by rfl) ?_ hHeld ?_ ?_ ?_
    rotate_left
    ·rintro w' ⟨s0, s1, s2, s3, s4, s5, s6, s7⟩
     go_simp
     with_reducible rfl
    rotate_left
    ·simp only [SX]
     rfl
    refine tk 25 91 ?_ (ms 30 66060287) rfl rfl HT_ HW_ (by kernel_rfl) (fun _ _ _ h => h) (by rfl) ?_ hHeld ?_ ?_ ?_
    rotate_left
    ·rintro w' ⟨s0, s1, s2, s3, s4, s5, s6, s7⟩
     go_simp
     with_reducible rfl
    rotate_left
    ·simp only [SX]
     rfl
    refine one_ (i := 20) (N := some 86) (ms 30 67108863) rfl rfl (one_of HT_.out (by kernel_rfl)) (by decide) (fun K hK => ?_)
    refine goes_ Try.func16 (by kernel_rfl) rfl #[.agg #[.int .i64 t308, .slice Ao9 t309.length co9], .slice A329_0 (rd_L5 t326 x10_3).length c329_0] (by rfl) rfl rfl (by (try simp only [List.map_toArray, List.map_cons, List.map_nil]); first | done | rfl | (simp only [List.length_drop, List.length_take]; rfl)) ?_
    with_reducible refine (laws_wkToll.calls k3 t308 _ _ t309 _ _ (rd_L5 t326 x10_3) t333 _ ?side1 ?side2 ?side3 ?side4 A52.out).mono ?_
    (case side1 => repeat (first | exact (Kd.R_reads' HO_315001.out).2.2 | (with_reducible refine Kd.C_alloc ?_ _) | (with_reducible refine Kd.C_drewN ?_ _) | (with_reducible refine Kd.C_drew ?_)))
    (case side2 => exact (Kd.R_reads' HO_315001.out).2.1)
    (case side3 => repeat (first | exact (by repeat (first | (with_reducible exact HR329_0.out) | (with_reducible refine Kd.C_alloc ?_ _) | (with_reducible refine Kd.C_drewN ?_ _) | (with_reducible refine Kd.C_drew ?_) | exact HR329_0.out)) | (with_reducible refine Kd.C_alloc ?_ _) | (with_reducible refine Kd.C_drewN ?_ _) | (with_reducible refine Kd.C_drew ?_)))
    (case side4 => exact HC329_0.out)
    rintro e w55 ⟨rfl, hb⟩
    have HS2_ := (hb.cell (World.block_lt_of_cell? _ _ (hHeld.2.2.1))).trans (hHeld.2.2.1)
    have HS3_ := (hb.cell (World.block_lt_of_cell? _ _ (hHeld.2.2.2.1))).trans (hHeld.2.2.2.1)
    have HS4_ := (hb.cell (World.block_lt_of_cell? _ _ (hHeld.2.2.2.2.1))).trans (hHeld.2.2.2.2.1)
    have HS5_ := (hb.cell (World.block_lt_of_cell? _ _ (hHeld.2.2.2.2.2.1))).trans (hHeld.2.2.2.2.2.1)
    have HS6_ := (hb.cell (World.block_lt_of_cell? _ _ (hHeld.2.2.2.2.2.2.1))).trans (hHeld.2.2.2.2.2.2.1)
    have HS7_ := (hb.cell (World.block_lt_of_cell? _ _ (hHeld.2.2.2.2.2.2.2))).trans (hHeld.2.2.2.2.2.2.2)
    refine ⟨_, rfl, ?_⟩
    replace HO_6 := ak (Kd.R_below (rk HO_6) hb)
    replace HO_7 := ak (Kd.S_below (by (with_reducible repeat (first | apply Kd.S_alloc | apply Kd.S_drewN | apply Kd.S_drew)); exact HO_7.out) hb)
    replace HO_315001 := ak (Kd.R_below (rk HO_315001) hb)
    replace HL329_0 := ak (Kd.R_below (by (with_reducible repeat (first | apply Kd.R_alloc | apply Kd.R_drewN | apply Kd.R_drew)); exact HL329_0.out) hb)
    replace BK314 := ak (blk_below (bk BK314) hb)
    replace HR329_0 := ak (Kd.C_below (by repeat (first | (with_reducible exact HR329_0.out) | (with_reducible refine Kd.C_alloc ?_ _) | (with_reducible refine Kd.C_drewN ?_ _) | (with_reducible refine Kd.C_drew ?_) | exact HR329_0.out)) hb)
    replace HB := ak (below_step (bl1 HB GE314) hb)
    (try clear hb)
    (try clear hb2)
    (try clear hk)
    (try clear hi)
    refine hK.out _ _ ⟨(blk_cell BK314.out 0).trans rfl, (blk_cell BK314.out 1).trans rfl, HS2_, HS3_, HS4_, HS5_, HS6_, HS7_⟩ (fun hHeld => ?_)
    clear hK K
    refine norm_ (a' := ?_) ?_ ?_
    rotate_left
    ·show Act.put _ (some 86) _ = _
     simp only [SX]
     rfl
    refine pu 26 92 ?_ (ms 30 134217727) rfl rfl HT_ (by kernel_rfl) (fun _ _ _ h => h) (by rfl) ?_ ?_ ?_ ?_
    rotate_left
    ·intro w'
     go_simp
     with_reducible rfl
    rotate_left
    ·simp only [SX]
     rfl
    refine pu 27 93 ?_ (ms 30 268435455) rfl rfl HT_ (by kernel_rfl) (fun _ _ _ h => h) (by rfl) ?_ ?_ ?_ ?_
    rotate_left
    ·intro w'
     go_simp
     with_reducible rfl
    rotate_left
    ·simp only [SX]
     rfl
    refine pu 28 94 ?_ (ms 30 536870911) rfl rfl HT_ (by kernel_rfl) (fun _ _ _ h => h) (by rfl) ?_ ?_ ?_ ?_
    rotate_left
    ·intro w'
     go_simp
     with_reducible rfl
    rotate_left
    ·simp only [SX]
     rfl
    refine pu 29 9 ?_ (ms 30 1073741823) rfl rfl HT_ (by kernel_rfl) (fun _ _ _ h => h) (by rfl) ?_ ?_ ?_ ?_
    rotate_left
    ·intro w'
     go_simp
     with_reducible rfl
    rotate_left
    ·simp only [SX]
     rfl
    refine done_ (done_of HT_.out (by kernel_rfl)) ?_
    try go_wp2
    go_roundg k3
    case measure => have := HJ4.out; have := HK2.out; have := HK3.out; omega
    case rel => exact ⟨((t333 == ((rd_T35 t315 x8_2).f1))), (wrap64 (x10_3 + 1)), (by first | rfl | (simp; done) | (simp [*]; done)), (by first | rfl | (simp; done) | (simp [*]; done)), H', ⟨by have := HJ4.out; have := HK2.out; have := HK3.out; omega⟩, ⟨rk HO_6⟩, ⟨by (with_reducible repeat (first | apply Kd.S_alloc | apply Kd.S_drewN | apply Kd.S_drew)); exact HO_7.out⟩, ⟨rk HO_315001⟩, ⟨bk BK314⟩, ⟨bl1 HB GE314⟩⟩
/-- THE ONE PURE STATEMENT of laws_FnPairReal: yours. -/
def laws_FnPairReal.Pure : Prop := ∀ (l0 : List Int), l0.length ≤ maxLen → l0.length * 1 ≤ 140737488351232 → (∀ x ∈ l0, (Lit.int .u8 x).wf = true) → ∃ k, laws_FnPairReal.f k l0 = some true
theorem laws_FnPairReal.walk (P : laws_FnPairReal.Pure) (a0 : Option Addr) (len0 cap0 : Nat) (z0 : List Int) (w : World) (w0 : (a0 = none ∧ len0 = 0 ∧ cap0 = 0 ∧ z0 = []) ∨ ∃ x, a0 = some x ∧ len0 ≤ cap0 ∧ cap0 ≤ maxLen ∧ z0.length = cap0 ∧ (∀ i, i < z0.length → w.cell? (x.add i) = some (.int .u8 (z0.getD i 0))) ∧ ∀ n ∈ z0, (Lit.int .u8 n).wf = true) (y0 : len0 * 1 ≤ 140737488351232) :
  Calls Try.prog 6 #[.slice a0 len0 cap0] w fun e w' => e = .returned (.bool true) ∧ Below w.heap.size w w' := by
 obtain ⟨l0, rfl, hr0, hm0, hw0, hc0⟩ := ReadsInt.ofRowC w0
 obtain ⟨k, h⟩ := P l0 hm0 y0 hw0
 refine (laws_FnPairReal.calls k _ _ l0 true w (Kd.C_of_reads (d := (0 : Int)) (h1 := fun _ => rfl) hr0) hc0 h rfl).mono ?_
 rintro e w' ⟨rfl, hd⟩
 exact ⟨rfl, hd⟩
end Go.Proofs.Ytddkaiegnohkcaa.F