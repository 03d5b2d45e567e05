-- Printed by wip/px/px.py of this claim's repository (the kit's printer, extended there). Lean checks it.
import Derived.Test.YtbappbbljncdeaaFKinds
import Derived.Test.YtbappbbljncdeaaFlawsNet
import Derived.Test.YtbappbbljncdeaaFlawsNet
import Derived.Test.YtbappbbljncdeaaFlawsNet
import Derived.Test.YtbappbbljncdeaaFlawsInt
import Derived.Test.YtbappbbljncdeaaFlawsMarkInt
import Derived.Test.YtbappbbljncdeaaFlawsMarkInt
import Derived.Test.YtbappbbljncdeaaFlawsMarkInt
import Derived.Test.YtbappbbljncdeaaFlawsInt
import Derived.Test.YtbappbbljncdeaaFspecTourNear
import Derived.Test.YtbappbbljncdeaaFimplTourNear
namespace Go.Proofs.Ytbappbbljncdeaa.F
open Go.RowKit Go.Proofs.YtbappbbljncdeaaW.PrintWords Go.Proofs.YtbappbbljncdeaaW.PrintLast Go.Proofs.YtbappbbljncdeaaW.PrintMore
attribute [local go_sem] max2_int min2_int max_two min_two max_three min_three max_four min_four   -- for this text's walks alone
set_option linter.unusedVariables false
set_option linter.unusedSimpArgs false

/-! ### laws_FnExactTourNear: function 7 -/
def laws_FnExactTourNear.j0 : Nat → List Int → List Int → List Int → Bool → Int → List (S132) → Option (Bool)
 | 0, _, _, _, _, _, _ => none
 | k + 1, x1, x6, x9, x61, x430000, x430001 => if x61 = true then (some false) else ((laws_markIntS.f k x9 1).bind fun bt467 => ((laws_heldIntS.f k bt467.2 1).bind fun t469 => (if t469 < 0 then (some false) else (if t469 = bt467.1 then ((laws_toNet.f k x430000 x430001).bind fun bt470 => ((laws_toIntS.f k x1).bind fun t474 => ((impl_TourNear.f k bt470.1 bt470.2 t474).bind fun t477 => ((laws_eqIntS.f k t477 x6).bind fun t480 => (if t480 = true then ((laws_heldIntS.f k bt467.2 1).bind fun t481 => (if t481 < 0 then (some false) else (if t481 = bt467.1 then (some true) else (some false)))) else (some false)))))) else (some false)))))
def laws_FnExactTourNear.f (k : Nat) (a0_0 : Int) (l0_1 : List (S132)) (l1 : List Int) : Option (Bool) := if (l1.length : Int) > 1048576 then (some true) else ((laws_szNet.f a0_0 l0_1 1048576).bind fun t430 => (if t430 < 0 then (some true) else ((laws_toNet.f k a0_0 l0_1).bind fun bt431 => ((laws_toIntS.f k l1).bind fun t435 => ((spec_TourNear.f k bt431.1 bt431.2 t435).bind fun t438 => ((laws_toNet.f k a0_0 l0_1).bind fun bt441 => ((laws_toIntS.f k l1).bind fun t446 => ((impl_TourNear.f k bt441.1 bt441.2 t446).bind fun t449 => ((laws_eqIntS.f k t449 t438).bind fun t452 => (if t452 = true then ((laws_toNet.f k a0_0 l0_1).bind fun bt453 => ((laws_eqNet.f k bt441.1 bt441.2 bt453.1 bt453.2).bind fun t457 => (if t457 = true then ((laws_toIntS.f k l1).bind fun t458 => ((laws_eqIntS.f k t446 t458).bind fun t461 => (if t461 = true then ((laws_markNet.f k bt441.1 bt441.2 1).bind fun bt462 => ((laws_markIntS.f k t446 bt462.1).bind fun bt464 => (if bt464.1 < 0 then (laws_FnExactTourNear.j0 k l1 t438 t449 true a0_0 l0_1) else ((laws_eqIntS.f k t449 t438).bind fun t466 => (laws_FnExactTourNear.j0 k l1 t438 t449 (!t466) a0_0 l0_1))))) else (some false)))) else (some false)))) else (some false)))))))))))
theorem laws_FnExactTourNear.mono_l : ∀ k, (∀ y0 y1 y2 y3 y4 y5, LeO (laws_FnExactTourNear.j0 k y0 y1 y2 y3 y4 y5) (laws_FnExactTourNear.j0 (k + 1) y0 y1 y2 y3 y4 y5))
 | 0 => fun _ _ _ _ _ _ r h => by simp [laws_FnExactTourNear.j0] at h
 | k + 1 => by
  have ih0 := laws_FnExactTourNear.mono_l k
  ·intro y0 y1 y2 y3 y4 y5
   unfold laws_FnExactTourNear.j0
   repeat' first
   | (with_reducible exact ih0 _ _ _ _ _ _)
   | (with_reducible exact impl_TourNear.mono _ _ _ _)
   | (with_reducible exact laws_eqIntS.mono _ _ _)
   | (with_reducible exact laws_eqNet.mono _ _ _ _ _)
   | (with_reducible exact laws_heldIntS.mono _ _ _)
   | (with_reducible exact laws_markIntS.mono _ _ _)
   | (with_reducible exact laws_markNet.mono _ _ _ _)
   | (with_reducible exact laws_toIntS.mono _ _)
   | (with_reducible exact laws_toNet.mono _ _ _)
   | (with_reducible exact spec_TourNear.mono _ _ _ _)
   | (with_reducible exact LeO.refl _)
   | (with_reducible exact LeO.none _)
   | (with_reducible refine LeO.ite ?_ ?_)
   | (with_reducible refine LeO.bind ?_ (fun _ => ?_))
   | exact ih0 _ _ _ _ _ _
   | exact impl_TourNear.mono _ _ _ _
   | exact laws_eqIntS.mono _ _ _
   | exact laws_eqNet.mono _ _ _ _ _
   | exact laws_heldIntS.mono _ _ _
   | exact laws_markIntS.mono _ _ _
   | exact laws_markNet.mono _ _ _ _
   | exact laws_toIntS.mono _ _
   | exact laws_toNet.mono _ _ _
   | exact spec_TourNear.mono _ _ _ _
   | exact LeO.none _
   | refine LeO.ite ?_ ?_
   | refine LeO.bind ?_ (fun _ => ?_)
theorem laws_FnExactTourNear.mono : ∀ a0 a1 a2 k, LeO (laws_FnExactTourNear.f k a0 a1 a2) (laws_FnExactTourNear.f (k + 1) a0 a1 a2) := by
 intro a0 a1 a2 k
 have ih0 := laws_FnExactTourNear.mono_l k
 unfold laws_FnExactTourNear.f
 repeat' first
   | (with_reducible exact ih0 _ _ _ _ _ _)
   | (with_reducible exact impl_TourNear.mono _ _ _ _)
   | (with_reducible exact laws_eqIntS.mono _ _ _)
   | (with_reducible exact laws_eqNet.mono _ _ _ _ _)
   | (with_reducible exact laws_heldIntS.mono _ _ _)
   | (with_reducible exact laws_markIntS.mono _ _ _)
   | (with_reducible exact laws_markNet.mono _ _ _ _)
   | (with_reducible exact laws_toIntS.mono _ _)
   | (with_reducible exact laws_toNet.mono _ _ _)
   | (with_reducible exact spec_TourNear.mono _ _ _ _)
   | (with_reducible exact LeO.refl _)
   | (with_reducible exact LeO.none _)
   | (with_reducible refine LeO.ite ?_ ?_)
   | (with_reducible refine LeO.bind ?_ (fun _ => ?_))
   | exact ih0 _ _ _ _ _ _
   | exact impl_TourNear.mono _ _ _ _
   | exact laws_eqIntS.mono _ _ _
   | exact laws_eqNet.mono _ _ _ _ _
   | exact laws_heldIntS.mono _ _ _
   | exact laws_markIntS.mono _ _ _
   | exact laws_markNet.mono _ _ _ _
   | exact laws_toIntS.mono _ _
   | exact laws_toNet.mono _ _ _
   | exact spec_TourNear.mono _ _ _ _
   | exact LeO.none _
   | refine LeO.ite ?_ ?_
   | refine LeO.bind ?_ (fun _ => ?_)
set_option maxHeartbeats 8000000 in
set_option maxRecDepth 100000 in
theorem laws_FnExactTourNear.calls (k : Nat) (a0_0 : Int) (A0_1 : Option Addr) (c0_1 : Nat) (l0_1 : List (S132)) (A1 : Option Addr) (c1 : Nat) (l1 : List Int) (r : Bool) (w : World) (hr0_1 : Kd.C k132 w A0_1 l0_1.length l0_1) (hc0_1 : l0_1.length ≤ c0_1) (hr1 : Kd.C (Kd.int .i64) w A1 l1.length l1) (hc1 : l1.length ≤ c1) (h : laws_FnExactTourNear.f k a0_0 l0_1 l1 = some r) (hr_ : r = true) :
  Calls Try.prog 7 #[.agg #[.int .i64 a0_0, .slice A0_1 l0_1.length c0_1], .slice A1 l1.length c1] w fun e w' => e = .returned (.bool r) ∧ Below w.heap.size w w' := by
 have hu24 := Try.underlying24
 have hu30 := Try.underlying30
 have HR0_1 := Aside0.mk hr0_1
 have HC0_1 := Aside0.mk hc0_1
 clear hr0_1 hc0_1
 have HR1 := Aside0.mk hr1
 have HC1 := Aside0.mk hc1
 clear hr1 hc1
 have HB := Aside0.mk (Below.refl w.heap.size w)
 have H : (if (l1.length : Int) > 1048576 then (some true) else ((laws_szNet.f a0_0 l0_1 1048576).bind fun t430 => (if t430 < 0 then (some true) else ((laws_toNet.f k a0_0 l0_1).bind fun bt431 => ((laws_toIntS.f k l1).bind fun t435 => ((spec_TourNear.f k bt431.1 bt431.2 t435).bind fun t438 => ((laws_toNet.f k a0_0 l0_1).bind fun bt441 => ((laws_toIntS.f k l1).bind fun t446 => ((impl_TourNear.f k bt441.1 bt441.2 t446).bind fun t449 => ((laws_eqIntS.f k t449 t438).bind fun t452 => (if t452 = true then ((laws_toNet.f k a0_0 l0_1).bind fun bt453 => ((laws_eqNet.f k bt441.1 bt441.2 bt453.1 bt453.2).bind fun t457 => (if t457 = true then ((laws_toIntS.f k l1).bind fun t458 => ((laws_eqIntS.f k t446 t458).bind fun t461 => (if t461 = true then ((laws_markNet.f k bt441.1 bt441.2 1).bind fun bt462 => ((laws_markIntS.f k t446 bt462.1).bind fun bt464 => (if bt464.1 < 0 then (laws_FnExactTourNear.j0 k l1 t438 t449 true a0_0 l0_1) else ((laws_eqIntS.f k t449 t438).bind fun t466 => (laws_FnExactTourNear.j0 k l1 t438 t449 (!t466) a0_0 l0_1))))) else (some false)))) else (some false)))) else (some false)))))))))))) = some r := h
 clear h
 by_cases c3 : (l1.length : Int) > 1048576
 ·rw [if_pos c3] at H
  have c3b0 : decide (1048576 < (l1.length : Int)) = true := decide_eq_true c3
  have c3b1 : decide (1048576 < l1.length) = true := decide_eq_true (by omega)
  clear c3
  obtain rfl := Option.some.inj H
  go_enter Try.func7, Try.ntmps7
  go_wp2_with (first | ((with_reducible refine gate_dst (N := 2) rfl ?_); refine box_event ?hg (N := 2) ?hd (cs := #[.int .i64 a0_0, .slice A0_1 l0_1.length c0_1]) (t := 24) ?hr ?_; (case hd => rfl); (case hg => rfl); (case hr => first | (go_simp; done) | (go_simp; rfl)); intro gb429 hg w4 hbox hb; have BK429 := Aside0.mk (hbox); have GW429 := Aside0.mk ((by rw [hg]; exact (below_size (bl HB)) : w.heap.size ≤ gb429)); have GE429 := Aside0.mk ((by rw [hg]; exact (below_size (bl HB)) : w.heap.size ≤ gb429)); replace HB := Aside0.mk (below_step (bl HB) hb); clear hb hbox hg))
  go_ret
  exact ⟨by first | rfl | (simp [errW_none, errW_some] <;> rfl) | (simp [*, errW_none, errW_some] <;> rfl), bl1 HB GE429⟩
 rw [if_neg c3] at H
 have c3b0 : decide (1048576 < (l1.length : Int)) = false := decide_eq_false c3
 have c3b1 : decide (1048576 < l1.length) = false := decide_eq_false (by omega)
 clear c3
 replace H := Option.bind_eq_some_iff.mp H
 obtain ⟨t430, A50, H⟩ := H
 have A5 := Aside0.mk A50
 clear A50
 by_cases c6 : t430 < 0
 ·rw [if_pos c6] at H
  have c6b0 : decide (t430 < 0) = true := decide_eq_true c6
  clear c6
  obtain rfl := Option.some.inj H
  go_enter Try.func7, Try.ntmps7
  go_wp2_with (first | ((with_reducible refine gate_dst (N := 2) rfl ?_); refine box_event ?hg (N := 2) ?hd (cs := #[.int .i64 a0_0, .slice A0_1 l0_1.length c0_1]) (t := 24) ?hr ?_; (case hd => rfl); (case hg => rfl); (case hr => first | (go_simp; done) | (go_simp; rfl)); intro gb429 hg w7 hbox hb; have BK429 := Aside0.mk (hbox); have GW429 := Aside0.mk ((by rw [hg]; exact (below_size (bl HB)) : w.heap.size ≤ gb429)); have GE429 := Aside0.mk ((by rw [hg]; exact (below_size (bl HB)) : w.heap.size ≤ gb429)); replace HB := Aside0.mk (below_step (bl HB) hb); clear hb hbox hg; have hcz8_0 : w7.cell? ⟨gb429, 0, none⟩ = some (.int .i64 a0_0) := (blk_cell BK429.out 0).trans rfl; have hcz8_1 : w7.cell? ⟨gb429, 1, none⟩ = some (.slice A0_1 l0_1.length c0_1) := (blk_cell BK429.out 1).trans rfl; have hfz8_0 := blk_frozen BK429.out 0; have hfz8_1 := blk_frozen BK429.out 1) | ((with_reducible refine gate_callee (f := 15) rfl ?_); refine goesL_ (some 19) rfl rfl Try.func15 (by kernel_rfl) rfl #[.agg #[.int .i64 a0_0, .slice A0_1 l0_1.length c0_1], .int .i64 1048576] rfl (by (try simp only [List.map_toArray, List.map_cons, List.map_nil]); first | done | rfl | (simp only [List.length_drop, List.length_take]; rfl)) ?_; (with_reducible refine (laws_szNet.calls a0_0 _ _ l0_1 1048576 t430 _ ?side1 ?side2 A5.out).mono ?_); (case side1 => repeat (first | exact (Kd.C_below HR0_1.out HB.out) | (with_reducible refine Kd.C_alloc ?_ _) | (with_reducible refine Kd.C_drewN ?_ _) | (with_reducible refine Kd.C_drew ?_))); (case side2 => exact HC0_1.out); rintro e w9 ⟨rfl, hb⟩; refine ⟨_, rfl, ?_⟩; replace BK429 := Aside0.mk (blk_below (bk BK429) hb); replace HB := Aside0.mk (below_step (bl1 HB GE429) hb); (try clear hb); (try clear hb2); (try clear hk); (try clear hi)))
  go_ret
  exact ⟨by first | rfl | (simp [errW_none, errW_some] <;> rfl) | (simp [*, errW_none, errW_some] <;> rfl), bl1 HB GE429⟩
 rw [if_neg c6] at H
 have c6b0 : decide (t430 < 0) = false := decide_eq_false c6
 clear c6
 replace H := Option.bind_eq_some_iff.mp H
 obtain ⟨⟨t431, t432⟩, A100, H⟩ := H
 have A10 := Aside0.mk A100
 clear A100
 replace H := Option.bind_eq_some_iff.mp H
 obtain ⟨t435, A110, H⟩ := H
 have A11 := Aside0.mk A110
 clear A110
 replace H := Option.bind_eq_some_iff.mp H
 obtain ⟨t438, A120, H⟩ := H
 have A12 := Aside0.mk A120
 clear A120
 replace H := Option.bind_eq_some_iff.mp H
 obtain ⟨⟨t441, t442⟩, A130, H⟩ := H
 have A13 := Aside0.mk A130
 clear A130
 replace H := Option.bind_eq_some_iff.mp H
 obtain ⟨t446, A140, H⟩ := H
 have A14 := Aside0.mk A140
 clear A140
 replace H := Option.bind_eq_some_iff.mp H
 obtain ⟨t449, A150, H⟩ := H
 have A15 := Aside0.mk A150
 clear A150
 replace H := Option.bind_eq_some_iff.mp H
 obtain ⟨t452, A160, H⟩ := H
 have A16 := Aside0.mk A160
 clear A160
 by_cases c17 : t452 = true
 rotate_left
 ·replace c17 := Bool.eq_false_iff.mpr c17
  subst c17
  rw [if_neg (show ¬ (false = true) by decide)] at H
  exact absurd ((Option.some.inj H).trans hr_) Bool.false_ne_true
 subst c17
 rw [if_pos rfl] at H
 replace H := Option.bind_eq_some_iff.mp H
 obtain ⟨⟨t453, t454⟩, A180, H⟩ := H
 have A18 := Aside0.mk A180
 clear A180
 replace H := Option.bind_eq_some_iff.mp H
 obtain ⟨t457, A190, H⟩ := H
 have A19 := Aside0.mk A190
 clear A190
 by_cases c20 : t457 = true
 rotate_left
 ·replace c20 := Bool.eq_false_iff.mpr c20
  subst c20
  rw [if_neg (show ¬ (false = true) by decide)] at H
  exact absurd ((Option.some.inj H).trans hr_) Bool.false_ne_true
 subst c20
 rw [if_pos rfl] at H
 replace H := Option.bind_eq_some_iff.mp H
 obtain ⟨t458, A210, H⟩ := H
 have A21 := Aside0.mk A210
 clear A210
 replace H := Option.bind_eq_some_iff.mp H
 obtain ⟨t461, A220, H⟩ := H
 have A22 := Aside0.mk A220
 clear A220
 by_cases c23 : t461 = true
 rotate_left
 ·replace c23 := Bool.eq_false_iff.mpr c23
  subst c23
  rw [if_neg (show ¬ (false = true) by decide)] at H
  exact absurd ((Option.some.inj H).trans hr_) Bool.false_ne_true
 subst c23
 rw [if_pos rfl] at H
 replace H := Option.bind_eq_some_iff.mp H
 obtain ⟨⟨t462, t463⟩, A240, H⟩ := H
 have A24 := Aside0.mk A240
 clear A240
 replace H := Option.bind_eq_some_iff.mp H
 obtain ⟨⟨t464, t465⟩, A250, H⟩ := H
 have A25 := Aside0.mk A250
 clear A250
 have HC26 := Aside0.mk H
 clear H
 go_enter Try.func7, Try.ntmps7
 try go_wp2_with (first | ((with_reducible refine gate_dst (N := 2) rfl ?_); refine box_event ?hg (N := 2) ?hd (cs := #[.int .i64 a0_0, .slice A0_1 l0_1.length c0_1]) (t := 24) ?hr ?_; (case hd => rfl); (case hg => rfl); (case hr => first | (go_simp; done) | (go_simp; rfl)); intro gb429 hg w27 hbox hb; have BK429 := Aside0.mk (hbox); have GW429 := Aside0.mk ((by rw [hg]; exact (below_size (bl HB)) : w.heap.size ≤ gb429)); have GE429 := Aside0.mk ((by rw [hg]; exact (below_size (bl HB)) : w.heap.size ≤ gb429)); replace HB := Aside0.mk (below_step (bl HB) hb); clear hb hbox hg; have hcz28_0 : w27.cell? ⟨gb429, 0, none⟩ = some (.int .i64 a0_0) := (blk_cell BK429.out 0).trans rfl; have hcz28_1 : w27.cell? ⟨gb429, 1, none⟩ = some (.slice A0_1 l0_1.length c0_1) := (blk_cell BK429.out 1).trans rfl; have hfz28_0 := blk_frozen BK429.out 0; have hfz28_1 := blk_frozen BK429.out 1) | ((with_reducible refine gate_callee (f := 15) rfl ?_); refine goesL_ (some 19) rfl rfl Try.func15 (by kernel_rfl) rfl #[.agg #[.int .i64 a0_0, .slice A0_1 l0_1.length c0_1], .int .i64 1048576] rfl (by (try simp only [List.map_toArray, List.map_cons, List.map_nil]); first | done | rfl | (simp only [List.length_drop, List.length_take]; rfl)) ?_; (with_reducible refine (laws_szNet.calls a0_0 _ _ l0_1 1048576 t430 _ ?side1 ?side2 A5.out).mono ?_); (case side1 => repeat (first | exact (Kd.C_below HR0_1.out HB.out) | (with_reducible refine Kd.C_alloc ?_ _) | (with_reducible refine Kd.C_drewN ?_ _) | (with_reducible refine Kd.C_drew ?_))); (case side2 => exact HC0_1.out); rintro e w29 ⟨rfl, hb⟩; refine ⟨_, rfl, ?_⟩; replace BK429 := Aside0.mk (blk_below (bk BK429) hb); replace HB := Aside0.mk (below_step (bl1 HB GE429) hb); (try clear hb); (try clear hb2); (try clear hk); (try clear hi); have hcz30_0 : w29.cell? ⟨gb429, 0, none⟩ = some (.int .i64 a0_0) := (blk_cell BK429.out 0).trans rfl; have hcz30_1 : w29.cell? ⟨gb429, 1, none⟩ = some (.slice A0_1 l0_1.length c0_1) := (blk_cell BK429.out 1).trans rfl; have hfz30_0 := blk_frozen BK429.out 0; have hfz30_1 := blk_frozen BK429.out 1) | ((with_reducible refine gate_callee (f := 17) rfl ?_); refine goesL_ (some 23) rfl rfl Try.func17 (by kernel_rfl) rfl #[.agg #[.int .i64 a0_0, .slice A0_1 l0_1.length c0_1]] rfl (by (try simp only [List.map_toArray, List.map_cons, List.map_nil]); first | done | rfl | (simp only [List.length_drop, List.length_take]; rfl)) ?_; (with_reducible refine (laws_toNet.calls k a0_0 _ _ l0_1 t431 t432 _ ?side1 ?side2 A10.out).mono ?_); (case side1 => repeat (first | exact (Kd.C_below HR0_1.out HB.out) | (with_reducible refine Kd.C_alloc ?_ _) | (with_reducible refine Kd.C_drewN ?_ _) | (with_reducible refine Kd.C_drew ?_))); (case side2 => exact HC0_1.out); rintro e w31 ⟨v433, rfl, ho0, hb⟩; refine ⟨_, rfl, ?_⟩; have HO434 := Aside0.mk (Kd.R_lower ho0 (below_size (bl1 HB GE429))); replace BK429 := Aside0.mk (blk_below (bk BK429) hb); replace HB := Aside0.mk (below_step (bl1 HB GE429) hb); (try clear hb); (try clear hb2); (try clear hk); (try clear hi); (try clear ho0)) | ((with_reducible refine gate_callee (f := 25) rfl ?_); refine goesL_ (some 25) rfl rfl Try.func25 (by kernel_rfl) rfl #[.slice A1 l1.length c1] rfl (by (try simp only [List.map_toArray, List.map_cons, List.map_nil]); first | done | rfl | (simp only [List.length_drop, List.length_take]; rfl)) ?_; (with_reducible refine (laws_toIntS.calls k _ _ l1 t435 _ ?side1 ?side2 A11.out).mono ?_); (case side1 => repeat (first | exact (Kd.C_below HR1.out HB.out) | (with_reducible refine Kd.C_alloc ?_ _) | (with_reducible refine Kd.C_drewN ?_ _) | (with_reducible refine Kd.C_drew ?_))); (case side2 => exact HC1.out); rintro e w32 ⟨v436, rfl, ho0, hb⟩; refine ⟨_, rfl, ?_⟩; replace HO434 := Aside0.mk (Kd.R_below (rk HO434) hb); have HO437 := Aside0.mk (Kd.R_lower ho0 (below_size (bl1 HB GE429))); replace BK429 := Aside0.mk (blk_below (bk BK429) hb); replace HB := Aside0.mk (below_step (bl1 HB GE429) hb); (try clear hb); (try clear hb2); (try clear hk); (try clear hi); (try clear ho0); obtain ⟨Ao33, co33, eo33⟩ := Kd.R_slice HO434.out; subst eo33; obtain ⟨Ao34, co34, eo34⟩ := Kd.R_slice HO437.out; subst eo34) | ((with_reducible refine gate_callee (f := 34) rfl ?_); refine goesL_ (some 26) rfl rfl Try.func34 (by kernel_rfl) rfl #[.agg #[.int .i64 t431, .slice Ao33 t432.length co33], .slice Ao34 t435.length co34] rfl (by (try simp only [List.map_toArray, List.map_cons, List.map_nil]); first | done | rfl | (simp only [List.length_drop, List.length_take]; rfl)) ?_; (with_reducible refine (spec_TourNear.calls k t431 _ _ t432 _ _ t435 t438 _ ?side1 ?side2 ?side3 ?side4 A12.out).mono ?_); (case side1 => repeat (first | exact (Kd.R_reads' HO434.out).2.2 | (with_reducible refine Kd.C_alloc ?_ _) | (with_reducible refine Kd.C_drewN ?_ _) | (with_reducible refine Kd.C_drew ?_))); (case side2 => exact (Kd.R_reads' HO434.out).2.1); (case side3 => repeat (first | exact (Kd.R_reads' HO437.out).2.2 | (with_reducible refine Kd.C_alloc ?_ _) | (with_reducible refine Kd.C_drewN ?_ _) | (with_reducible refine Kd.C_drew ?_))); (case side4 => exact (Kd.R_reads' HO437.out).2.1); rintro e w35 ⟨v439, rfl, ho0, hb⟩; refine ⟨_, rfl, ?_⟩; replace HO434 := Aside0.mk (Kd.R_below (rk HO434) hb); have HO440 := Aside0.mk (Kd.R_lower (Kd.R_new' ho0 (Kd.R_lt (rk HO437))) (below_size (bl1 HB GE429))); replace HO437 := Aside0.mk (Kd.R_elder' (rk HO437) (Kd.R_base ho0) hb); replace BK429 := Aside0.mk (blk_below (bk BK429) hb); replace HB := Aside0.mk (below_step (bl1 HB GE429) hb); (try clear hb); (try clear hb2); (try clear hk); (try clear hi); (try clear ho0); have hcz36_0 : w35.cell? ⟨gb429, 0, none⟩ = some (.int .i64 a0_0) := (blk_cell BK429.out 0).trans rfl; have hcz36_1 : w35.cell? ⟨gb429, 1, none⟩ = some (.slice A0_1 l0_1.length c0_1) := (blk_cell BK429.out 1).trans rfl; have hfz36_0 := blk_frozen BK429.out 0; have hfz36_1 := blk_frozen BK429.out 1) | ((with_reducible refine gate_callee (f := 17) rfl ?_); refine goesL_ (some 28) rfl rfl Try.func17 (by kernel_rfl) rfl #[.agg #[.int .i64 a0_0, .slice A0_1 l0_1.length c0_1]] rfl (by (try simp only [List.map_toArray, List.map_cons, List.map_nil]); first | done | rfl | (simp only [List.length_drop, List.length_take]; rfl)) ?_; (with_reducible refine (laws_toNet.calls k a0_0 _ _ l0_1 t441 t442 _ ?side1 ?side2 A13.out).mono ?_); (case side1 => repeat (first | exact (Kd.C_below HR0_1.out HB.out) | (with_reducible refine Kd.C_alloc ?_ _) | (with_reducible refine Kd.C_drewN ?_ _) | (with_reducible refine Kd.C_drew ?_))); (case side2 => exact HC0_1.out); rintro e w37 ⟨v443, rfl, ho0, hb⟩; refine ⟨_, rfl, ?_⟩; replace HO437 := Aside0.mk (Kd.R_below (rk HO437) hb); replace HO440 := Aside0.mk (Kd.R_below (rk HO440) hb); have HO444 := Aside0.mk (Kd.R_lower (Kd.R_new' ho0 (Kd.R_lt (rk HO434))) (below_size (bl1 HB GE429))); replace HO434 := Aside0.mk (Kd.R_elder' (rk HO434) (Kd.R_base ho0) hb); replace BK429 := Aside0.mk (blk_below (bk BK429) hb); replace HB := Aside0.mk (below_step (bl1 HB GE429) hb); (try clear hb); (try clear hb2); (try clear hk); (try clear hi); (try clear ho0)) | ((with_reducible refine gate_dst (N := 7) rfl ?_); refine box_event ?hg (N := 7) ?hd (cs := #[.int .i64 0, .slice none 0 0]) (t := 30) ?hr ?_; (case hd => rfl); (case hg => rfl); (case hr => first | (go_simp; done) | (go_simp; rfl)); intro gb445 hg w38 hbox hb; replace HO434 := Aside0.mk (Kd.R_below (rk HO434) hb); replace HO437 := Aside0.mk (Kd.R_below (rk HO437) hb); replace HO440 := Aside0.mk (Kd.R_below (rk HO440) hb); replace HO444 := Aside0.mk (Kd.R_below (rk HO444) hb); have BK445 := Aside0.mk (hbox); have GW445 := Aside0.mk ((by rw [hg]; exact (below_size (bl1 HB GE429)) : w.heap.size ≤ gb445)); have GE445 := Aside0.mk ((by rw [hg]; exact (below_size (bl1 HB GE429)) : w.heap.size ≤ gb445)); replace HB := Aside0.mk (below_step (bl1 HB GE429) hb); have NB429_445 := Aside0.mk ((by rw [hg]; exact Nat.ne_of_lt (blk_lt (bk BK429)) : gb429 ≠ gb445)); have NB445_429 := Aside0.mk ((by rw [hg]; exact Nat.ne_of_gt (blk_lt (bk BK429)) : gb445 ≠ gb429)); replace BK429 := Aside0.mk (blk_below (bk BK429) hb); clear hb hbox hg; have hnb39 := NB445_429.out; have hnc39 := NB429_445.out; have hcz40_0 : w38.cell? ⟨gb445, 0, none⟩ = some (.int .i64 0) := (blk_cell BK445.out 0).trans rfl; have hcz40_1 : w38.cell? ⟨gb445, 1, none⟩ = some (.slice none 0 0) := (blk_cell BK445.out 1).trans rfl; have hfz40_0 := blk_frozen BK445.out 0; have hfz40_1 := blk_frozen BK445.out 1; obtain ⟨Ao41, co41, eo41⟩ := Kd.R_slice HO444.out; subst eo41) | ((with_reducible refine gate_callee (f := 25) rfl ?_); refine goesL_ (some 30) rfl rfl Try.func25 (by kernel_rfl) rfl #[.slice A1 l1.length c1] rfl (by (try simp only [List.map_toArray, List.map_cons, List.map_nil]); first | done | rfl | (simp only [List.length_drop, List.length_take]; rfl)) ?_; (with_reducible refine (laws_toIntS.calls k _ _ l1 t446 _ ?side1 ?side2 A14.out).mono ?_); (case side1 => exact Kd.C_below HR1.out (bl2 HB GE429 GE445)); (case side2 => exact HC1.out); rintro e w42 ⟨v447, rfl, ho0, hb⟩; refine ⟨_, rfl, ?_⟩; replace HO434 := Aside0.mk (Kd.R_below (by (with_reducible repeat (first | apply Kd.R_alloc | apply Kd.R_drewN | apply Kd.R_drew)); exact (Kd.R_mono (Kd.R_far (p := ⟨gb445, 1, none⟩) (Kd.R_far (p := ⟨gb445, 0, none⟩) (Kd.R_types HO434.out BK445.out (by decide)) (fun _ hk => hk.2) (.int .i64 t441)) (fun _ hk => hk.2) (.slice Ao41 t442.length co41)) (fun _ h_ => h_.1))) hb); replace HO444 := Aside0.mk (Kd.R_below (by (with_reducible repeat (first | apply Kd.R_alloc | apply Kd.R_drewN | apply Kd.R_drew)); exact (Kd.R_mono (Kd.R_far (p := ⟨gb445, 1, none⟩) (Kd.R_far (p := ⟨gb445, 0, none⟩) (Kd.R_types HO444.out BK445.out (by decide)) (fun _ hk => hk.2) (.int .i64 t441)) (fun _ hk => hk.2) (.slice Ao41 t442.length co41)) (fun _ h_ => h_.1))) hb); have HO448 := Aside0.mk (Kd.R_lower (Kd.R_new' (Kd.R_new' ho0 (Kd.R_lt (by (with_reducible repeat (first | apply Kd.R_alloc | apply Kd.R_drewN | apply Kd.R_drew)); exact (Kd.R_mono (Kd.R_far (p := ⟨gb445, 1, none⟩) (Kd.R_far (p := ⟨gb445, 0, none⟩) (Kd.R_types HO437.out BK445.out (by decide)) (fun _ hk => hk.2) (.int .i64 t441)) (fun _ hk => hk.2) (.slice Ao41 t442.length co41)) (fun _ h_ => h_.1))))) (Kd.R_lt (by (with_reducible repeat (first | apply Kd.R_alloc | apply Kd.R_drewN | apply Kd.R_drew)); exact (Kd.R_mono (Kd.R_far (p := ⟨gb445, 1, none⟩) (Kd.R_far (p := ⟨gb445, 0, none⟩) (Kd.R_types HO440.out BK445.out (by decide)) (fun _ hk => hk.2) (.int .i64 t441)) (fun _ hk => hk.2) (.slice Ao41 t442.length co41)) (fun _ h_ => h_.1))))) (below_size (bl2 HB GE429 GE445))); replace HO437 := Aside0.mk (Kd.R_elder' (by (with_reducible repeat (first | apply Kd.R_alloc | apply Kd.R_drewN | apply Kd.R_drew)); exact (Kd.R_mono (Kd.R_far (p := ⟨gb445, 1, none⟩) (Kd.R_far (p := ⟨gb445, 0, none⟩) (Kd.R_types HO437.out BK445.out (by decide)) (fun _ hk => hk.2) (.int .i64 t441)) (fun _ hk => hk.2) (.slice Ao41 t442.length co41)) (fun _ h_ => h_.1))) (Kd.R_base ho0) hb); replace HO440 := Aside0.mk (Kd.R_elder' (by (with_reducible repeat (first | apply Kd.R_alloc | apply Kd.R_drewN | apply Kd.R_drew)); exact (Kd.R_mono (Kd.R_far (p := ⟨gb445, 1, none⟩) (Kd.R_far (p := ⟨gb445, 0, none⟩) (Kd.R_types HO440.out BK445.out (by decide)) (fun _ hk => hk.2) (.int .i64 t441)) (fun _ hk => hk.2) (.slice Ao41 t442.length co41)) (fun _ h_ => h_.1))) (Kd.R_base ho0) hb); replace BK429 := Aside0.mk (blk_below (g := gb429) (o := .cells #[.int .i64 a0_0, .slice A0_1 l0_1.length c0_1] 24 (0, 0)) (by (with_reducible repeat (first | refine blk_drewN ?_ _ | refine blk_drew ?_ | refine blk_alloc ?_ _)); refine blk_far ?_ NB429_445.out _; refine blk_far ?_ NB429_445.out _; (with_reducible repeat (first | refine blk_drewN ?_ _ | refine blk_drew ?_ | refine blk_alloc ?_ _)); exact BK429.out) hb); replace BK445 := Aside0.mk (blk_below (g := gb445) (o := .cells #[.int .i64 t441, .slice Ao41 t442.length co41] 30 (0, 0)) (by (with_reducible repeat (first | refine blk_drewN ?_ _ | refine blk_drew ?_ | refine blk_alloc ?_ _)); refine blk_put (cs := #[.int .i64 t441, .slice none 0 0]) ?_ 1 _ rfl; refine blk_put (cs := #[.int .i64 0, .slice none 0 0]) ?_ 0 _ rfl; (with_reducible repeat (first | refine blk_drewN ?_ _ | refine blk_drew ?_ | refine blk_alloc ?_ _)); exact BK445.out) hb); replace HB := Aside0.mk (below_step (bl2 HB GE429 GE445) hb); (try clear hb); (try clear hb2); (try clear hk); (try clear hi); (try clear ho0); have hcz43_0 : w42.cell? ⟨gb445, 0, none⟩ = some (.int .i64 t441) := (blk_cell BK445.out 0).trans rfl; have hcz43_1 : w42.cell? ⟨gb445, 1, none⟩ = some (.slice Ao41 t442.length co41) := (blk_cell BK445.out 1).trans rfl; have hfz43_0 := blk_frozen BK445.out 0; have hfz43_1 := blk_frozen BK445.out 1; obtain ⟨Ao44, co44, eo44⟩ := Kd.R_slice HO448.out; subst eo44) | ((with_reducible refine gate_callee (f := 35) rfl ?_); refine goesL_ (some 33) rfl rfl Try.func35 (by kernel_rfl) rfl #[.agg #[.int .i64 t441, .slice Ao41 t442.length co41], .slice Ao44 t446.length co44] rfl (by (try simp only [List.map_toArray, List.map_cons, List.map_nil]); first | done | rfl | (simp only [List.length_drop, List.length_take]; rfl)) ?_; (with_reducible refine (impl_TourNear.calls k t441 _ _ t442 _ _ t446 t449 _ ?side1 ?side2 ?side3 ?side4 A15.out).mono ?_); (case side1 => repeat (first | exact (Kd.R_reads' HO444.out).2.2 | (with_reducible refine Kd.C_alloc ?_ _) | (with_reducible refine Kd.C_drewN ?_ _) | (with_reducible refine Kd.C_drew ?_))); (case side2 => exact (Kd.R_reads' HO444.out).2.1); (case side3 => repeat (first | exact (Kd.R_reads' HO448.out).2.2 | (with_reducible refine Kd.C_alloc ?_ _) | (with_reducible refine Kd.C_drewN ?_ _) | (with_reducible refine Kd.C_drew ?_))); (case side4 => exact (Kd.R_reads' HO448.out).2.1); rintro e w45 ⟨v450, rfl, ho0, hb⟩; refine ⟨_, rfl, ?_⟩; replace HO434 := Aside0.mk (Kd.R_below (rk HO434) hb); replace HO444 := Aside0.mk (Kd.R_below (rk HO444) hb); have HO451 := Aside0.mk (Kd.R_lower (Kd.R_new' (Kd.R_new' (Kd.R_new' ho0 (Kd.R_lt (rk HO437))) (Kd.R_lt (rk HO440))) (Kd.R_lt (rk HO448))) (below_size (bl2 HB GE429 GE445))); replace HO437 := Aside0.mk (Kd.R_elder' (rk HO437) (Kd.R_base ho0) hb); replace HO440 := Aside0.mk (Kd.R_elder' (rk HO440) (Kd.R_base ho0) hb); replace HO448 := Aside0.mk (Kd.R_elder' (rk HO448) (Kd.R_base ho0) hb); replace BK429 := Aside0.mk (blk_below (bk BK429) hb); replace BK445 := Aside0.mk (blk_below (bk BK445) hb); replace HB := Aside0.mk (below_step (bl2 HB GE429 GE445) hb); (try clear hb); (try clear hb2); (try clear hk); (try clear hi); (try clear ho0); obtain ⟨Ao46, co46, eo46⟩ := Kd.R_slice HO451.out; subst eo46; obtain ⟨Ao47, co47, eo47⟩ := Kd.R_slice HO440.out; subst eo47) | ((with_reducible refine gate_callee (f := 19) rfl ?_); refine goesL_ (some 36) rfl rfl Try.func19 (by kernel_rfl) rfl #[.slice Ao46 t449.length co46, .slice Ao47 t438.length co47] rfl (by (try simp only [List.map_toArray, List.map_cons, List.map_nil]); first | done | rfl | (simp only [List.length_drop, List.length_take]; rfl)) ?_; (with_reducible refine (laws_eqIntS.calls k _ _ t449 _ _ t438 true _ ?side1 ?side2 ?side3 ?side4 A16.out).mono ?_); (case side1 => repeat (first | exact (Kd.R_reads' HO451.out).2.2 | (with_reducible refine Kd.C_alloc ?_ _) | (with_reducible refine Kd.C_drewN ?_ _) | (with_reducible refine Kd.C_drew ?_))); (case side2 => exact (Kd.R_reads' HO451.out).2.1); (case side3 => repeat (first | exact (Kd.R_reads' HO440.out).2.2 | (with_reducible refine Kd.C_alloc ?_ _) | (with_reducible refine Kd.C_drewN ?_ _) | (with_reducible refine Kd.C_drew ?_))); (case side4 => exact (Kd.R_reads' HO440.out).2.1); rintro e w' ⟨rfl, ⟨nd, rfl⟩⟩; refine ⟨_, rfl, ?_⟩))
 (try (rw [drewN_self w45]; generalize hq_ : World.drewN w45 _ = w45; have n0_ := Aside0.mk (Kd.R_at hq_ HO434.out); have n1_ := Aside0.mk (Kd.R_at hq_ HO437.out); have n2_ := Aside0.mk (Kd.R_at hq_ HO440.out); have n3_ := Aside0.mk (Kd.R_at hq_ HO444.out); have n4_ := Aside0.mk (Kd.R_at hq_ HO448.out); have n5_ := Aside0.mk (Kd.R_at hq_ HO451.out); have n6_ := Aside0.mk (blk_at hq_ BK429.out); have n7_ := Aside0.mk (blk_at hq_ BK445.out); have n8_ := Aside0.mk (below_at hq_ HB.out); clear hq_ HO434 HO437 HO440 HO444 HO448 HO451 BK429 BK445 HB; have HO434 := n0_; have HO437 := n1_; have HO440 := n2_; have HO444 := n3_; have HO448 := n4_; have HO451 := n5_; have BK429 := n6_; have BK445 := n7_; have HB := n8_; clear n0_ n1_ n2_ n3_ n4_ n5_ n6_ n7_ n8_))
 replace HO434 := Aside0.mk (Kd.R_drew HO434.out)
 replace HO437 := Aside0.mk (Kd.R_drew HO437.out)
 replace HO440 := Aside0.mk (Kd.R_drew HO440.out)
 replace HO444 := Aside0.mk (Kd.R_drew HO444.out)
 replace HO448 := Aside0.mk (Kd.R_drew HO448.out)
 replace HO451 := Aside0.mk (Kd.R_drew HO451.out)
 replace BK429 := Aside0.mk (blk_drew BK429.out)
 replace BK445 := Aside0.mk (blk_drew BK445.out)
 replace HB := Aside0.mk (below_drew1 HB.out)
 refine start_ (n := 5) (S := fun w' => w'.cell? ⟨gb445, 0, none⟩ = some (.int .i64 t441) ∧ w'.cell? ⟨gb445, 1, none⟩ = some (.slice Ao41 t442.length co41) ∧ w'.cell? ⟨gb429, 0, none⟩ = some (.int .i64 a0_0) ∧ w'.cell? ⟨gb429, 1, none⟩ = some (.slice A0_1 l0_1.length c0_1)) (ds := []) (ms 5 0) (by kernel_rfl) rfl (by kernel_rfl) ⟨(blk_cell BK445.out 0).trans rfl, (blk_cell BK445.out 1).trans rfl, (blk_cell BK429.out 0).trans rfl, (blk_cell BK429.out 1).trans rfl⟩ (fun hHeld => ?_)
 generalize w45.drew = w48 at HO434 HO437 HO440 HO444 HO448 HO451 BK429 BK445 HB hHeld ⊢
 refine take_ (i := 0) (N := some 38) (v := ?_) (a' := ?_) (ms 5 1) rfl rfl (by kernel_rfl) (fun _ _ _ h => h) (Or.inl ⟨by rfl, ?_⟩) hHeld ?_ ?_
 rotate_left
 ·rintro w' ⟨s0, s1, s2, s3⟩
  go_simp
  with_reducible rfl
 rotate_left
 ·simp only [Act.put, sA, sB, sC, i64_w, i32_w]
  rfl
 refine take_ (i := 1) (N := some 39) (v := ?_) (a' := ?_) (ms 5 3) rfl rfl (by kernel_rfl) (fun _ _ _ h => h) (Or.inl ⟨by rfl, ?_⟩) hHeld ?_ ?_
 rotate_left
 ·rintro w' ⟨s0, s1, s2, s3⟩
  go_simp
  with_reducible rfl
 rotate_left
 ·simp only [Act.put, sA, sB, sC, i64_w, i32_w]
  rfl
 refine one_ (i := 2) (N := some 40) (ms 5 7) rfl rfl (by kernel_rfl) (by decide) (fun K hK => ?_)
 refine goes_ Try.func17 (by kernel_rfl) rfl #[.agg #[.int .i64 a0_0, .slice A0_1 l0_1.length c0_1]] (by rfl) rfl rfl (by (try simp only [List.map_toArray, List.map_cons, List.map_nil]); first | done | rfl | (simp only [List.length_drop, List.length_take]; rfl)) ?_
 with_reducible refine (laws_toNet.calls k a0_0 _ _ l0_1 t453 t454 _ ?side1 ?side2 A18.out).mono ?_
 (case side1 => repeat (first | exact (Kd.C_below HR0_1.out HB.out) | (with_reducible refine Kd.C_alloc ?_ _) | (with_reducible refine Kd.C_drewN ?_ _) | (with_reducible refine Kd.C_drew ?_)))
 (case side2 => exact HC0_1.out)
 rintro e w49 ⟨v455, rfl, ho0, hb⟩
 refine ⟨_, rfl, ?_⟩
 replace HO437 := Aside0.mk (Kd.R_below (rk HO437) hb)
 replace HO440 := Aside0.mk (Kd.R_below (rk HO440) hb)
 replace HO448 := Aside0.mk (Kd.R_below (rk HO448) hb)
 replace HO451 := Aside0.mk (Kd.R_below (rk HO451) hb)
 have HO456 := Aside0.mk (Kd.R_lower (Kd.R_new' (Kd.R_new' ho0 (Kd.R_lt (rk HO434))) (Kd.R_lt (rk HO444))) (below_size (bl2 HB GE429 GE445)))
 replace HO434 := Aside0.mk (Kd.R_elder' (rk HO434) (Kd.R_base ho0) hb)
 replace HO444 := Aside0.mk (Kd.R_elder' (rk HO444) (Kd.R_base ho0) hb)
 replace BK429 := Aside0.mk (blk_below (bk BK429) hb)
 replace BK445 := Aside0.mk (blk_below (bk BK445) hb)
 replace HB := Aside0.mk (below_step (bl2 HB GE429 GE445) hb)
 (try clear hb)
 (try clear hb2)
 (try clear hk)
 (try clear hi)
 (try clear ho0)
 obtain ⟨Ao50, co50, eo50⟩ := Kd.R_slice HO456.out
 (first | subst eo50 | (injection eo50 with f1_ f2_ f3_; have f4_ := f1_.symm; have f5_ := f3_.symm; clear f1_ f2_ f3_; subst f4_; subst f5_))
 refine hK.out _ _ ⟨(blk_cell BK445.out 0).trans rfl, (blk_cell BK445.out 1).trans rfl, (blk_cell BK429.out 0).trans rfl, (blk_cell BK429.out 1).trans rfl⟩ (fun hHeld => ?_)
 clear hK K
 refine norm_ (a' := ?_) ?_ ?_
 rotate_left
 ·show Act.put _ (some 40) _ = _
  simp only [Act.put, sA, sB, sC, i64_w, i32_w]
  rfl
 refine one_ (i := 3) (N := some 41) (ms 5 15) rfl rfl (by kernel_rfl) (by decide) (fun K hK => ?_)
 refine goes_ Try.func20 (by kernel_rfl) rfl #[.agg #[.int .i64 t441, .slice Ao41 t442.length co41], .agg #[.int .i64 t453, .slice Ao50 t454.length co50]] (by rfl) rfl rfl (by (try simp only [List.map_toArray, List.map_cons, List.map_nil]); first | done | rfl | (simp only [List.length_drop, List.length_take]; rfl)) ?_
 with_reducible refine (laws_eqNet.calls k t441 _ _ t442 t453 _ _ t454 true _ ?side1 ?side2 ?side3 ?side4 A19.out).mono ?_
 (case side1 => repeat (first | exact (Kd.R_reads' HO444.out).2.2 | (with_reducible refine Kd.C_alloc ?_ _) | (with_reducible refine Kd.C_drewN ?_ _) | (with_reducible refine Kd.C_drew ?_)))
 (case side2 => exact (Kd.R_reads' HO444.out).2.1)
 (case side3 => repeat (first | exact (Kd.R_reads' HO456.out).2.2 | (with_reducible refine Kd.C_alloc ?_ _) | (with_reducible refine Kd.C_drewN ?_ _) | (with_reducible refine Kd.C_drew ?_)))
 (case side4 => exact (Kd.R_reads' HO456.out).2.1)
 rintro e w51 ⟨rfl, hb⟩
 refine ⟨_, rfl, ?_⟩
 replace HO434 := Aside0.mk (Kd.R_below (rk HO434) hb)
 replace HO437 := Aside0.mk (Kd.R_below (rk HO437) hb)
 replace HO440 := Aside0.mk (Kd.R_below (rk HO440) hb)
 replace HO444 := Aside0.mk (Kd.R_below (rk HO444) hb)
 replace HO448 := Aside0.mk (Kd.R_below (rk HO448) hb)
 replace HO451 := Aside0.mk (Kd.R_below (rk HO451) hb)
 replace HO456 := Aside0.mk (Kd.R_below (rk HO456) hb)
 replace BK429 := Aside0.mk (blk_below (bk BK429) hb)
 replace BK445 := Aside0.mk (blk_below (bk BK445) hb)
 replace HB := Aside0.mk (below_step (bl2 HB GE429 GE445) hb)
 (try clear hb)
 (try clear hb2)
 (try clear hk)
 (try clear hi)
 refine hK.out _ _ ⟨(blk_cell BK445.out 0).trans rfl, (blk_cell BK445.out 1).trans rfl, (blk_cell BK429.out 0).trans rfl, (blk_cell BK429.out 1).trans rfl⟩ (fun hHeld => ?_)
 clear hK K
 refine norm_ (a' := ?_) ?_ ?_
 rotate_left
 ·show Act.put _ (some 41) _ = _
  simp only [Act.put, sA, sB, sC, i64_w, i32_w]
  rfl
 refine pure_ (i := 4) (N := some 42) (v := ?_) (a' := ?_) (ms 5 31) rfl rfl (by kernel_rfl) (fun _ _ _ h => h) (Or.inl ⟨by rfl, ?_⟩) ?_ ?_
 rotate_left
 ·intro w'
  go_simp
  with_reducible rfl
 rotate_left
 ·simp only [Act.put, sA, sB, sC, i64_w, i32_w]
  rfl
 refine done_ (by kernel_rfl) ?_
 go_upto_region 20 with (first | ((with_reducible refine gate_callee (f := 25) rfl ?_); refine goesL_ (some 45) rfl rfl Try.func25 (by kernel_rfl) rfl #[.slice A1 l1.length c1] rfl (by (try simp only [List.map_toArray, List.map_cons, List.map_nil]); first | done | rfl | (simp only [List.length_drop, List.length_take]; rfl)) ?_; (with_reducible refine (laws_toIntS.calls k _ _ l1 t458 _ ?side1 ?side2 A21.out).mono ?_); (case side1 => repeat (first | exact (Kd.C_below HR1.out HB.out) | (with_reducible refine Kd.C_alloc ?_ _) | (with_reducible refine Kd.C_drewN ?_ _) | (with_reducible refine Kd.C_drew ?_))); (case side2 => exact HC1.out); rintro e w52 ⟨v459, rfl, ho0, hb⟩; refine ⟨_, rfl, ?_⟩; replace HO434 := Aside0.mk (Kd.R_below (rk HO434) hb); replace HO444 := Aside0.mk (Kd.R_below (rk HO444) hb); replace HO456 := Aside0.mk (Kd.R_below (rk HO456) hb); have HO460 := Aside0.mk (Kd.R_lower (Kd.R_new' (Kd.R_new' (Kd.R_new' (Kd.R_new' ho0 (Kd.R_lt (rk HO437))) (Kd.R_lt (rk HO440))) (Kd.R_lt (rk HO448))) (Kd.R_lt (rk HO451))) (below_size (bl2 HB GE429 GE445))); replace HO437 := Aside0.mk (Kd.R_elder' (rk HO437) (Kd.R_base ho0) hb); replace HO440 := Aside0.mk (Kd.R_elder' (rk HO440) (Kd.R_base ho0) hb); replace HO448 := Aside0.mk (Kd.R_elder' (rk HO448) (Kd.R_base ho0) hb); replace HO451 := Aside0.mk (Kd.R_elder' (rk HO451) (Kd.R_base ho0) hb); replace BK429 := Aside0.mk (blk_below (bk BK429) hb); replace BK445 := Aside0.mk (blk_below (bk BK445) hb); replace HB := Aside0.mk (below_step (bl2 HB GE429 GE445) hb); (try clear hb); (try clear hb2); (try clear hk); (try clear hi); (try clear ho0); obtain ⟨Ao53, co53, eo53⟩ := Kd.R_slice HO460.out; subst eo53) | ((with_reducible refine gate_callee (f := 19) rfl ?_); refine goesL_ (some 46) rfl rfl Try.func19 (by kernel_rfl) rfl #[.slice Ao44 t446.length co44, .slice Ao53 t458.length co53] rfl (by (try simp only [List.map_toArray, List.map_cons, List.map_nil]); first | done | rfl | (simp only [List.length_drop, List.length_take]; rfl)) ?_; (with_reducible refine (laws_eqIntS.calls k _ _ t446 _ _ t458 true _ ?side1 ?side2 ?side3 ?side4 A22.out).mono ?_); (case side1 => repeat (first | exact (Kd.R_reads' HO448.out).2.2 | (with_reducible refine Kd.C_alloc ?_ _) | (with_reducible refine Kd.C_drewN ?_ _) | (with_reducible refine Kd.C_drew ?_))); (case side2 => exact (Kd.R_reads' HO448.out).2.1); (case side3 => repeat (first | exact (Kd.R_reads' HO460.out).2.2 | (with_reducible refine Kd.C_alloc ?_ _) | (with_reducible refine Kd.C_drewN ?_ _) | (with_reducible refine Kd.C_drew ?_))); (case side4 => exact (Kd.R_reads' HO460.out).2.1); rintro e w' ⟨rfl, ⟨nd, rfl⟩⟩; refine ⟨_, rfl, ?_⟩; have hcz54_0 : w52.cell? ⟨gb445, 0, none⟩ = some (.int .i64 t441) := (blk_cell BK445.out 0).trans rfl; have hcz54_1 : w52.cell? ⟨gb445, 1, none⟩ = some (.slice Ao41 t442.length co41) := (blk_cell BK445.out 1).trans rfl; have hfz54_0 := blk_frozen BK445.out 0; have hfz54_1 := blk_frozen BK445.out 1) | ((with_reducible refine gate_callee (f := 21) rfl ?_); refine goesL_ (some 50) rfl rfl Try.func21 (by kernel_rfl) rfl #[.agg #[.int .i64 t441, .slice Ao41 t442.length co41], .int .i64 1] rfl (by (try simp only [List.map_toArray, List.map_cons, List.map_nil]); first | done | rfl | (simp only [List.length_drop, List.length_take]; rfl)) ?_; (with_reducible refine (laws_markNet.calls k t441 (fun k_ => some k_ = (.slice Ao41 t442.length co41 : Value).ownBlock) (.slice Ao41 t442.length co41) t442 1 t462 t463 w _ ?side1 ?side2 A24.out).mono ?_); (case side1 => repeat (first | (with_reducible first | exact HB.out | apply below_alloc | apply pw_below_drewN | apply below_drew1 | refine below_set ?_ GE429.out | refine below_set ?_ GE445.out) | exact HB.out)); (case side2 => exact Kd.R_tight rfl HO444.out); rintro e w55 ⟨rfl, hy0, hb, hkp⟩; refine ⟨_, rfl, ?_⟩; replace BK429 := Aside0.mk (blk_kept (bk BK429) hkp (fun hs_ => (fun e_ => (Kd.R_ne HO444.out BK429.out (by decide)) e_) hs_)); replace HO434 := Aside0.mk (Kd.R_mono (ok' := fun k_ => some k_ ≠ (.slice Ao41 t442.length co41 : Value).ownBlock ∧ some k_ ≠ (.slice Ao50 t454.length co50 : Value).ownBlock) (Kd.R_keptB (HO434.out) hkp (fun k_ hk_ hs_ => (hk_.1.2) hs_)) (fun k_ hk_ => ⟨hk_.1.1.2, hk_.1.2⟩)); replace HO437 := Aside0.mk (Kd.R_mono (ok' := fun k_ => some k_ ≠ (.slice Ao47 t438.length co47 : Value).ownBlock ∧ some k_ ≠ (.slice Ao44 t446.length co44 : Value).ownBlock ∧ some k_ ≠ (.slice Ao46 t449.length co46 : Value).ownBlock ∧ some k_ ≠ (.slice Ao53 t458.length co53 : Value).ownBlock) (Kd.R_keptB ((Kd.R_apart' HO437.out (Kd.R_typed HO444.out) (by decide))) hkp (fun k_ hk_ hs_ => (hk_.2) hs_)) (fun k_ hk_ => ⟨hk_.1.1.1.1.1.2, hk_.1.1.1.1.2, hk_.1.1.1.2, hk_.1.1.2⟩)); replace HO440 := Aside0.mk (Kd.R_mono (ok' := fun k_ => some k_ ≠ (.slice Ao34 t435.length co34 : Value).ownBlock ∧ some k_ ≠ (.slice Ao44 t446.length co44 : Value).ownBlock ∧ some k_ ≠ (.slice Ao46 t449.length co46 : Value).ownBlock ∧ some k_ ≠ (.slice Ao53 t458.length co53 : Value).ownBlock) (Kd.R_keptB ((Kd.R_apart' HO440.out (Kd.R_typed HO444.out) (by decide))) hkp (fun k_ hk_ hs_ => (hk_.2) hs_)) (fun k_ hk_ => ⟨hk_.1.1.1.1.1.2, hk_.1.1.1.1.2, hk_.1.1.1.2, hk_.1.1.2⟩)); replace BK445 := Aside0.mk (blk_kept (bk BK445) hkp (fun hs_ => (fun e_ => (Kd.R_ne HO444.out BK445.out (by decide)) e_) hs_)); replace HO448 := Aside0.mk (Kd.R_mono (ok' := fun k_ => some k_ ≠ (.slice Ao34 t435.length co34 : Value).ownBlock ∧ some k_ ≠ (.slice Ao47 t438.length co47 : Value).ownBlock ∧ some k_ ≠ (.slice Ao46 t449.length co46 : Value).ownBlock ∧ some k_ ≠ (.slice Ao53 t458.length co53 : Value).ownBlock) (Kd.R_keptB ((Kd.R_apart' HO448.out (Kd.R_typed HO444.out) (by decide))) hkp (fun k_ hk_ hs_ => (hk_.2) hs_)) (fun k_ hk_ => ⟨hk_.1.1.1.1.1.2, hk_.1.1.1.1.2, hk_.1.1.1.2, hk_.1.1.2⟩)); replace HO451 := Aside0.mk (Kd.R_mono (ok' := fun k_ => some k_ ≠ (.slice Ao34 t435.length co34 : Value).ownBlock ∧ some k_ ≠ (.slice Ao47 t438.length co47 : Value).ownBlock ∧ some k_ ≠ (.slice Ao44 t446.length co44 : Value).ownBlock ∧ some k_ ≠ (.slice Ao53 t458.length co53 : Value).ownBlock) (Kd.R_keptB ((Kd.R_apart' HO451.out (Kd.R_typed HO444.out) (by decide))) hkp (fun k_ hk_ hs_ => (hk_.2) hs_)) (fun k_ hk_ => ⟨hk_.1.1.1.1.1.2, hk_.1.1.1.1.2, hk_.1.1.1.2, hk_.1.1.2⟩)); replace HO456 := Aside0.mk (Kd.R_mono (ok' := fun k_ => some k_ ≠ (.slice Ao33 t432.length co33 : Value).ownBlock ∧ some k_ ≠ (.slice Ao41 t442.length co41 : Value).ownBlock) (Kd.R_keptB (HO456.out) hkp (fun k_ hk_ hs_ => (hk_.2) hs_)) (fun k_ hk_ => ⟨hk_.1.1.2, hk_.1.2⟩)); replace HO460 := Aside0.mk (Kd.R_mono (ok' := fun k_ => some k_ ≠ (.slice Ao34 t435.length co34 : Value).ownBlock ∧ some k_ ≠ (.slice Ao47 t438.length co47 : Value).ownBlock ∧ some k_ ≠ (.slice Ao44 t446.length co44 : Value).ownBlock ∧ some k_ ≠ (.slice Ao46 t449.length co46 : Value).ownBlock) (Kd.R_keptB ((Kd.R_apart' HO460.out (Kd.R_typed HO444.out) (by decide))) hkp (fun k_ hk_ hs_ => (hk_.2) hs_)) (fun k_ hk_ => ⟨hk_.1.1.1.1.1.2, hk_.1.1.1.1.2, hk_.1.1.1.2, hk_.1.1.2⟩)); replace HO444 := Aside0.mk (Kd.R_reok rfl hy0 (fun k_ e_ => HO444.out.1 k_ e_)); replace HB := Aside0.mk (hb); (try clear hb); (try clear hkp); (try clear hy0)) | ((with_reducible refine gate_callee (f := 22) rfl ?_); refine goesL_ (some 53) rfl rfl Try.func22 (by kernel_rfl) rfl #[.slice Ao44 t446.length co44, .int .i64 t462] rfl (by (try simp only [List.map_toArray, List.map_cons, List.map_nil]); first | done | rfl | (simp only [List.length_drop, List.length_take]; rfl)) ?_; (with_reducible refine (laws_markIntS.calls k (fun k_ => some k_ = (.slice Ao44 t446.length co44 : Value).ownBlock) (.slice Ao44 t446.length co44) t446 t462 t464 t465 w _ ?side1 ?side2 A25.out).mono ?_); (case side1 => repeat (first | (with_reducible first | exact HB.out | apply below_alloc | apply pw_below_drewN | apply below_drew1 | refine below_set ?_ GE429.out | refine below_set ?_ GE445.out) | exact HB.out)); (case side2 => exact Kd.R_tight rfl HO448.out); rintro e w56 ⟨rfl, hy0, hb, hkp⟩; refine ⟨_, rfl, ?_⟩; replace BK429 := Aside0.mk (blk_kept (bk BK429) hkp (fun hs_ => (fun e_ => (Kd.R_ne HO448.out BK429.out (by decide)) e_) hs_)); replace HO434 := Aside0.mk (Kd.R_mono (ok' := fun k_ => some k_ ≠ (.slice Ao41 t442.length co41 : Value).ownBlock ∧ some k_ ≠ (.slice Ao50 t454.length co50 : Value).ownBlock) (Kd.R_keptB ((Kd.R_apart' HO434.out (Kd.R_typed HO448.out) (by decide))) hkp (fun k_ hk_ hs_ => (hk_.2) hs_)) (fun k_ hk_ => ⟨hk_.1.1.1, hk_.1.1.2⟩)); replace HO437 := Aside0.mk (Kd.R_mono (ok' := fun k_ => some k_ ≠ (.slice Ao47 t438.length co47 : Value).ownBlock ∧ some k_ ≠ (.slice Ao44 t446.length co44 : Value).ownBlock ∧ some k_ ≠ (.slice Ao46 t449.length co46 : Value).ownBlock ∧ some k_ ≠ (.slice Ao53 t458.length co53 : Value).ownBlock) (Kd.R_keptB (HO437.out) hkp (fun k_ hk_ hs_ => (hk_.2.1) hs_)) (fun k_ hk_ => ⟨hk_.1.1, hk_.1.2.1, hk_.1.2.2.1, hk_.1.2.2.2⟩)); replace HO440 := Aside0.mk (Kd.R_mono (ok' := fun k_ => some k_ ≠ (.slice Ao34 t435.length co34 : Value).ownBlock ∧ some k_ ≠ (.slice Ao44 t446.length co44 : Value).ownBlock ∧ some k_ ≠ (.slice Ao46 t449.length co46 : Value).ownBlock ∧ some k_ ≠ (.slice Ao53 t458.length co53 : Value).ownBlock) (Kd.R_keptB (HO440.out) hkp (fun k_ hk_ hs_ => (hk_.2.1) hs_)) (fun k_ hk_ => ⟨hk_.1.1, hk_.1.2.1, hk_.1.2.2.1, hk_.1.2.2.2⟩)); replace HO444 := Aside0.mk (Kd.R_mono (ok' := fun k_ => some k_ ≠ (.slice Ao33 t432.length co33 : Value).ownBlock ∧ some k_ ≠ (.slice Ao50 t454.length co50 : Value).ownBlock) (Kd.R_keptB ((Kd.R_apart' HO444.out (Kd.R_typed HO448.out) (by decide))) hkp (fun k_ hk_ hs_ => (hk_.2) hs_)) (fun k_ hk_ => ⟨hk_.1.1.1.2, hk_.1.1.2⟩)); replace BK445 := Aside0.mk (blk_kept (bk BK445) hkp (fun hs_ => (fun e_ => (Kd.R_ne HO448.out BK445.out (by decide)) e_) hs_)); replace HO451 := Aside0.mk (Kd.R_mono (ok' := fun k_ => some k_ ≠ (.slice Ao34 t435.length co34 : Value).ownBlock ∧ some k_ ≠ (.slice Ao47 t438.length co47 : Value).ownBlock ∧ some k_ ≠ (.slice Ao44 t446.length co44 : Value).ownBlock ∧ some k_ ≠ (.slice Ao53 t458.length co53 : Value).ownBlock) (Kd.R_keptB (HO451.out) hkp (fun k_ hk_ hs_ => (hk_.2.2.1) hs_)) (fun k_ hk_ => ⟨hk_.1.1, hk_.1.2.1, hk_.1.2.2.1, hk_.1.2.2.2⟩)); replace HO456 := Aside0.mk (Kd.R_mono (ok' := fun k_ => some k_ ≠ (.slice Ao33 t432.length co33 : Value).ownBlock ∧ some k_ ≠ (.slice Ao41 t442.length co41 : Value).ownBlock) (Kd.R_keptB ((Kd.R_apart' HO456.out (Kd.R_typed HO448.out) (by decide))) hkp (fun k_ hk_ hs_ => (hk_.2) hs_)) (fun k_ hk_ => ⟨hk_.1.1.1, hk_.1.1.2⟩)); replace HO448 := Aside0.mk (Kd.R_reok rfl hy0 (fun k_ e_ => HO448.out.1 k_ e_)); replace HO460 := Aside0.mk (Kd.R_mono (ok' := fun k_ => some k_ ≠ (.slice Ao34 t435.length co34 : Value).ownBlock ∧ some k_ ≠ (.slice Ao47 t438.length co47 : Value).ownBlock ∧ some k_ ≠ (.slice Ao44 t446.length co44 : Value).ownBlock ∧ some k_ ≠ (.slice Ao46 t449.length co46 : Value).ownBlock) (Kd.R_keptB (HO460.out) hkp (fun k_ hk_ hs_ => (hk_.2.2.1) hs_)) (fun k_ hk_ => ⟨hk_.1.1, hk_.1.2.1, hk_.1.2.2.1, hk_.1.2.2.2⟩)); replace HB := Aside0.mk (hb); (try clear hb); (try clear hkp); (try clear hy0)))
 (try simp only [Act.put, List.setIfInBounds_toArray, List.set_cons_zero, List.set_cons_succ])
 go_cut [61] (fun v61 wc => ∃ (kq : Nat) (x61_25 : Bool), v61 = .bool x61_25 ∧ Aside0 (laws_FnExactTourNear.j0 kq l1 t438 t449 x61_25 a0_0 l0_1 = some r) ∧ Aside0 (kq ≤ k) ∧ Aside0 (Kd.R (Kd.int .i64) 3 wc w.heap.size (fun k_ => some k_ ≠ ((.slice Ao46 t449.length co46) : Value).ownBlock) (.slice Ao47 t438.length co47) t438) ∧ Aside0 (Kd.R (Kd.int .i64) 3 wc w.heap.size (fun k_ => some k_ ≠ ((.slice Ao47 t438.length co47) : Value).ownBlock) (.slice Ao46 t449.length co46) t449) ∧ Aside0 (Kd.R k100 100 wc w.heap.size (fun _ => True) (.slice Ao41 t442.length co41) t463) ∧ Aside0 (wc.heap[gb429]? = some (.cells #[.int .i64 a0_0, (.slice A0_1 l0_1.length c0_1)] 24 (0, 0))) ∧ Aside0 (wc.heap[gb445]? = some (.cells #[.int .i64 t441, (.slice Ao41 t442.length co41)] 30 (0, 0))) ∧ Aside0 (Below w.heap.size w wc))
 case first =>
  have H := HC26.out
  clear HC26
  by_cases c57 : t464 < 0
  ·rw [if_pos c57] at H
   have c57b0 : decide (t464 < 0) = true := decide_eq_true c57
   clear c57
   (first | rw [c57b0] | (simp only [i64_w, i32_w]; rw [c57b0]) | skip)
   have H' := Aside0.mk H
   clear H
   go_wp2
   go_meet
   case rel => exact ⟨_, (true), (by first | rfl | (simp; done) | (simp [*]; done)), H', ⟨by first | omega | exact Nat.le_refl _⟩, ⟨by (with_reducible repeat (first | apply Kd.R_alloc | apply Kd.R_drewN | apply Kd.R_drew)); exact Kd.R_mono HO440.out (fun _ hk => hk.2.2.1)⟩, ⟨by (with_reducible repeat (first | apply Kd.R_alloc | apply Kd.R_drewN | apply Kd.R_drew)); exact Kd.R_mono HO451.out (fun _ hk => hk.2.1)⟩, ⟨by (with_reducible repeat (first | apply Kd.R_alloc | apply Kd.R_drewN | apply Kd.R_drew)); exact Kd.R_mono HO444.out (fun _ hk => trivial)⟩, ⟨bk BK429⟩, ⟨bk BK445⟩, ⟨bl2 HB GE429 GE445⟩⟩
  rw [if_neg c57] at H
  have c57b0 : decide (t464 < 0) = false := decide_eq_false c57
  clear c57
  (first | rw [c57b0] | (simp only [i64_w, i32_w]; rw [c57b0]) | skip)
  replace H := Option.bind_eq_some_iff.mp H
  obtain ⟨t466, A580, H⟩ := H
  have A58 := Aside0.mk A580
  clear A580
  have H' := Aside0.mk H
  clear H
  go_wp2_with (first | (go_at_call 19; (with_reducible refine (laws_eqIntS.calls k _ _ t449 _ _ t438 t466 _ ?side1 ?side2 ?side3 ?side4 A58.out).mono ?_); (case side1 => repeat (first | exact (Kd.R_reads' HO451.out).2.2 | (with_reducible refine Kd.C_alloc ?_ _) | (with_reducible refine Kd.C_drewN ?_ _) | (with_reducible refine Kd.C_drew ?_))); (case side2 => exact (Kd.R_reads' HO451.out).2.1); (case side3 => repeat (first | exact (Kd.R_reads' HO440.out).2.2 | (with_reducible refine Kd.C_alloc ?_ _) | (with_reducible refine Kd.C_drewN ?_ _) | (with_reducible refine Kd.C_drew ?_))); (case side4 => exact (Kd.R_reads' HO440.out).2.1); rintro e w' ⟨rfl, ⟨nd, rfl⟩⟩))
  go_meet
  case rel => exact ⟨_, (!t466), (by first | rfl | (simp; done) | (simp [*]; done)), H', ⟨by first | omega | exact Nat.le_refl _⟩, ⟨by (with_reducible repeat (first | apply Kd.R_alloc | apply Kd.R_drewN | apply Kd.R_drew)); exact Kd.R_mono HO440.out (fun _ hk => hk.2.2.1)⟩, ⟨by (with_reducible repeat (first | apply Kd.R_alloc | apply Kd.R_drewN | apply Kd.R_drew)); exact Kd.R_mono HO451.out (fun _ hk => hk.2.1)⟩, ⟨by (with_reducible repeat (first | apply Kd.R_alloc | apply Kd.R_drewN | apply Kd.R_drew)); exact Kd.R_mono HO444.out (fun _ hk => trivial)⟩, ⟨bk BK429⟩, ⟨bk BK445⟩, ⟨bl2 HB GE429 GE445⟩⟩
 clear HC26
 try clear c1
 try clear c2
 try clear p2
 try clear c3
 try clear c3b0
 try clear c3b1
 try clear c5
 try clear c6
 try clear c6b0
 try clear c7
 try clear c15
 try clear c17
 try clear c19
 try clear c20
 try clear c21
 try clear c22
 try clear c23
 try clear c25
 try clear c34
 try clear c35
 try clear c39
 try clear c57
 try clear c57b0
 try clear hcz28_0
 try clear hcz28_1
 try clear hcz30_0
 try clear hcz30_1
 try clear hcz36_0
 try clear hcz36_1
 try clear hcz40_0
 try clear hcz40_1
 try clear hcz43_0
 try clear hcz43_1
 try clear hcz54_0
 try clear hcz54_1
 try clear hcz8_0
 try clear hcz8_1
 try clear hfz28_0
 try clear hfz28_1
 try clear hfz30_0
 try clear hfz30_1
 try clear hfz36_0
 try clear hfz36_1
 try clear hfz40_0
 try clear hfz40_1
 try clear hfz43_0
 try clear hfz43_1
 try clear hfz54_0
 try clear hfz54_1
 try clear hfz8_0
 try clear hfz8_1
 obtain ⟨kq, x61_25, rfl, HA, HJ25, HO_6, HO_9, HO_446001, BK429, BK445, HB⟩ := hcut
 have hl446001_25 := (Kd.R_reads' HO_446001.out).1
 rw [hl446001_25] at HO_446001
 (try simp only [hl446001_25])
 (try simp only [hl446001_25] at BK429)
 (try simp only [hl446001_25] at BK445)
 (try simp only [hl446001_25] at HO_6)
 (try simp only [hl446001_25] at HO_9)
 cases kq with
 | zero => exact absurd HA.out (by simp [laws_FnExactTourNear.j0])
 | succ kj25 =>
  have H := HA.out
  clear HA
  simp only [laws_FnExactTourNear.j0] at H
  by_cases c59 : x61_25 = true
  ·subst c59
   rw [if_pos rfl] at H
   exact absurd ((Option.some.inj H).trans hr_) Bool.false_ne_true
  replace c59 := Bool.eq_false_iff.mpr c59
  subst c59
  rw [if_neg (show ¬ (false = true) by decide)] at H
  replace H := Option.bind_eq_some_iff.mp H
  obtain ⟨⟨t467, t468⟩, A600, H⟩ := H
  have A60 := Aside0.mk A600
  clear A600
  replace H := Option.bind_eq_some_iff.mp H
  obtain ⟨t469, A610, H⟩ := H
  have A61 := Aside0.mk A610
  clear A610
  by_cases c62 : t469 < 0
  ·rw [if_pos c62] at H
   have c62b0 : decide (t469 < 0) = true := decide_eq_true c62
   clear c62
   exact absurd ((Option.some.inj H).trans hr_) Bool.false_ne_true
  rw [if_neg c62] at H
  have c62b0 : decide (t469 < 0) = false := decide_eq_false c62
  clear c62
  by_cases c63 : t469 = t467
  rotate_left
  ·rw [if_neg c63] at H
   have c63b0 : (t469 == t467) = false := beq_eq_false_iff_ne.mpr c63
   have c63b1 : (t469 != t467) = true := bne_iff_ne.mpr c63
   exact absurd ((Option.some.inj H).trans hr_) Bool.false_ne_true
  rw [if_pos c63] at H
  have c63b0 : (t469 == t467) = true := beq_iff_eq.mpr c63
  have c63b1 : (t469 != t467) = false := bne_eq_false_iff_eq.mpr c63
  clear c63
  replace H := Option.bind_eq_some_iff.mp H
  obtain ⟨⟨t470, t471⟩, A640, H⟩ := H
  have A64 := Aside0.mk A640
  clear A640
  replace H := Option.bind_eq_some_iff.mp H
  obtain ⟨t474, A650, H⟩ := H
  have A65 := Aside0.mk A650
  clear A650
  replace H := Option.bind_eq_some_iff.mp H
  obtain ⟨t477, A660, H⟩ := H
  have A66 := Aside0.mk A660
  clear A660
  replace H := Option.bind_eq_some_iff.mp H
  obtain ⟨t480, A670, H⟩ := H
  have A67 := Aside0.mk A670
  clear A670
  by_cases c68 : t480 = true
  rotate_left
  ·replace c68 := Bool.eq_false_iff.mpr c68
   subst c68
   rw [if_neg (show ¬ (false = true) by decide)] at H
   exact absurd ((Option.some.inj H).trans hr_) Bool.false_ne_true
  subst c68
  rw [if_pos rfl] at H
  replace H := Option.bind_eq_some_iff.mp H
  obtain ⟨t481, A690, H⟩ := H
  have A69 := Aside0.mk A690
  clear A690
  by_cases c70 : t481 < 0
  ·rw [if_pos c70] at H
   have c70b0 : decide (t481 < 0) = true := decide_eq_true c70
   clear c70
   exact absurd ((Option.some.inj H).trans hr_) Bool.false_ne_true
  rw [if_neg c70] at H
  have c70b0 : decide (t481 < 0) = false := decide_eq_false c70
  clear c70
  by_cases c71 : t481 = t467
  rotate_left
  ·rw [if_neg c71] at H
   have c71b0 : (t481 == t467) = false := beq_eq_false_iff_ne.mpr c71
   have c71b1 : (t481 != t467) = true := bne_iff_ne.mpr c71
   exact absurd ((Option.some.inj H).trans hr_) Bool.false_ne_true
  rw [if_pos c71] at H
  have c71b0 : (t481 == t467) = true := beq_iff_eq.mpr c71
  have c71b1 : (t481 != t467) = false := bne_eq_false_iff_eq.mpr c71
  clear c71
  obtain rfl := Option.some.inj H
  go_wp2_with (first | ((with_reducible refine gate_callee (f := 22) rfl ?_); refine goesL_ (some 64) rfl rfl Try.func22 (by kernel_rfl) rfl #[.slice Ao46 t449.length co46, .int .i64 1] rfl (by (try simp only [List.map_toArray, List.map_cons, List.map_nil]); first | done | rfl | (simp only [List.length_drop, List.length_take]; rfl)) ?_; (with_reducible refine (laws_markIntS.calls kj25 (fun k_ => some k_ = (.slice Ao46 t449.length co46 : Value).ownBlock) (.slice Ao46 t449.length co46) t449 1 t467 t468 w _ ?side1 ?side2 A60.out).mono ?_); (case side1 => repeat (first | (with_reducible first | exact HB.out | apply below_alloc | apply pw_below_drewN | apply below_drew1 | refine below_set ?_ GE429.out | refine below_set ?_ GE445.out) | exact HB.out)); (case side2 => exact Kd.R_tight rfl HO_9.out); rintro e w72 ⟨rfl, hy0, hb, hkp⟩; refine ⟨_, rfl, ?_⟩; replace HO_6 := Aside0.mk (Kd.R_mono (ok' := fun k_ => some k_ ≠ (.slice Ao46 t449.length co46 : Value).ownBlock) (Kd.R_keptB (HO_6.out) hkp (fun k_ hk_ hs_ => (hk_) hs_)) (fun k_ hk_ => hk_.1)); replace HO_446001 := Aside0.mk (Kd.R_mono (ok' := fun k_ => True) (Kd.R_keptB ((Kd.R_apart' HO_446001.out (Kd.R_typed HO_9.out) (by decide))) hkp (fun k_ hk_ hs_ => (hk_.2) hs_)) (fun k_ hk_ => trivial)); replace BK429 := Aside0.mk (blk_kept (bk BK429) hkp (fun hs_ => (fun e_ => (Kd.R_ne HO_9.out BK429.out (by decide)) e_) hs_)); replace BK445 := Aside0.mk (blk_kept (bk BK445) hkp (fun hs_ => (fun e_ => (Kd.R_ne HO_9.out BK445.out (by decide)) e_) hs_)); replace HO_9 := Aside0.mk (Kd.R_reok rfl hy0 (fun k_ e_ => HO_9.out.1 k_ e_)); replace HB := Aside0.mk (hb); (try clear hb); (try clear hkp); (try clear hy0)) | ((with_reducible refine gate_callee (f := 23) rfl ?_); refine goesL_ (some 67) rfl rfl Try.func23 (by kernel_rfl) rfl #[.slice Ao46 t468.length co46, .int .i64 1] rfl (by (try simp only [List.map_toArray, List.map_cons, List.map_nil]); first | done | (rw [show t468.length = t449.length from (Kd.R_reads' HO_9.out).1.symm] <;> rfl) | rfl | (simp only [List.length_drop, List.length_take]; rfl)) ?_; (with_reducible refine (laws_heldIntS.calls kj25 _ _ t468 1 t469 _ ?side1 ?side2 A61.out).mono ?_); (case side1 => repeat (first | exact (Kd.R_reads' HO_9.out).2.2 | (with_reducible refine Kd.C_alloc ?_ _) | (with_reducible refine Kd.C_drewN ?_ _) | (with_reducible refine Kd.C_drew ?_))); (case side2 => rw [show t468.length = t449.length from (Kd.R_reads' HO_9.out).1.symm]; exact (Kd.R_reads' HO_9.out).2.1); rintro e w' ⟨rfl, ⟨nd, rfl⟩⟩; refine ⟨_, rfl, ?_⟩; have hnb73 := NB429_445.out; have hnc73 := NB445_429.out; have hcz74_0 : w72.cell? ⟨gb429, 0, none⟩ = some (.int .i64 a0_0) := (blk_cell BK429.out 0).trans rfl; have hcz74_1 : w72.cell? ⟨gb429, 1, none⟩ = some (.slice A0_1 l0_1.length c0_1) := (blk_cell BK429.out 1).trans rfl; have hfz74_0 := blk_frozen BK429.out 0; have hfz74_1 := blk_frozen BK429.out 1) | ((with_reducible refine gate_callee (f := 17) rfl ?_); refine goesL_ (some 74) rfl rfl Try.func17 (by kernel_rfl) rfl #[.agg #[.int .i64 a0_0, .slice A0_1 l0_1.length c0_1]] rfl (by (try simp only [List.map_toArray, List.map_cons, List.map_nil]); first | done | rfl | (simp only [List.length_drop, List.length_take]; rfl)) ?_; (with_reducible refine (laws_toNet.calls kj25 a0_0 _ _ l0_1 t470 t471 _ ?side1 ?side2 A64.out).mono ?_); (case side1 => repeat (first | exact (Kd.C_below HR0_1.out (bl2 HB GE429 GE445)) | (with_reducible refine Kd.C_alloc ?_ _) | (with_reducible refine Kd.C_drewN ?_ _) | (with_reducible refine Kd.C_drew ?_))); (case side2 => exact HC0_1.out); rintro e w75 ⟨v472, rfl, ho0, hb⟩; refine ⟨_, rfl, ?_⟩; replace HO_6 := Aside0.mk (Kd.R_below (rk HO_6) hb); replace HO_9 := Aside0.mk (Kd.R_below (rk HO_9) hb); have HO473 := Aside0.mk (Kd.R_lower (Kd.R_new' ho0 (Kd.R_lt (rk HO_446001))) (below_size (bl2 HB GE429 GE445))); replace HO_446001 := Aside0.mk (Kd.R_elder' (rk HO_446001) (Kd.R_base ho0) hb); replace BK429 := Aside0.mk (blk_below (bk BK429) hb); replace BK445 := Aside0.mk (blk_below (bk BK445) hb); replace HB := Aside0.mk (below_step (bl2 HB GE429 GE445) hb); (try clear hb); (try clear hb2); (try clear hk); (try clear hi); (try clear ho0)) | ((with_reducible refine gate_callee (f := 25) rfl ?_); refine goesL_ (some 76) rfl rfl Try.func25 (by kernel_rfl) rfl #[.slice A1 l1.length c1] rfl (by (try simp only [List.map_toArray, List.map_cons, List.map_nil]); first | done | rfl | (simp only [List.length_drop, List.length_take]; rfl)) ?_; (with_reducible refine (laws_toIntS.calls kj25 _ _ l1 t474 _ ?side1 ?side2 A65.out).mono ?_); (case side1 => repeat (first | exact (Kd.C_below HR1.out HB.out) | (with_reducible refine Kd.C_alloc ?_ _) | (with_reducible refine Kd.C_drewN ?_ _) | (with_reducible refine Kd.C_drew ?_))); (case side2 => exact HC1.out); rintro e w76 ⟨v475, rfl, ho0, hb⟩; refine ⟨_, rfl, ?_⟩; replace HO_446001 := Aside0.mk (Kd.R_below (rk HO_446001) hb); replace HO473 := Aside0.mk (Kd.R_below (rk HO473) hb); have HO476 := Aside0.mk (Kd.R_lower (Kd.R_new' (Kd.R_new' ho0 (Kd.R_lt (rk HO_6))) (Kd.R_lt (rk HO_9))) (below_size (bl2 HB GE429 GE445))); replace HO_6 := Aside0.mk (Kd.R_elder' (rk HO_6) (Kd.R_base ho0) hb); replace HO_9 := Aside0.mk (Kd.R_elder' (rk HO_9) (Kd.R_base ho0) hb); replace BK429 := Aside0.mk (blk_below (bk BK429) hb); replace BK445 := Aside0.mk (blk_below (bk BK445) hb); replace HB := Aside0.mk (below_step (bl2 HB GE429 GE445) hb); (try clear hb); (try clear hb2); (try clear hk); (try clear hi); (try clear ho0); obtain ⟨Ao77, co77, eo77⟩ := Kd.R_slice HO473.out; subst eo77; obtain ⟨Ao78, co78, eo78⟩ := Kd.R_slice HO476.out; subst eo78) | ((with_reducible refine gate_callee (f := 35) rfl ?_); refine goesL_ (some 77) rfl rfl Try.func35 (by kernel_rfl) rfl #[.agg #[.int .i64 t470, .slice Ao77 t471.length co77], .slice Ao78 t474.length co78] rfl (by (try simp only [List.map_toArray, List.map_cons, List.map_nil]); first | done | rfl | (simp only [List.length_drop, List.length_take]; rfl)) ?_; (with_reducible refine (impl_TourNear.calls kj25 t470 _ _ t471 _ _ t474 t477 _ ?side1 ?side2 ?side3 ?side4 A66.out).mono ?_); (case side1 => repeat (first | exact (Kd.R_reads' HO473.out).2.2 | (with_reducible refine Kd.C_alloc ?_ _) | (with_reducible refine Kd.C_drewN ?_ _) | (with_reducible refine Kd.C_drew ?_))); (case side2 => exact (Kd.R_reads' HO473.out).2.1); (case side3 => repeat (first | exact (Kd.R_reads' HO476.out).2.2 | (with_reducible refine Kd.C_alloc ?_ _) | (with_reducible refine Kd.C_drewN ?_ _) | (with_reducible refine Kd.C_drew ?_))); (case side4 => exact (Kd.R_reads' HO476.out).2.1); rintro e w79 ⟨v478, rfl, ho0, hb⟩; refine ⟨_, rfl, ?_⟩; replace HO_446001 := Aside0.mk (Kd.R_below (rk HO_446001) hb); replace HO473 := Aside0.mk (Kd.R_below (rk HO473) hb); have HO479 := Aside0.mk (Kd.R_lower (Kd.R_new' (Kd.R_new' (Kd.R_new' ho0 (Kd.R_lt (rk HO_6))) (Kd.R_lt (rk HO_9))) (Kd.R_lt (rk HO476))) (below_size (bl2 HB GE429 GE445))); replace HO_6 := Aside0.mk (Kd.R_elder' (rk HO_6) (Kd.R_base ho0) hb); replace HO_9 := Aside0.mk (Kd.R_elder' (rk HO_9) (Kd.R_base ho0) hb); replace HO476 := Aside0.mk (Kd.R_elder' (rk HO476) (Kd.R_base ho0) hb); replace BK429 := Aside0.mk (blk_below (bk BK429) hb); replace BK445 := Aside0.mk (blk_below (bk BK445) hb); replace HB := Aside0.mk (below_step (bl2 HB GE429 GE445) hb); (try clear hb); (try clear hb2); (try clear hk); (try clear hi); (try clear ho0); obtain ⟨Ao80, co80, eo80⟩ := Kd.R_slice HO479.out; subst eo80) | ((with_reducible refine gate_callee (f := 19) rfl ?_); refine goesL_ (some 80) rfl rfl Try.func19 (by kernel_rfl) rfl #[.slice Ao80 t477.length co80, .slice Ao47 t438.length co47] rfl (by (try simp only [List.map_toArray, List.map_cons, List.map_nil]); first | done | rfl | (simp only [List.length_drop, List.length_take]; rfl)) ?_; (with_reducible refine (laws_eqIntS.calls kj25 _ _ t477 _ _ t438 true _ ?side1 ?side2 ?side3 ?side4 A67.out).mono ?_); (case side1 => repeat (first | exact (Kd.R_reads' HO479.out).2.2 | (with_reducible refine Kd.C_alloc ?_ _) | (with_reducible refine Kd.C_drewN ?_ _) | (with_reducible refine Kd.C_drew ?_))); (case side2 => exact (Kd.R_reads' HO479.out).2.1); (case side3 => repeat (first | exact (Kd.R_reads' HO_6.out).2.2 | (with_reducible refine Kd.C_alloc ?_ _) | (with_reducible refine Kd.C_drewN ?_ _) | (with_reducible refine Kd.C_drew ?_))); (case side4 => exact (Kd.R_reads' HO_6.out).2.1); rintro e w' ⟨rfl, ⟨nd, rfl⟩⟩; refine ⟨_, rfl, ?_⟩) | ((with_reducible refine gate_callee (f := 23) rfl ?_); refine goesL_ (some 84) rfl rfl Try.func23 (by kernel_rfl) rfl #[.slice Ao46 t468.length co46, .int .i64 1] rfl (by (try simp only [List.map_toArray, List.map_cons, List.map_nil]); first | done | (rw [show t468.length = t449.length from (Kd.R_reads' HO_9.out).1.symm] <;> rfl) | rfl | (simp only [List.length_drop, List.length_take]; rfl)) ?_; (with_reducible refine (laws_heldIntS.calls kj25 _ _ t468 1 t481 _ ?side1 ?side2 A69.out).mono ?_); (case side1 => repeat (first | exact (Kd.R_reads' HO_9.out).2.2 | (with_reducible refine Kd.C_alloc ?_ _) | (with_reducible refine Kd.C_drewN ?_ _) | (with_reducible refine Kd.C_drew ?_))); (case side2 => rw [show t468.length = t449.length from (Kd.R_reads' HO_9.out).1.symm]; exact (Kd.R_reads' HO_9.out).2.1); rintro e w' ⟨rfl, ⟨nd, rfl⟩⟩; refine ⟨_, rfl, ?_⟩))
  go_ret
  exact ⟨by first | rfl | (simp [errW_none, errW_some] <;> rfl) | (simp [*, errW_none, errW_some] <;> rfl), bl2 HB GE429 GE445⟩
/-- THE ONE PURE STATEMENT of laws_FnExactTourNear. -/
def laws_FnExactTourNear.Pure : Prop := ∀ (a0_0 : Int) (l0_1 : List (S132)) (l1 : List Int), (Lit.int .i64 a0_0).wf = true → (l0_1.length ≤ 9223372036854775807 ∧ ∀ y_ ∈ l0_1, ((Lit.int .i64 y_.f0).wf = true ∧ ((Lit.int .i64 y_.f1).wf = true ∧ ((Lit.int .i64 y_.f2).wf = true ∧ ((Lit.int .i64 y_.f3).wf = true ∧ ((Lit.int .i64 y_.f4).wf = true)))))) → (l1.length ≤ 9223372036854775807 ∧ ∀ y_ ∈ l1, (Lit.int .i64 y_).wf = true) → ∃ k, laws_FnExactTourNear.f k a0_0 l0_1 l1 = some true

end Go.Proofs.Ytbappbbljncdeaa.F
