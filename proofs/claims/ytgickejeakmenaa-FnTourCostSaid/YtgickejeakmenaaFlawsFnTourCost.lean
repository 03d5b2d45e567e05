-- Printed by wip/px/px.py of this claim's repository (the kit's printer, extended there). Lean checks it.
import Derived.Test.YtgickejeakmenaaFKinds
import Derived.Test.YtgickejeakmenaaAMore
import Derived.Test.YtgickejeakmenaaFspecDrawTourCost
import Derived.Test.YtgickejeakmenaaFimplTourCost
import Derived.Test.YtgickejeakmenaaFspecTourCost
import Derived.Test.YtgickejeakmenaaFimplNearAll
namespace Go.Proofs.Ytgickejeakmenaa.F
open Go.RowKit Go.Proofs.YtgickejeakmenaaW.PrintWords Go.Proofs.YtgickejeakmenaaW.PrintLast Go.Proofs.YtgickejeakmenaaW.PrintMore
attribute [local go_sem] max2_int min2_int max_two min_two max_three min_three max_four min_four   -- for this text's walks alone
set_option linter.unusedVariables false
set_option linter.unusedSimpArgs false

/-! ### laws_FnTourCost: function 3 -/
mutual
def laws_FnTourCost.j0 : Nat → List Int → Int → Bool → Int → List (S41) → Option (Bool)
 | 0, _, _, _, _, _ => none
 | k + 1, x4, x5, x29, x339000, x339001 => if x29 = true then ((spec_TourCost.f k x339000 x339001 x4).bind fun t341 => (some (x5 == t341))) else ((some (([] : List Int) : List Int)).bind fun y342 => (if 1 ≤ (x4.length : Int) then ((some (x4.drop 1 : List Int)).bind fun y345 => (if y342.length + y345.length < 17592186044416 then ((some (y342 ++ y345 : List Int)).bind fun y349 => (if 0 < (x4.length : Int) then ((some (([rd x4 0] : List Int) : List Int)).bind fun y353 => (if y349.length + y353.length < 17592186044416 then (laws_FnTourCost.l0 k x4 x5 (y349 ++ y353) 0 0 x339000 x339001) else (none))) else (none))) else (none))) else (none)))
def laws_FnTourCost.l0 : Nat → List Int → Int → List Int → Int → Int → Int → List (S41) → Option (Bool)
 | 0, _, _, _, _, _, _, _ => none
 | k + 1, x4, x5, x6, x7, x8, x339000, x339001 => if x8 < (x4.length : Int) then (if 0 ≤ x8 then ((impl_NearAll.f k x339000 x339001 (rd x4 x8)).bind fun t361 => (if (x4.length : Int) = 0 then (none) else (if 0 ≤ (Int.tmod (wrap64 (x8 + 1)) (x4.length : Int)) then (if (Int.tmod (wrap64 (x8 + 1)) (x4.length : Int)) < (x4.length : Int) then (if 0 ≤ (rd x4 (Int.tmod (wrap64 (x8 + 1)) (x4.length : Int))) then (if (rd x4 (Int.tmod (wrap64 (x8 + 1)) (x4.length : Int))) < (t361.length : Int) then (if (rd t361 (rd x4 (Int.tmod (wrap64 (x8 + 1)) (x4.length : Int)))) ≥ 99999 then (laws_FnTourCost.l0 k x4 x5 x6 99999 (wrap64 (x8 + 1)) x339000 x339001) else (if x7 < 99999 then (laws_FnTourCost.l0 k x4 x5 x6 (wrap64 (x7 + (rd t361 (rd x4 (Int.tmod (wrap64 (x8 + 1)) (x4.length : Int)))))) (wrap64 (x8 + 1)) x339000 x339001) else (laws_FnTourCost.l0 k x4 x5 x6 x7 (wrap64 (x8 + 1)) x339000 x339001))) else (none)) else (none)) else (none)) else (none)))) else (none)) else ((impl_TourCost.f k x339000 x339001 x6).bind fun t359 => (if t359 = x5 then (if x7 = x5 then (some true) else (if x7 ≥ 99999 then (some (x5 == 99999)) else (some false))) else (some false)))
end
def laws_FnTourCost.f (k : Nat) (l0 : List Int) : Option (Bool) := if (l0.length : Int) > 1048576 then (some true) else ((spec_DrawTourCost.f k l0).bind fun bt331 => ((impl_TourCost.f k bt331.1 bt331.2.1 bt331.2.2).bind fun t339 => ((spec_TourCost.f k bt331.1 bt331.2.1 bt331.2.2).bind fun t340 => (if t339 = t340 then (laws_FnTourCost.j0 k bt331.2.2 t339 (decide (t339 < 0)) bt331.1 bt331.2.1) else (laws_FnTourCost.j0 k bt331.2.2 t339 true bt331.1 bt331.2.1)))))
theorem laws_FnTourCost.mono_l : ∀ k, (∀ y0 y1 y2 y3 y4, LeO (laws_FnTourCost.j0 k y0 y1 y2 y3 y4) (laws_FnTourCost.j0 (k + 1) y0 y1 y2 y3 y4)) ∧ (∀ y0 y1 y2 y3 y4 y5 y6, LeO (laws_FnTourCost.l0 k y0 y1 y2 y3 y4 y5 y6) (laws_FnTourCost.l0 (k + 1) y0 y1 y2 y3 y4 y5 y6))
 | 0 => ⟨fun _ _ _ _ _ r h => by simp [laws_FnTourCost.j0] at h, fun _ _ _ _ _ _ _ r h => by simp [laws_FnTourCost.l0] at h⟩
 | k + 1 => by
  obtain ⟨ih0, ih1⟩ := laws_FnTourCost.mono_l k
  refine ⟨?_, ?_⟩
  ·intro y0 y1 y2 y3 y4
   unfold laws_FnTourCost.j0
   repeat' first
   | (with_reducible exact ih0 _ _ _ _ _)
   | (with_reducible exact ih1 _ _ _ _ _ _ _)
   | (with_reducible exact impl_NearAll.mono _ _ _ _)
   | (with_reducible exact impl_TourCost.mono _ _ _ _)
   | (with_reducible exact spec_DrawTourCost.mono _ _)
   | (with_reducible exact spec_TourCost.mono _ _ _ _)
   | (with_reducible exact LeO.refl _)
   | (with_reducible exact LeO.none _)
   | (with_reducible refine LeO.ite ?_ ?_)
   | (with_reducible refine LeO.bind ?_ (fun _ => ?_))
   | exact ih0 _ _ _ _ _
   | exact ih1 _ _ _ _ _ _ _
   | exact impl_NearAll.mono _ _ _ _
   | exact impl_TourCost.mono _ _ _ _
   | exact spec_DrawTourCost.mono _ _
   | exact spec_TourCost.mono _ _ _ _
   | exact LeO.none _
   | refine LeO.ite ?_ ?_
   | refine LeO.bind ?_ (fun _ => ?_)
  ·intro y0 y1 y2 y3 y4 y5 y6
   unfold laws_FnTourCost.l0
   repeat' first
   | (with_reducible exact ih0 _ _ _ _ _)
   | (with_reducible exact ih1 _ _ _ _ _ _ _)
   | (with_reducible exact impl_NearAll.mono _ _ _ _)
   | (with_reducible exact impl_TourCost.mono _ _ _ _)
   | (with_reducible exact spec_DrawTourCost.mono _ _)
   | (with_reducible exact spec_TourCost.mono _ _ _ _)
   | (with_reducible exact LeO.refl _)
   | (with_reducible exact LeO.none _)
   | (with_reducible refine LeO.ite ?_ ?_)
   | (with_reducible refine LeO.bind ?_ (fun _ => ?_))
   | exact ih0 _ _ _ _ _
   | exact ih1 _ _ _ _ _ _ _
   | exact impl_NearAll.mono _ _ _ _
   | exact impl_TourCost.mono _ _ _ _
   | exact spec_DrawTourCost.mono _ _
   | exact spec_TourCost.mono _ _ _ _
   | exact LeO.none _
   | refine LeO.ite ?_ ?_
   | refine LeO.bind ?_ (fun _ => ?_)
theorem laws_FnTourCost.mono : ∀ a0 k, LeO (laws_FnTourCost.f k a0) (laws_FnTourCost.f (k + 1) a0) := by
 intro a0 k
 obtain ⟨ih0, ih1⟩ := laws_FnTourCost.mono_l k
 unfold laws_FnTourCost.f
 repeat' first
   | (with_reducible exact ih0 _ _ _ _ _)
   | (with_reducible exact ih1 _ _ _ _ _ _ _)
   | (with_reducible exact impl_NearAll.mono _ _ _ _)
   | (with_reducible exact impl_TourCost.mono _ _ _ _)
   | (with_reducible exact spec_DrawTourCost.mono _ _)
   | (with_reducible exact spec_TourCost.mono _ _ _ _)
   | (with_reducible exact LeO.refl _)
   | (with_reducible exact LeO.none _)
   | (with_reducible refine LeO.ite ?_ ?_)
   | (with_reducible refine LeO.bind ?_ (fun _ => ?_))
   | exact ih0 _ _ _ _ _
   | exact ih1 _ _ _ _ _ _ _
   | exact impl_NearAll.mono _ _ _ _
   | exact impl_TourCost.mono _ _ _ _
   | exact spec_DrawTourCost.mono _ _
   | exact spec_TourCost.mono _ _ _ _
   | exact LeO.none _
   | refine LeO.ite ?_ ?_
   | refine LeO.bind ?_ (fun _ => ?_)
def laws_FnTourCost.T7 : Bool × List (List Nat × List Nat) := (true, [([], []), ([], []), ([1], [1]), ([0, 2], [0, 2]), ([], []), ([4], [4]), ([5], [5]), ([6], [6]), ([3, 7, 3], [3, 7]), ([8, 8, 0, 1, 2, 3, 4, 5, 6, 7, 8], [8])])
def laws_FnTourCost.B7 : List Nat := [0, 0, 2, 7, 0, 16, 48, 112, 255, 511]
theorem laws_FnTourCost.tab7 : rtab .any (opsOf Try.f3 7) = laws_FnTourCost.T7 := by kernel_rfl
theorem laws_FnTourCost.bits7 : waitsOk laws_FnTourCost.T7.2 laws_FnTourCost.B7 = true := by kernel_rfl
def laws_FnTourCost.T12 : Bool × List (List Nat × List Nat) := (true, [([], []), ([], []), ([], []), ([1, 2], [1, 2]), ([3], [3]), ([0, 4], [0, 4]), ([], []), ([], []), ([7], [7]), ([], []), ([9], [9]), ([8, 10], [8, 10]), ([6, 11], [6, 11]), ([12], [12]), ([5, 13], [5, 13]), ([14], [14]), ([15, 5, 0, 1, 2, 3, 4, 5, 6, 7, 8, 9, 10, 11, 12, 13, 14, 15], [15])])
def laws_FnTourCost.B12 : List Nat := [0, 0, 0, 6, 14, 31, 0, 0, 128, 0, 512, 1920, 4032, 8128, 16383, 32767, 65535]
theorem laws_FnTourCost.tab12 : rtab .any (opsOf Try.f3 12) = laws_FnTourCost.T12 := by kernel_rfl
theorem laws_FnTourCost.bits12 : waitsOk laws_FnTourCost.T12.2 laws_FnTourCost.B12 = true := by kernel_rfl
theorem laws_FnTourCost.restart {P : Program} {md : Region.Mode} {ops : Array Oper} {Q : Exit → Act → World → Prop} {S S' : World → Prop} (h : ∀ w, S' w → S w) : ∀ {fuel : Nat} {l : Array Bool} {a : Act} {w : World}, S' w → (S' w → wpAnyLast P md ops Q S' [] fuel l a w) → wpAnyLast P md ops Q S [] fuel l a w := by
 have key : ∀ (fuel : Nat) (l : Array Bool) (a : Act) (w : World), S' w → wpAnyLast P md ops Q S' [] fuel l a w → wpAnyLast P md ops Q S [] fuel l a w := by
  intro fuel
  induction fuel with
  | zero => intro l a w _ hk; exact hk
  | succ n ih =>
   intro l a w hS hk
   refine ⟨hk.1, fun i hi => wpOp_mono (fun a' w' h' => ?_) (hk.2 i hi)⟩
   have h1 := h'.1 (by simp) hS
   exact ⟨fun _ _ => h _ h1, ih _ _ _ h1 h'.2⟩
 intro fuel l a w hS hk
 exact key fuel l a w hS (hk hS)
set_option maxHeartbeats 8000000 in
set_option maxRecDepth 100000 in
theorem laws_FnTourCost.calls (k : Nat) (A0 : Option Addr) (c0 : Nat) (l0 : List Int) (r : Bool) (w : World) (hr0 : Kd.C (Kd.int .u8) w A0 l0.length l0) (hc0 : l0.length ≤ c0) (h : laws_FnTourCost.f k l0 = some r) (hr_ : r = true) :
  Calls Try.prog 3 #[.slice A0 l0.length c0] w fun e w' => e = .returned (.bool r) ∧ Below w.heap.size w w' := by
 have hu25 := Try.underlying25
 have HR0 := Aside0.mk hr0
 have HC0 := Aside0.mk hc0
 clear hr0 hc0
 have HB := Aside0.mk (Below.refl w.heap.size w)
 have H : (if (l0.length : Int) > 1048576 then (some true) else ((spec_DrawTourCost.f k l0).bind fun bt331 => ((impl_TourCost.f k bt331.1 bt331.2.1 bt331.2.2).bind fun t339 => ((spec_TourCost.f k bt331.1 bt331.2.1 bt331.2.2).bind fun t340 => (if t339 = t340 then (laws_FnTourCost.j0 k bt331.2.2 t339 (decide (t339 < 0)) bt331.1 bt331.2.1) else (laws_FnTourCost.j0 k bt331.2.2 t339 true bt331.1 bt331.2.1)))))) = some r := h
 clear h
 by_cases c2 : (l0.length : Int) > 1048576
 ·rw [if_pos c2] at H
  have c2b0 : decide (1048576 < (l0.length : Int)) = true := decide_eq_true c2
  have c2b1 : decide (1048576 < l0.length) = true := decide_eq_true (by omega)
  clear c2
  obtain rfl := Option.some.inj H
  go_enter Try.func3, Try.ntmps3
  go_wp2
  go_ret
  exact ⟨by first | rfl | (simp [errW_none, errW_some] <;> rfl) | (simp [*, errW_none, errW_some] <;> rfl), bl HB⟩
 rw [if_neg c2] at H
 have c2b0 : decide (1048576 < (l0.length : Int)) = false := decide_eq_false c2
 have c2b1 : decide (1048576 < l0.length) = false := decide_eq_false (by omega)
 clear c2
 replace H := Option.bind_eq_some_iff.mp H
 obtain ⟨⟨t331, t332, t335⟩, A30, H⟩ := H
 have A3 := Aside0.mk A30
 clear A30
 replace H := Option.bind_eq_some_iff.mp H
 obtain ⟨t339, A40, H⟩ := H
 have A4 := Aside0.mk A40
 clear A40
 have HC5 := Aside0.mk H
 clear H
 go_enter Try.func3, Try.ntmps3
 go_upto_region 5 with (first | ((with_reducible refine gate_callee (f := 15) rfl ?_); refine goesL_ (some 15) rfl rfl Try.func15 (by kernel_rfl) rfl #[.slice A0 l0.length c0] rfl (by (try simp only [List.map_toArray, List.map_cons, List.map_nil]); first | done | rfl | (simp only [List.length_drop, List.length_take]; rfl)) ?_; (with_reducible refine (spec_DrawTourCost.calls k _ _ l0 t331 t332 t335 _ ?side1 ?side2 A3.out).mono ?_); (case side1 => repeat (first | exact HR0.out | (with_reducible refine Kd.C_alloc ?_ _) | (with_reducible refine Kd.C_drewN ?_ _) | (with_reducible refine Kd.C_drew ?_))); (case side2 => exact HC0.out); rintro e w6 ⟨v333, v336, rfl, ho0, ho1, hb⟩; refine ⟨_, rfl, ?_⟩; have HO334 := Aside0.mk (Kd.R_lower ho0 (below_size (bl HB))); have HO337 := Aside0.mk (Kd.R_lower ho1 (below_size (bl HB))); replace HB := Aside0.mk (below_step (bl HB) hb); (try clear hb); (try clear hb2); (try clear hk); (try clear hi); (try clear ho0); (try clear ho1)) | ((with_reducible refine gate_dst (N := 3) rfl ?_); refine box_event ?hg (N := 3) ?hd (cs := #[.int .i64 0, .slice none 0 0]) (t := 25) ?hr ?_; (case hd => rfl); (case hg => rfl); (case hr => first | (go_simp; done) | (go_simp; rfl)); intro gb338 hg w7 hbox hb; replace HO334 := Aside0.mk (Kd.R_below (rk HO334) hb); replace HO337 := Aside0.mk (Kd.R_below (rk HO337) hb); have BK338 := Aside0.mk (hbox); have GW338 := Aside0.mk ((by rw [hg]; exact (below_size (bl HB)) : w.heap.size ≤ gb338)); have GE338 := Aside0.mk ((by rw [hg]; exact (below_size (bl HB)) : w.heap.size ≤ gb338)); replace HB := Aside0.mk (below_step (bl HB) hb); clear hb hbox hg; have hcz8_0 : w7.cell? ⟨gb338, 0, none⟩ = some (.int .i64 0) := (blk_cell BK338.out 0).trans rfl; have hcz8_1 : w7.cell? ⟨gb338, 1, none⟩ = some (.slice none 0 0) := (blk_cell BK338.out 1).trans rfl; have hfz8_0 := blk_frozen BK338.out 0; have hfz8_1 := blk_frozen BK338.out 1; obtain ⟨Ao9, co9, eo9⟩ := Kd.R_slice HO334.out; subst eo9; obtain ⟨Ao10, co10, eo10⟩ := Kd.R_slice HO337.out; subst eo10) | ((with_reducible refine gate_callee (f := 16) rfl ?_); refine goesL_ (some 20) rfl rfl Try.func16 (by kernel_rfl) rfl #[.agg #[.int .i64 t331, .slice Ao9 t332.length co9], .slice Ao10 t335.length co10] rfl (by (try simp only [List.map_toArray, List.map_cons, List.map_nil]); first | done | rfl | (simp only [List.length_drop, List.length_take]; rfl)) ?_; (with_reducible refine (impl_TourCost.calls k t331 _ _ t332 _ _ t335 t339 _ ?side1 ?side2 ?side3 ?side4 A4.out).mono ?_); (case side1 => refine (Kd.R_reads' (e := 41) (base := w.heap.size) (ok := fun k_ => True) (n := t332.length) (c := co9) ?_).2.2; exact (by (with_reducible repeat (first | apply Kd.R_alloc | apply Kd.R_drewN | apply Kd.R_drew)); exact (Kd.R_mono (Kd.R_far (p := ⟨gb338, 1, none⟩) (Kd.R_far (p := ⟨gb338, 0, none⟩) (Kd.R_types HO334.out BK338.out (by decide)) (fun _ hk => hk.2) (.int .i64 t331)) (fun _ hk => hk.2) (.slice Ao9 t332.length co9)) (fun _ h_ => h_.1)))); (case side2 => exact (Kd.R_reads' HO334.out).2.1); (case side3 => refine (Kd.R_reads' (e := 3) (base := w.heap.size) (ok := fun k_ => True) (n := t335.length) (c := co10) ?_).2.2; exact (by (with_reducible repeat (first | apply Kd.R_alloc | apply Kd.R_drewN | apply Kd.R_drew)); exact (Kd.R_mono (Kd.R_far (p := ⟨gb338, 1, none⟩) (Kd.R_far (p := ⟨gb338, 0, none⟩) (Kd.R_types HO337.out BK338.out (by decide)) (fun _ hk => hk.2) (.int .i64 t331)) (fun _ hk => hk.2) (.slice Ao9 t332.length co9)) (fun _ h_ => h_.1)))); (case side4 => exact (Kd.R_reads' HO337.out).2.1); rintro e w11 ⟨rfl, hb⟩; refine ⟨_, rfl, ?_⟩; replace HO334 := Aside0.mk (Kd.R_below (by (with_reducible repeat (first | apply Kd.R_alloc | apply Kd.R_drewN | apply Kd.R_drew)); exact (Kd.R_mono (Kd.R_far (p := ⟨gb338, 1, none⟩) (Kd.R_far (p := ⟨gb338, 0, none⟩) (Kd.R_types HO334.out BK338.out (by decide)) (fun _ hk => hk.2) (.int .i64 t331)) (fun _ hk => hk.2) (.slice Ao9 t332.length co9)) (fun _ h_ => h_.1))) hb); replace HO337 := Aside0.mk (Kd.R_below (by (with_reducible repeat (first | apply Kd.R_alloc | apply Kd.R_drewN | apply Kd.R_drew)); exact (Kd.R_mono (Kd.R_far (p := ⟨gb338, 1, none⟩) (Kd.R_far (p := ⟨gb338, 0, none⟩) (Kd.R_types HO337.out BK338.out (by decide)) (fun _ hk => hk.2) (.int .i64 t331)) (fun _ hk => hk.2) (.slice Ao9 t332.length co9)) (fun _ h_ => h_.1))) hb); replace BK338 := Aside0.mk (blk_below (g := gb338) (o := .cells #[.int .i64 t331, .slice Ao9 t332.length co9] 25 (0, 0)) (by (with_reducible repeat (first | refine blk_drewN ?_ _ | refine blk_drew ?_ | refine blk_alloc ?_ _)); refine blk_put (cs := #[.int .i64 t331, .slice none 0 0]) ?_ 1 _ rfl; refine blk_put (cs := #[.int .i64 0, .slice none 0 0]) ?_ 0 _ rfl; (with_reducible repeat (first | refine blk_drewN ?_ _ | refine blk_drew ?_ | refine blk_alloc ?_ _)); exact BK338.out) hb); replace HB := Aside0.mk (below_step (bl1 HB GE338) hb); (try clear hb); (try clear hb2); (try clear hk); (try clear hi)))
 (try simp only [Act.put, List.setIfInBounds_toArray, List.set_cons_zero, List.set_cons_succ])
 go_cut [29] (fun v29 wc => ∃ (kq : Nat) (x29_4 : Bool), v29 = .bool x29_4 ∧ Aside0 (laws_FnTourCost.j0 kq t335 t339 x29_4 t331 t332 = some r) ∧ Aside0 (kq ≤ k) ∧ Aside0 (Kd.R (Kd.int .i64) 3 wc w.heap.size (fun _ => True) (.slice Ao10 t335.length co10) t335) ∧ Aside0 (Kd.R k41 41 wc w.heap.size (fun _ => True) (.slice Ao9 t332.length co9) t332) ∧ Aside0 (wc.heap[gb338]? = some (.cells #[.int .i64 t331, (.slice Ao9 t332.length co9)] 25 (0, 0))) ∧ Aside0 (Below w.heap.size w wc))
 case first =>
  have H := HC5.out
  clear HC5
  replace H := Option.bind_eq_some_iff.mp H
  obtain ⟨t340, A120, H⟩ := H
  have A12 := Aside0.mk A120
  clear A120
  by_cases c13 : t339 = t340
  rotate_left
  ·rw [if_neg c13] at H
   have c13b0 : (t339 == t340) = false := beq_eq_false_iff_ne.mpr c13
   have c13b1 : (t339 != t340) = true := bne_iff_ne.mpr c13
   (first | rw [c13b0] | (simp only [i64_w, i32_w]; rw [c13b0]) | skip)
   have H' := Aside0.mk H
   clear H
   have hcz16_0 : w11.cell? ⟨gb338, 0, none⟩ = some (.int .i64 t331) := (blk_cell BK338.out 0).trans rfl
   have hcz16_1 : w11.cell? ⟨gb338, 1, none⟩ = some (.slice Ao9 t332.length co9) := (blk_cell BK338.out 1).trans rfl
   have hfz16_0 := blk_frozen BK338.out 0
   have hfz16_1 := blk_frozen BK338.out 1
   go_wp2_with (first | ((with_reducible refine gate_callee (f := 17) rfl ?_); refine goesL_ (some 24) rfl rfl Try.func17 (by kernel_rfl) rfl #[.agg #[.int .i64 t331, .slice Ao9 t332.length co9], .slice Ao10 t335.length co10] rfl (by (try simp only [List.map_toArray, List.map_cons, List.map_nil]); first | done | rfl | (simp only [List.length_drop, List.length_take]; rfl)) ?_; (with_reducible refine (spec_TourCost.calls k t331 _ _ t332 _ _ t335 t340 _ ?side1 ?side2 ?side3 ?side4 A12.out).mono ?_); (case side1 => repeat (first | exact (Kd.R_reads' HO334.out).2.2 | (with_reducible refine Kd.C_alloc ?_ _) | (with_reducible refine Kd.C_drewN ?_ _) | (with_reducible refine Kd.C_drew ?_))); (case side2 => exact (Kd.R_reads' HO334.out).2.1); (case side3 => repeat (first | exact (Kd.R_reads' HO337.out).2.2 | (with_reducible refine Kd.C_alloc ?_ _) | (with_reducible refine Kd.C_drewN ?_ _) | (with_reducible refine Kd.C_drew ?_))); (case side4 => exact (Kd.R_reads' HO337.out).2.1); rintro e w17 ⟨rfl, hb⟩; refine ⟨_, rfl, ?_⟩; replace HO334 := Aside0.mk (Kd.R_below (rk HO334) hb); replace HO337 := Aside0.mk (Kd.R_below (rk HO337) hb); replace BK338 := Aside0.mk (blk_below (bk BK338) hb); replace HB := Aside0.mk (below_step (bl1 HB GE338) hb); (try clear hb); (try clear hb2); (try clear hk); (try clear hi)))
   go_meet
   case rel => exact ⟨_, (true), (by first | rfl | (simp; done) | (simp [*]; done)), H', ⟨by first | omega | exact Nat.le_refl _⟩, ⟨rk HO337⟩, ⟨rk HO334⟩, ⟨bk BK338⟩, ⟨bl1 HB GE338⟩⟩
  rw [if_pos c13] at H
  have c13b0 : (t339 == t340) = true := beq_iff_eq.mpr c13
  have c13b1 : (t339 != t340) = false := bne_eq_false_iff_eq.mpr c13
  clear c13
  (first | rw [c13b0] | (simp only [i64_w, i32_w]; rw [c13b0]) | skip)
  have H' := Aside0.mk H
  clear H
  have hcz14_0 : w11.cell? ⟨gb338, 0, none⟩ = some (.int .i64 t331) := (blk_cell BK338.out 0).trans rfl
  have hcz14_1 : w11.cell? ⟨gb338, 1, none⟩ = some (.slice Ao9 t332.length co9) := (blk_cell BK338.out 1).trans rfl
  have hfz14_0 := blk_frozen BK338.out 0
  have hfz14_1 := blk_frozen BK338.out 1
  go_wp2_with (first | ((with_reducible refine gate_callee (f := 17) rfl ?_); refine goesL_ (some 24) rfl rfl Try.func17 (by kernel_rfl) rfl #[.agg #[.int .i64 t331, .slice Ao9 t332.length co9], .slice Ao10 t335.length co10] rfl (by (try simp only [List.map_toArray, List.map_cons, List.map_nil]); first | done | rfl | (simp only [List.length_drop, List.length_take]; rfl)) ?_; (with_reducible refine (spec_TourCost.calls k t331 _ _ t332 _ _ t335 t340 _ ?side1 ?side2 ?side3 ?side4 A12.out).mono ?_); (case side1 => repeat (first | exact (Kd.R_reads' HO334.out).2.2 | (with_reducible refine Kd.C_alloc ?_ _) | (with_reducible refine Kd.C_drewN ?_ _) | (with_reducible refine Kd.C_drew ?_))); (case side2 => exact (Kd.R_reads' HO334.out).2.1); (case side3 => repeat (first | exact (Kd.R_reads' HO337.out).2.2 | (with_reducible refine Kd.C_alloc ?_ _) | (with_reducible refine Kd.C_drewN ?_ _) | (with_reducible refine Kd.C_drew ?_))); (case side4 => exact (Kd.R_reads' HO337.out).2.1); rintro e w15 ⟨rfl, hb⟩; refine ⟨_, rfl, ?_⟩; replace HO334 := Aside0.mk (Kd.R_below (rk HO334) hb); replace HO337 := Aside0.mk (Kd.R_below (rk HO337) hb); replace BK338 := Aside0.mk (blk_below (bk BK338) hb); replace HB := Aside0.mk (below_step (bl1 HB GE338) hb); (try clear hb); (try clear hb2); (try clear hk); (try clear hi)))
  go_meet
  case rel => exact ⟨_, (decide (t339 < 0)), (by first | rfl | (simp; done) | (simp [*]; done)), H', ⟨by first | omega | exact Nat.le_refl _⟩, ⟨rk HO337⟩, ⟨rk HO334⟩, ⟨bk BK338⟩, ⟨bl1 HB GE338⟩⟩
 clear HC5
 try clear c1
 try clear c2
 try clear c2b0
 try clear c2b1
 try clear p2
 try clear c3
 try clear c13
 try clear c13b0
 try clear c13b1
 try clear c15
 try clear c16
 try clear c17
 try clear hcz14_0
 try clear hcz14_1
 try clear hcz16_0
 try clear hcz16_1
 try clear hcz8_0
 try clear hcz8_1
 try clear hfz14_0
 try clear hfz14_1
 try clear hfz16_0
 try clear hfz16_1
 try clear hfz8_0
 try clear hfz8_1
 obtain ⟨kq, x29_4, rfl, HA, HJ4, HO_4, HO_339001, BK338, HB⟩ := hcut
 cases kq with
 | zero => exact absurd HA.out (by simp [laws_FnTourCost.j0])
 | succ kj4 =>
  have H := HA.out
  clear HA
  simp only [laws_FnTourCost.j0] at H
  by_cases c18 : x29_4 = true
  ·subst c18
   rw [if_pos rfl] at H
   replace H := Option.bind_eq_some_iff.mp H
   obtain ⟨t341, A190, H⟩ := H
   have A19 := Aside0.mk A190
   clear A190
   obtain rfl := Option.some.inj H
   have hcz20_0 : wc.cell? ⟨gb338, 0, none⟩ = some (.int .i64 t331) := (blk_cell BK338.out 0).trans rfl
   have hcz20_1 : wc.cell? ⟨gb338, 1, none⟩ = some (.slice Ao9 t332.length co9) := (blk_cell BK338.out 1).trans rfl
   have hfz20_0 := blk_frozen BK338.out 0
   have hfz20_1 := blk_frozen BK338.out 1
   go_wp2_with (first | ((with_reducible refine gate_callee (f := 17) rfl ?_); refine goesL_ (some 33) rfl rfl Try.func17 (by kernel_rfl) rfl #[.agg #[.int .i64 t331, .slice Ao9 t332.length co9], .slice Ao10 t335.length co10] rfl (by (try simp only [List.map_toArray, List.map_cons, List.map_nil]); first | done | rfl | (simp only [List.length_drop, List.length_take]; rfl)) ?_; (with_reducible refine (spec_TourCost.calls kj4 t331 _ _ t332 _ _ t335 t341 _ ?side1 ?side2 ?side3 ?side4 A19.out).mono ?_); (case side1 => repeat (first | exact (Kd.R_reads' HO_339001.out).2.2 | (with_reducible refine Kd.C_alloc ?_ _) | (with_reducible refine Kd.C_drewN ?_ _) | (with_reducible refine Kd.C_drew ?_))); (case side2 => exact (Kd.R_reads' HO_339001.out).2.1); (case side3 => repeat (first | exact (Kd.R_reads' HO_4.out).2.2 | (with_reducible refine Kd.C_alloc ?_ _) | (with_reducible refine Kd.C_drewN ?_ _) | (with_reducible refine Kd.C_drew ?_))); (case side4 => exact (Kd.R_reads' HO_4.out).2.1); rintro e w21 ⟨rfl, hb⟩; refine ⟨_, rfl, ?_⟩; replace HO_4 := Aside0.mk (Kd.R_below (rk HO_4) hb); replace HO_339001 := Aside0.mk (Kd.R_below (rk HO_339001) hb); replace BK338 := Aside0.mk (blk_below (bk BK338) hb); replace HB := Aside0.mk (below_step (bl1 HB GE338) hb); (try clear hb); (try clear hb2); (try clear hk); (try clear hi)))
   go_ret
   exact ⟨by first | rfl | (simp [errW_none, errW_some] <;> rfl) | (simp [*, errW_none, errW_some] <;> rfl), bl1 HB GE338⟩
  replace c18 := Bool.eq_false_iff.mpr c18
  subst c18
  rw [if_neg (show ¬ (false = true) by decide)] at H
  obtain ⟨y342, hy342⟩ : ∃ y_ : List Int, y_ = (([] : List Int)) := ⟨_, rfl⟩
  replace H : (if 1 ≤ (t335.length : Int) then ((some (t335.drop 1 : List Int)).bind fun y345 => (if y342.length + y345.length < 17592186044416 then ((some (y342 ++ y345 : List Int)).bind fun y349 => (if 0 < (t335.length : Int) then ((some (([rd t335 0] : List Int) : List Int)).bind fun y353 => (if y349.length + y353.length < 17592186044416 then (laws_FnTourCost.l0 kj4 t335 t339 (y349 ++ y353) 0 0 t331 t332) else (none))) else (none))) else (none))) else (none)) = some r := by first | (rw [hy342]; with_reducible exact H) | (have H2_ := (Option.bind_some _ _).symm.trans H; rw [hy342]; with_reducible exact H2_) | (have H2_ := (Option.bind_some _ _).symm.trans H; with_reducible exact H2_) | with_reducible exact H | (rw [hy342]; exact H) | exact H
  have Ny342 := Aside0.mk hy342
  clear hy342
  by_cases c22 : 1 ≤ (t335.length : Int)
  rotate_left
  ·rw [if_neg c22] at H
   exact absurd H (by simp)
  rw [if_pos c22] at H
  have c22b0 := eq_true c22
  have c22b1 : decide (1 ≤ (t335.length : Int)) = true := decide_eq_true c22
  clear c22
  obtain ⟨y345, hy345⟩ : ∃ y_ : List Int, y_ = (t335.drop 1) := ⟨_, rfl⟩
  replace H : (if y342.length + y345.length < 17592186044416 then ((some (y342 ++ y345 : List Int)).bind fun y349 => (if 0 < (t335.length : Int) then ((some (([rd t335 0] : List Int) : List Int)).bind fun y353 => (if y349.length + y353.length < 17592186044416 then (laws_FnTourCost.l0 kj4 t335 t339 (y349 ++ y353) 0 0 t331 t332) else (none))) else (none))) else (none)) = some r := by first | (rw [hy345]; with_reducible exact H) | (have H2_ := (Option.bind_some _ _).symm.trans H; rw [hy345]; with_reducible exact H2_) | (have H2_ := (Option.bind_some _ _).symm.trans H; with_reducible exact H2_) | with_reducible exact H | (rw [hy345]; exact H) | exact H
  have Ny345 := Aside0.mk hy345
  clear hy345
  by_cases c23 : y342.length + y345.length < 17592186044416
  rotate_left
  ·rw [if_neg c23] at H
   exact absurd H (by simp)
  rw [if_pos c23] at H
  have LMc23 := Aside0.mk c23
  clear c23
  obtain ⟨y349, hy349⟩ : ∃ y_ : List Int, y_ = (y342 ++ y345) := ⟨_, rfl⟩
  replace H : (if 0 < (t335.length : Int) then ((some (([rd t335 0] : List Int) : List Int)).bind fun y353 => (if y349.length + y353.length < 17592186044416 then (laws_FnTourCost.l0 kj4 t335 t339 (y349 ++ y353) 0 0 t331 t332) else (none))) else (none)) = some r := by first | (rw [hy349]; with_reducible exact H) | (have H2_ := (Option.bind_some _ _).symm.trans H; rw [hy349]; with_reducible exact H2_) | (have H2_ := (Option.bind_some _ _).symm.trans H; with_reducible exact H2_) | with_reducible exact H | (rw [hy349]; exact H) | exact H
  have Ny349 := Aside0.mk hy349
  clear hy349
  by_cases c24 : 0 < (t335.length : Int)
  rotate_left
  ·rw [if_neg c24] at H
   exact absurd H (by simp)
  rw [if_pos c24] at H
  have c24b0 : decide (0 < (t335.length : Int)) = true := decide_eq_true c24
  have c24b1 : decide (0 < t335.length) = true := decide_eq_true (by omega)
  clear c24
  obtain ⟨y353, hy353⟩ : ∃ y_ : List Int, y_ = (([rd t335 0] : List Int)) := ⟨_, rfl⟩
  replace H : (if y349.length + y353.length < 17592186044416 then (laws_FnTourCost.l0 kj4 t335 t339 (y349 ++ y353) 0 0 t331 t332) else (none)) = some r := by first | (rw [hy353]; with_reducible exact H) | (have H2_ := (Option.bind_some _ _).symm.trans H; rw [hy353]; with_reducible exact H2_) | (have H2_ := (Option.bind_some _ _).symm.trans H; with_reducible exact H2_) | with_reducible exact H | (rw [hy353]; exact H) | exact H
  have Ny353 := Aside0.mk hy353
  clear hy353
  by_cases c25 : y349.length + y353.length < 17592186044416
  rotate_left
  ·rw [if_neg c25] at H
   exact absurd H (by simp)
  rw [if_pos c25] at H
  have LMc25 := Aside0.mk c25
  clear c25
  obtain ⟨y356, hy356⟩ : ∃ y_ : List Int, y_ = (y349 ++ y353) := ⟨_, rfl⟩
  replace H : (laws_FnTourCost.l0 kj4 t335 t339 y356 0 0 t331 t332) = some r := by first | (rw [hy356]; with_reducible exact H) | (have H2_ := (Option.bind_some _ _).symm.trans H; rw [hy356]; with_reducible exact H2_) | (have H2_ := (Option.bind_some _ _).symm.trans H; with_reducible exact H2_) | with_reducible exact H | (rw [hy356]; exact H) | exact H
  have Ny356 := Aside0.mk hy356
  clear hy356
  have H' := Aside0.mk H
  clear H
  try go_wp2
  replace HO_4 := Aside0.mk (Kd.R_drew HO_4.out)
  replace HO_339001 := Aside0.mk (Kd.R_drew HO_339001.out)
  replace BK338 := Aside0.mk (blk_drew BK338.out)
  replace HB := Aside0.mk (below_drew1 HB.out)
  have q27 : (1 : Int) ≤ ((t335.length : Int) : Int) := oT (by first | (with_reducible assumption) | assumption)
  obtain ⟨i027, hi027, _, hsz27, _⟩ := info_parts info3
  have hroom27 : t335.length ≤ co10 := (Kd.R_reads' HO_4.out).2.1
  have hC27 : Kd.C (Kd.int .i64) _ Ao10 t335.length t335 := (Kd.R_reads' HO_4.out).2.2
  have hcut27 := cut_from (P := Try.prog) 26 3 .i64 Try.underlying26 hi027 1 hsz27 Ao10 t335.length co10 1 (by omega) q27
  have hr27 := Kd.C_drop (m := (1 : Int).toNat) (c := co10) hC27 (by omega) hroom27
  obtain ⟨A27, hA27⟩ : ∃ A1, A1 = (if co10 = (1 : Int).toNat then Ao10 else (Ao10 : Option Addr).map (·.add ((1 : Int).toNat * 1))) := ⟨_, rfl⟩
  obtain ⟨c27, hc27⟩ : ∃ c1, c1 = co10 - (1 : Int).toNat := ⟨_, rfl⟩
  have hy27 : y345.length = t335.length - (1 : Int).toNat := (by rw [Ny345.out, List.length_drop] <;> omega)
  rw [show (t335).drop (1 : Int).toNat = y345 from Ny345.out.symm] at hr27
  replace hr27 : Kd.C (Kd.int .i64) _ A27 y345.length y345 := (by rw [hA27]; exact hr27)
  rw [← hy27, ← hA27, ← hc27] at hcut27
  have HR348 := Aside0.mk hr27
  have HC348 := Aside0.mk (show y345.length ≤ c27 from by rw [hy27, hc27]; exact Nat.sub_le_sub_right hroom27 _)
  clear hr27 hC27 hroom27 hi027 hsz27 hc27
  have KY27 := Aside0.mk hy27
  have KA27 := Aside0.mk hA27
  clear hy27 hA27
  have KL27 := Aside0.mk (show 1 ≤ t335.length from by omega)
  replace q27 := eq_true q27
  have p352 : 0 ≤ (0 : Int) := (by omega)
  have q352 : 0 < (t335.length : Int) := oT (by first | (with_reducible assumption) | assumption)
  obtain ⟨ad352, e352, hx352_0⟩ := Kd.at_int (Kd.R_reads' HO_4.out).2.2 0 p352 q352
  cases e352
  have qi352 : (0 < t335.length) = True := eq_true (by omega)
  (try rw [show ((0 : Int)).toNat = 0 from rfl] at hx352_0)
  (try rw [Addr.add_zero'] at hx352_0)
  replace p352 := eq_true p352
  replace q352 := eq_true q352
  refine start_ (n := 10) (S := fun w' => w'.cell? ad352 = some (.int .i64 (rd t335 0))) (ds := []) (ms 10 0) (by kernel_rfl) rfl (by kernel_rfl) (hx352_0) (fun hHeld => ?_); refine with_tabW laws_FnTourCost.tab7 laws_FnTourCost.bits7 (fun HT_ HW_ => ?_)
  generalize wc.drew = w26 at HO_4 HO_339001 BK338 HB HR348 hx352_0 hHeld ⊢
  refine pure_ (i := 1) (N := some 36) (v := ?_) (a' := ?_) (ms 10 2) rfl rfl (any_of HT_.out (by kernel_rfl)) (fun _ _ _ h => h) (Or.inl ⟨by rfl, ?_⟩) ?_ ?_
  rotate_left
  ·intro w'
   go_simp
   with_reducible rfl
  rotate_left
  ·simp only [Act.put, sA, sB, sC, i64_w, i32_w]
   rfl
  refine pure_ (i := 2) (N := some 37) (v := ?_) (a' := ?_) (ms 10 6) rfl rfl (any_of HT_.out (by kernel_rfl)) (fun _ _ _ h => h) (Or.inl ⟨by rfl, ?_⟩) ?_ ?_
  rotate_left
  ·intro w'
   go_simp
   with_reducible rfl
  rotate_left
  ·simp only [Act.put, sA, sB, sC, i64_w, i32_w]
   rfl
  refine pure_ (i := 4) (N := some 39) (v := ?_) (a' := ?_) (ms 10 22) rfl rfl (any_of HT_.out (by kernel_rfl)) (fun _ _ _ h => h) (Or.inl ⟨by rfl, ?_⟩) ?_ ?_
  rotate_left
  ·intro w'
   go_simp
   with_reducible rfl
  rotate_left
  ·simp only [Act.put, sA, sB, sC, i64_w, i32_w]
   rfl
  refine pure_ (i := 5) (N := some 40) (v := ?_) (a' := ?_) (ms 10 54) rfl rfl (any_of HT_.out (by kernel_rfl)) (fun _ _ _ h => h) (Or.inl ⟨by rfl, ?_⟩) ?_ ?_
  rotate_left
  ·intro w'
   go_simp
   with_reducible rfl
  rotate_left
  ·simp only [Act.put, sA, sB, sC, i64_w, i32_w]
   rfl
  refine take_ (i := 6) (N := some 41) (v := ?_) (a' := ?_) (ms 10 118) rfl rfl (take_ofW HT_.out HW_.out (by kernel_rfl)) (fun _ _ _ h => h) (Or.inl ⟨by rfl, ?_⟩) hHeld ?_ ?_
  rotate_left
  ·intro w' s0
   go_simp
   with_reducible rfl
  rotate_left
  ·simp only [Act.put, sA, sB, sC, i64_w, i32_w]
   rfl
  refine join_ (σ := Value × Value × Value) 2 (ms 10 255) (fun s_ => [(35, s_.1), (38, s_.2.1), (42, s_.2.2)]) (fun s_ w' => (w'.cell? ad352 = some (.int .i64 (rd t335 0))) ∧ (Kd.R (Kd.int .i64) 3 w' w.heap.size (fun k_ => some k_ ≠ (s_.2.2 : Value).ownBlock ∧ some k_ ≠ (.slice (some ad352) t335.length co10 : Value).ownBlock) s_.2.1 y349) ∧ (Kd.R (Kd.int .i64) 3 w' w.heap.size (fun k_ => some k_ ≠ (s_.2.1 : Value).ownBlock ∧ some k_ ≠ (.slice (some ad352) t335.length co10 : Value).ownBlock) s_.2.2 y353) ∧ (Kd.R k41 41 w' w.heap.size (fun _ => True) (.slice Ao9 t332.length co9) t332) ∧ (Kd.R (Kd.int .i64) 3 w' w.heap.size (fun k_ => some k_ ≠ (s_.2.1 : Value).ownBlock ∧ some k_ ≠ (s_.2.2 : Value).ownBlock) (.slice (some ad352) t335.length co10) t335) ∧ (w'.heap[gb338]? = some (.cells #[.int .i64 t331, .slice Ao9 t332.length co9] 25 (0, 0))) ∧ (Below w.heap.size w w')) ?_ ?_
  rotate_left
  ·intro hCont
   refine two_ (i := 0) (j := 7) (Ni := some 35) (Nj := some 42) (ms 10 119) (ms 10 246) rfl rfl rfl rfl (two_of HT_.out (by kernel_rfl)) (by decide) (by decide) (fun K hK => ?_) (fun K hK => ?_)
   rotate_left
   ·skip
    refine Kd.R_lit_step (Kd.int .i64) _ 3 ?hg (N := 42) ?hd (xs := ([rd t335 0] : List Int)) (inner := [.int .i64 (rd t335 0)]) (ok := fun _ => True) (okp := fun _ => True) ?hr ?hp (fun _ hk => hk) trivial (Below.refl _ _) (Nat.le_refl _) (by simp) ?_; (case hd => rfl); (case hg => rfl); (case hr => first | (go_simp; done) | (go_simp; rfl)); (case hp => exact (Reps.one (show Kd.M (Kd.int .i64) _ _ _ (rd t335 0) [.int .i64 (rd t335 0)] from rfl) (Reps.none _ _)))
    intro v354 w28 ho29 hb hg_ hnew_
    have HS0_ := (hb.cell (World.block_lt_of_cell? _ _ (hHeld))).trans (hHeld)
    clear hg_ hnew_
    (first | rw [← Ny353.out] at ho29 | (simp only [Int.reduceToNat] at ho29; rw [← Ny353.out] at ho29))
    replace HO_339001 := Aside0.mk (Kd.R_below (rk HO_339001) hb)
    have HO355 := Aside0.mk (Kd.R_lower (Kd.R_new' ho29 (Kd.R_lt (rk HO_4))) (below_size (bl1 HB GE338)))
    replace HO_4 := Aside0.mk (Kd.R_elder' (rk HO_4) (Kd.R_base ho29) hb)
    replace BK338 := Aside0.mk (blk_below (bk BK338) hb)
    replace HR348 := Aside0.mk (Kd.C_below (by repeat (first | (with_reducible exact HR348.out) | (with_reducible refine Kd.C_alloc ?_ _) | (with_reducible refine Kd.C_drewN ?_ _) | (with_reducible refine Kd.C_drew ?_) | exact HR348.out)) hb)
    replace HB := Aside0.mk (below_step (bl1 HB GE338) hb)
    clear hb ho29
    refine hK.out _ _ (HS0_) (fun hHeld => ?_)
    clear hK K
    refine norm_ (a' := ?_) ?_ ?_
    rotate_left
    ·show Act.put _ (some 42) _ = _
     simp only [Act.put, sA, sB, sC, i64_w, i32_w]
     rfl
    refine one_ (i := 0) (N := some 35) (ms 10 247) rfl rfl (one_of HT_.out (by kernel_rfl)) (by decide) (fun K hK => ?_)
    refine Kd.R_lit_step (Kd.int .i64) _ 3 ?hg (N := 35) ?hd (xs := ([] : List Int)) (inner := []) (ok := fun _ => True) (okp := fun _ => True) ?hr ?hp (fun _ hk => hk) trivial (Below.refl _ _) (Nat.le_refl _) (by simp) ?_; (case hd => rfl); (case hg => rfl); (case hr => first | (go_simp; done) | (go_simp; rfl)); (case hp => exact (Reps.none _ _))
    intro v343 w30 ho31 hb hg_ hnew_
    have HS0_ := (hb.cell (World.block_lt_of_cell? _ _ (hHeld))).trans (hHeld)
    clear hg_ hnew_
    (first | rw [← Ny342.out] at ho31 | (simp only [Int.reduceToNat] at ho31; rw [← Ny342.out] at ho31))
    replace HO_339001 := Aside0.mk (Kd.R_below (rk HO_339001) hb)
    have HO344 := Aside0.mk (Kd.R_lower (Kd.R_new' (Kd.R_new' ho31 (Kd.R_lt (rk HO_4))) (Kd.R_lt (rk HO355))) (below_size (bl1 HB GE338)))
    replace HO_4 := Aside0.mk (Kd.R_elder' (rk HO_4) (Kd.R_base ho31) hb)
    replace HO355 := Aside0.mk (Kd.R_elder' (rk HO355) (Kd.R_base ho31) hb)
    replace BK338 := Aside0.mk (blk_below (bk BK338) hb)
    replace HR348 := Aside0.mk (Kd.C_below (by repeat (first | (with_reducible exact HR348.out) | (with_reducible refine Kd.C_alloc ?_ _) | (with_reducible refine Kd.C_drewN ?_ _) | (with_reducible refine Kd.C_drew ?_) | exact HR348.out)) hb)
    replace HB := Aside0.mk (below_step (bl1 HB GE338) hb)
    clear hb ho31
    refine hK.out _ _ (HS0_) (fun hHeld => ?_)
    clear hK K
    refine norm_ (a' := ?_) ?_ ?_
    rotate_left
    ·show Act.put _ (some 35) _ = _
     simp only [Act.put, sA, sB, sC, i64_w, i32_w]
     rfl
    refine one_ (i := 3) (N := some 38) (ms 10 255) rfl rfl (one_of HT_.out (by kernel_rfl)) (by decide) (fun K hK => ?_)
    refine Kd.R_append_rows_step (Kd.int .i64) (w0 := w) w.heap.size (by rfl) (.tmp 35) (.tmp 37) 26 3 (.int .i64 0) 8 rfl Try.underlying26 info3 rfl (by decide) (by omega) v343 y342 y345 _ _ _ (fun k_ => some k_ ≠ (.slice (some ad352) t335.length co10 : Value).ownBlock ∧ some k_ ≠ (v354 : Value).ownBlock) (fun _ => False) rfl rfl ?aO ?aR (fun _ _ h => h) (fun _ h => h.elim) ?aF ?aB ?aS ?aL ?_
    (case aR => repeat (first | exact (by repeat (first | (with_reducible exact HR348.out) | (with_reducible refine Kd.C_alloc ?_ _) | (with_reducible refine Kd.C_drewN ?_ _) | (with_reducible refine Kd.C_drew ?_) | exact HR348.out)) | (with_reducible refine Kd.C_alloc ?_ _) | (with_reducible refine Kd.C_drewN ?_ _) | (with_reducible refine Kd.C_drew ?_)))
    (case aB => exact (bl1 HB GE338))
    (case aF => exact (fun k_ hk => ⟨Kd.fresh' (Kd.R_lt (rk HO_4)) k_ hk, Kd.fresh' (Kd.R_lt (rk HO355)) k_ hk⟩))
    (case aO => exact (by (with_reducible repeat (first | apply Kd.R_alloc | apply Kd.R_drewN | apply Kd.R_drew)); exact Kd.R_mono HO344.out (fun _ hk => ⟨hk.1.2, hk.2⟩)))
    (case aS => exact (below_size (bl1 HB GE338)))
    (case aL => have := LMc23.out; omega)
    intro v350 w32 ho hb hg hat
    have HS0_ := cell_grown hg (hHeld) (by intro e_; (try simp only [add_block] at e_); have h_ := HO344.out.1 _ e_.symm; first | exact h_ rfl | exact h_.1 rfl | exact h_.2 rfl | exact h_.2.1 rfl | exact h_.2.2 rfl | exact h_.1.1 rfl | exact h_.1.2 rfl)
    rw [← Ny349.out] at ho
    have n0_ := Aside0.mk (Kd.R_after (ok := (fun k_ => some k_ ≠ (v354 : Value).ownBlock)) (by (with_reducible repeat (first | apply Kd.R_alloc | apply Kd.R_drewN | apply Kd.R_drew)); exact Kd.R_mono HO_4.out (fun _ hk => ⟨hk.1.2, hk.2⟩)) hg hat)
    have n1_ := Aside0.mk (Kd.R_over' (rk HO_339001) (Kd.R_typed (rk HO344)) (by decide) hg)
    have n2_ := Aside0.mk (blk_grown (bk BK338) hg (Kd.R_ne HO344.out BK338.out (by decide)))
    have n3_ := Aside0.mk (Kd.R_after (ok := (fun k_ => some k_ ≠ (.slice (some ad352) t335.length co10 : Value).ownBlock)) (by (with_reducible repeat (first | apply Kd.R_alloc | apply Kd.R_drewN | apply Kd.R_drew)); exact Kd.R_mono HO355.out (fun _ hk => ⟨hk.1.2, hk.2⟩)) hg hat)
    have n4_ := Aside0.mk (hb)
    have n5_ := Aside0.mk ((show Kd.C (Kd.int .i64) w32 A27 y345.length y345 from by rw [Ny345.out, KA27.out]; exact Kd.C_drop (m := 1) (c := co10) ((Kd.R_reads' (Kd.R_after (ok := (fun k_ => some k_ ≠ (v354 : Value).ownBlock)) (by (with_reducible repeat (first | apply Kd.R_alloc | apply Kd.R_drewN | apply Kd.R_drew)); exact Kd.R_mono HO_4.out (fun _ hk => ⟨hk.1.2, hk.2⟩)) hg hat)).2.2) KL27.out ((Kd.R_reads' (Kd.R_after (ok := (fun k_ => some k_ ≠ (v354 : Value).ownBlock)) (by (with_reducible repeat (first | apply Kd.R_alloc | apply Kd.R_drewN | apply Kd.R_drew)); exact Kd.R_mono HO_4.out (fun _ hk => ⟨hk.1.2, hk.2⟩)) hg hat)).2.1)))
    have n6_ := Aside0.mk (ho)
    clear HO_4
    clear HO_339001
    clear BK338
    clear HO355
    clear HB
    clear HR348
    clear HO344
    have HO_4 := n0_
    have HO_339001 := n1_
    have BK338 := n2_
    have HO355 := n3_
    have HB := n4_
    have HR348 := n5_
    have HO351 := n6_
    clear n0_ n1_ n2_ n3_ n4_ n5_ n6_
    clear ho hb hg hat
    refine hK.out _ _ (HS0_) (fun hHeld => ?_)
    clear hK K
    refine norm_ (a' := ?_) ?_ ?_
    rotate_left
    ·show Act.put _ (some 38) _ = _
     simp only [Act.put, sA, sB, sC, i64_w, i32_w]
     rfl
    exact norm_ (by simp only [putAll, Act.put, List.setIfInBounds_toArray, List.set_cons_zero, List.set_cons_succ]) (hCont (v343, v350, v354) _ ⟨hHeld, (by (with_reducible repeat (first | apply Kd.R_alloc | apply Kd.R_drewN | apply Kd.R_drew)); exact Kd.R_mono HO351.out (fun _ hk => ⟨hk.2, hk.1⟩)), (by (with_reducible repeat (first | apply Kd.R_alloc | apply Kd.R_drewN | apply Kd.R_drew)); exact Kd.R_mono HO355.out (fun _ hk => ⟨hk.2, hk.1⟩)), (rk HO_339001), (by (with_reducible repeat (first | apply Kd.R_alloc | apply Kd.R_drewN | apply Kd.R_drew)); exact Kd.R_mono HO_4.out (fun _ hk => ⟨hk.2, hk.1⟩)), (bk BK338), (bl1 HB GE338)⟩)
   skip
   refine Kd.R_lit_step (Kd.int .i64) _ 3 ?hg (N := 35) ?hd (xs := ([] : List Int)) (inner := []) (ok := fun _ => True) (okp := fun _ => True) ?hr ?hp (fun _ hk => hk) trivial (Below.refl _ _) (Nat.le_refl _) (by simp) ?_; (case hd => rfl); (case hg => rfl); (case hr => first | (go_simp; done) | (go_simp; rfl)); (case hp => exact (Reps.none _ _))
   intro v343 w28 ho29 hb hg_ hnew_
   have HS0_ := (hb.cell (World.block_lt_of_cell? _ _ (hHeld))).trans (hHeld)
   clear hg_ hnew_
   (first | rw [← Ny342.out] at ho29 | (simp only [Int.reduceToNat] at ho29; rw [← Ny342.out] at ho29))
   replace HO_339001 := Aside0.mk (Kd.R_below (rk HO_339001) hb)
   have HO344 := Aside0.mk (Kd.R_lower (Kd.R_new' ho29 (Kd.R_lt (rk HO_4))) (below_size (bl1 HB GE338)))
   replace HO_4 := Aside0.mk (Kd.R_elder' (rk HO_4) (Kd.R_base ho29) hb)
   replace BK338 := Aside0.mk (blk_below (bk BK338) hb)
   replace HR348 := Aside0.mk (Kd.C_below (by repeat (first | (with_reducible exact HR348.out) | (with_reducible refine Kd.C_alloc ?_ _) | (with_reducible refine Kd.C_drewN ?_ _) | (with_reducible refine Kd.C_drew ?_) | exact HR348.out)) hb)
   replace HB := Aside0.mk (below_step (bl1 HB GE338) hb)
   clear hb ho29
   refine hK.out _ _ (HS0_) (fun hHeld => ?_)
   clear hK K
   refine norm_ (a' := ?_) ?_ ?_
   rotate_left
   ·show Act.put _ (some 35) _ = _
    simp only [Act.put, sA, sB, sC, i64_w, i32_w]
    rfl
   refine two_ (i := 3) (j := 7) (Ni := some 38) (Nj := some 42) (ms 10 127) (ms 10 247) rfl rfl rfl rfl (two_of HT_.out (by kernel_rfl)) (by decide) (by decide) (fun K hK => ?_) (fun K hK => ?_)
   ·skip
    refine Kd.R_append_rows_step (Kd.int .i64) (w0 := w) w.heap.size (by rfl) (.tmp 35) (.tmp 37) 26 3 (.int .i64 0) 8 rfl Try.underlying26 info3 rfl (by decide) (by omega) v343 y342 y345 _ _ _ (fun k_ => some k_ ≠ (.slice (some ad352) t335.length co10 : Value).ownBlock) (fun _ => False) rfl rfl ?aO ?aR (fun _ _ h => h) (fun _ h => h.elim) ?aF ?aB ?aS ?aL ?_
    (case aR => repeat (first | exact (by repeat (first | (with_reducible exact HR348.out) | (with_reducible refine Kd.C_alloc ?_ _) | (with_reducible refine Kd.C_drewN ?_ _) | (with_reducible refine Kd.C_drew ?_) | exact HR348.out)) | (with_reducible refine Kd.C_alloc ?_ _) | (with_reducible refine Kd.C_drewN ?_ _) | (with_reducible refine Kd.C_drew ?_)))
    (case aB => exact (bl1 HB GE338))
    (case aF => exact (fun k_ hk => Kd.fresh' (Kd.R_lt (rk HO_4)) k_ hk))
    (case aO => exact (by (with_reducible repeat (first | apply Kd.R_alloc | apply Kd.R_drewN | apply Kd.R_drew)); exact Kd.R_mono HO344.out (fun _ hk => hk.2)))
    (case aS => exact (below_size (bl1 HB GE338)))
    (case aL => have := LMc23.out; omega)
    intro v350 w30 ho hb hg hat
    have HS0_ := cell_grown hg (hHeld) (by intro e_; (try simp only [add_block] at e_); have h_ := HO344.out.1 _ e_.symm; first | exact h_ rfl | exact h_.1 rfl | exact h_.2 rfl | exact h_.2.1 rfl | exact h_.2.2 rfl | exact h_.1.1 rfl | exact h_.1.2 rfl)
    rw [← Ny349.out] at ho
    have n0_ := Aside0.mk (Kd.R_after (ok := (fun _ => True)) (rk HO_4) hg hat)
    have n1_ := Aside0.mk (Kd.R_over' (rk HO_339001) (Kd.R_typed (rk HO344)) (by decide) hg)
    have n2_ := Aside0.mk (blk_grown (bk BK338) hg (Kd.R_ne HO344.out BK338.out (by decide)))
    have n3_ := Aside0.mk (hb)
    have n4_ := Aside0.mk ((show Kd.C (Kd.int .i64) w30 A27 y345.length y345 from by rw [Ny345.out, KA27.out]; exact Kd.C_drop (m := 1) (c := co10) ((Kd.R_reads' (Kd.R_after (ok := (fun _ => True)) (rk HO_4) hg hat)).2.2) KL27.out ((Kd.R_reads' (Kd.R_after (ok := (fun _ => True)) (rk HO_4) hg hat)).2.1)))
    have n5_ := Aside0.mk (ho)
    clear HO_4
    clear HO_339001
    clear BK338
    clear HB
    clear HR348
    clear HO344
    have HO_4 := n0_
    have HO_339001 := n1_
    have BK338 := n2_
    have HB := n3_
    have HR348 := n4_
    have HO351 := n5_
    clear n0_ n1_ n2_ n3_ n4_ n5_
    clear ho hb hg hat
    refine hK.out _ _ (HS0_) (fun hHeld => ?_)
    clear hK K
    refine norm_ (a' := ?_) ?_ ?_
    rotate_left
    ·show Act.put _ (some 38) _ = _
     simp only [Act.put, sA, sB, sC, i64_w, i32_w]
     rfl
    refine one_ (i := 7) (N := some 42) (ms 10 255) rfl rfl (one_of HT_.out (by kernel_rfl)) (by decide) (fun K hK => ?_)
    refine Kd.R_lit_step (Kd.int .i64) _ 3 ?hg (N := 42) ?hd (xs := ([rd t335 0] : List Int)) (inner := [.int .i64 (rd t335 0)]) (ok := fun _ => True) (okp := fun _ => True) ?hr ?hp (fun _ hk => hk) trivial (Below.refl _ _) (Nat.le_refl _) (by simp) ?_; (case hd => rfl); (case hg => rfl); (case hr => first | (go_simp; done) | (go_simp; rfl)); (case hp => exact (Reps.one (show Kd.M (Kd.int .i64) _ _ _ (rd t335 0) [.int .i64 (rd t335 0)] from rfl) (Reps.none _ _)))
    intro v354 w31 ho32 hb hg_ hnew_
    have HS0_ := (hb.cell (World.block_lt_of_cell? _ _ (hHeld))).trans (hHeld)
    clear hg_ hnew_
    (first | rw [← Ny353.out] at ho32 | (simp only [Int.reduceToNat] at ho32; rw [← Ny353.out] at ho32))
    replace HO_339001 := Aside0.mk (Kd.R_below (rk HO_339001) hb)
    have HO355 := Aside0.mk (Kd.R_lower (Kd.R_new' (Kd.R_new' ho32 (Kd.R_lt (rk HO_4))) (Kd.R_lt (rk HO351))) (below_size (bl1 HB GE338)))
    replace HO_4 := Aside0.mk (Kd.R_elder' (rk HO_4) (Kd.R_base ho32) hb)
    replace HO351 := Aside0.mk (Kd.R_elder' (rk HO351) (Kd.R_base ho32) hb)
    replace BK338 := Aside0.mk (blk_below (bk BK338) hb)
    replace HR348 := Aside0.mk (Kd.C_below (by repeat (first | (with_reducible exact HR348.out) | (with_reducible refine Kd.C_alloc ?_ _) | (with_reducible refine Kd.C_drewN ?_ _) | (with_reducible refine Kd.C_drew ?_) | exact HR348.out)) hb)
    replace HB := Aside0.mk (below_step (bl1 HB GE338) hb)
    clear hb ho32
    refine hK.out _ _ (HS0_) (fun hHeld => ?_)
    clear hK K
    refine norm_ (a' := ?_) ?_ ?_
    rotate_left
    ·show Act.put _ (some 42) _ = _
     simp only [Act.put, sA, sB, sC, i64_w, i32_w]
     rfl
    exact norm_ (by simp only [putAll, Act.put, List.setIfInBounds_toArray, List.set_cons_zero, List.set_cons_succ]) (hCont (v343, v350, v354) _ ⟨hHeld, (by (with_reducible repeat (first | apply Kd.R_alloc | apply Kd.R_drewN | apply Kd.R_drew)); exact Kd.R_mono HO351.out (fun _ hk => ⟨hk.2, hk.1⟩)), (by (with_reducible repeat (first | apply Kd.R_alloc | apply Kd.R_drewN | apply Kd.R_drew)); exact Kd.R_mono HO355.out (fun _ hk => ⟨hk.2, hk.1.2⟩)), (rk HO_339001), (by (with_reducible repeat (first | apply Kd.R_alloc | apply Kd.R_drewN | apply Kd.R_drew)); exact Kd.R_mono HO_4.out (fun _ hk => ⟨hk.1.2, hk.2⟩)), (bk BK338), (bl1 HB GE338)⟩)
   skip
   refine Kd.R_lit_step (Kd.int .i64) _ 3 ?hg (N := 42) ?hd (xs := ([rd t335 0] : List Int)) (inner := [.int .i64 (rd t335 0)]) (ok := fun _ => True) (okp := fun _ => True) ?hr ?hp (fun _ hk => hk) trivial (Below.refl _ _) (Nat.le_refl _) (by simp) ?_; (case hd => rfl); (case hg => rfl); (case hr => first | (go_simp; done) | (go_simp; rfl)); (case hp => exact (Reps.one (show Kd.M (Kd.int .i64) _ _ _ (rd t335 0) [.int .i64 (rd t335 0)] from rfl) (Reps.none _ _)))
   intro v354 w30 ho31 hb hg_ hnew_
   have HS0_ := (hb.cell (World.block_lt_of_cell? _ _ (hHeld))).trans (hHeld)
   clear hg_ hnew_
   (first | rw [← Ny353.out] at ho31 | (simp only [Int.reduceToNat] at ho31; rw [← Ny353.out] at ho31))
   replace HO_339001 := Aside0.mk (Kd.R_below (rk HO_339001) hb)
   have HO355 := Aside0.mk (Kd.R_lower (Kd.R_new' (Kd.R_new' ho31 (Kd.R_lt (rk HO_4))) (Kd.R_lt (rk HO344))) (below_size (bl1 HB GE338)))
   replace HO_4 := Aside0.mk (Kd.R_elder' (rk HO_4) (Kd.R_base ho31) hb)
   replace HO344 := Aside0.mk (Kd.R_elder' (rk HO344) (Kd.R_base ho31) hb)
   replace BK338 := Aside0.mk (blk_below (bk BK338) hb)
   replace HR348 := Aside0.mk (Kd.C_below (by repeat (first | (with_reducible exact HR348.out) | (with_reducible refine Kd.C_alloc ?_ _) | (with_reducible refine Kd.C_drewN ?_ _) | (with_reducible refine Kd.C_drew ?_) | exact HR348.out)) hb)
   replace HB := Aside0.mk (below_step (bl1 HB GE338) hb)
   clear hb ho31
   refine hK.out _ _ (HS0_) (fun hHeld => ?_)
   clear hK K
   refine norm_ (a' := ?_) ?_ ?_
   rotate_left
   ·show Act.put _ (some 42) _ = _
    simp only [Act.put, sA, sB, sC, i64_w, i32_w]
    rfl
   refine one_ (i := 3) (N := some 38) (ms 10 255) rfl rfl (one_of HT_.out (by kernel_rfl)) (by decide) (fun K hK => ?_)
   refine Kd.R_append_rows_step (Kd.int .i64) (w0 := w) w.heap.size (by rfl) (.tmp 35) (.tmp 37) 26 3 (.int .i64 0) 8 rfl Try.underlying26 info3 rfl (by decide) (by omega) v343 y342 y345 _ _ _ (fun k_ => some k_ ≠ (.slice (some ad352) t335.length co10 : Value).ownBlock ∧ some k_ ≠ (v354 : Value).ownBlock) (fun _ => False) rfl rfl ?aO ?aR (fun _ _ h => h) (fun _ h => h.elim) ?aF ?aB ?aS ?aL ?_
   (case aR => repeat (first | exact (by repeat (first | (with_reducible exact HR348.out) | (with_reducible refine Kd.C_alloc ?_ _) | (with_reducible refine Kd.C_drewN ?_ _) | (with_reducible refine Kd.C_drew ?_) | exact HR348.out)) | (with_reducible refine Kd.C_alloc ?_ _) | (with_reducible refine Kd.C_drewN ?_ _) | (with_reducible refine Kd.C_drew ?_)))
   (case aB => exact (bl1 HB GE338))
   (case aF => exact (fun k_ hk => ⟨Kd.fresh' (Kd.R_lt (rk HO_4)) k_ hk, Kd.fresh' (Kd.R_lt (rk HO355)) k_ hk⟩))
   (case aO => exact (by (with_reducible repeat (first | apply Kd.R_alloc | apply Kd.R_drewN | apply Kd.R_drew)); exact Kd.R_mono HO344.out (fun _ hk => ⟨hk.1.2, hk.2⟩)))
   (case aS => exact (below_size (bl1 HB GE338)))
   (case aL => have := LMc23.out; omega)
   intro v350 w32 ho hb hg hat
   have HS0_ := cell_grown hg (hHeld) (by intro e_; (try simp only [add_block] at e_); have h_ := HO344.out.1 _ e_.symm; first | exact h_ rfl | exact h_.1 rfl | exact h_.2 rfl | exact h_.2.1 rfl | exact h_.2.2 rfl | exact h_.1.1 rfl | exact h_.1.2 rfl)
   rw [← Ny349.out] at ho
   have n0_ := Aside0.mk (Kd.R_after (ok := (fun k_ => some k_ ≠ (v354 : Value).ownBlock)) (by (with_reducible repeat (first | apply Kd.R_alloc | apply Kd.R_drewN | apply Kd.R_drew)); exact Kd.R_mono HO_4.out (fun _ hk => ⟨hk.2, hk.1.2⟩)) hg hat)
   have n1_ := Aside0.mk (Kd.R_over' (rk HO_339001) (Kd.R_typed (rk HO344)) (by decide) hg)
   have n2_ := Aside0.mk (blk_grown (bk BK338) hg (Kd.R_ne HO344.out BK338.out (by decide)))
   have n3_ := Aside0.mk (Kd.R_after (ok := (fun k_ => some k_ ≠ (.slice (some ad352) t335.length co10 : Value).ownBlock)) (by (with_reducible repeat (first | apply Kd.R_alloc | apply Kd.R_drewN | apply Kd.R_drew)); exact Kd.R_mono HO355.out (fun _ hk => ⟨hk.1.2, hk.2⟩)) hg hat)
   have n4_ := Aside0.mk (hb)
   have n5_ := Aside0.mk ((show Kd.C (Kd.int .i64) w32 A27 y345.length y345 from by rw [Ny345.out, KA27.out]; exact Kd.C_drop (m := 1) (c := co10) ((Kd.R_reads' (Kd.R_after (ok := (fun k_ => some k_ ≠ (v354 : Value).ownBlock)) (by (with_reducible repeat (first | apply Kd.R_alloc | apply Kd.R_drewN | apply Kd.R_drew)); exact Kd.R_mono HO_4.out (fun _ hk => ⟨hk.2, hk.1.2⟩)) hg hat)).2.2) KL27.out ((Kd.R_reads' (Kd.R_after (ok := (fun k_ => some k_ ≠ (v354 : Value).ownBlock)) (by (with_reducible repeat (first | apply Kd.R_alloc | apply Kd.R_drewN | apply Kd.R_drew)); exact Kd.R_mono HO_4.out (fun _ hk => ⟨hk.2, hk.1.2⟩)) hg hat)).2.1)))
   have n6_ := Aside0.mk (ho)
   clear HO_4
   clear HO_339001
   clear BK338
   clear HO355
   clear HB
   clear HR348
   clear HO344
   have HO_4 := n0_
   have HO_339001 := n1_
   have BK338 := n2_
   have HO355 := n3_
   have HB := n4_
   have HR348 := n5_
   have HO351 := n6_
   clear n0_ n1_ n2_ n3_ n4_ n5_ n6_
   clear ho hb hg hat
   refine hK.out _ _ (HS0_) (fun hHeld => ?_)
   clear hK K
   refine norm_ (a' := ?_) ?_ ?_
   rotate_left
   ·show Act.put _ (some 38) _ = _
    simp only [Act.put, sA, sB, sC, i64_w, i32_w]
    rfl
   exact norm_ (by simp only [putAll, Act.put, List.setIfInBounds_toArray, List.set_cons_zero, List.set_cons_succ]) (hCont (v343, v350, v354) _ ⟨hHeld, (by (with_reducible repeat (first | apply Kd.R_alloc | apply Kd.R_drewN | apply Kd.R_drew)); exact Kd.R_mono HO351.out (fun _ hk => ⟨hk.2, hk.1⟩)), (by (with_reducible repeat (first | apply Kd.R_alloc | apply Kd.R_drewN | apply Kd.R_drew)); exact Kd.R_mono HO355.out (fun _ hk => ⟨hk.2, hk.1⟩)), (rk HO_339001), (by (with_reducible repeat (first | apply Kd.R_alloc | apply Kd.R_drewN | apply Kd.R_drew)); exact Kd.R_mono HO_4.out (fun _ hk => ⟨hk.2, hk.1⟩)), (bk BK338), (bl1 HB GE338)⟩)
  rintro ⟨v343, v350, v354⟩ w33 ⟨hS_, h0_, h1_, h2_, h3_, h4_, h5_⟩
  have HO351 : Aside0 (Kd.R (Kd.int .i64) 3 w33 w.heap.size (fun k_ => some k_ ≠ (v354 : Value).ownBlock ∧ some k_ ≠ (.slice (some ad352) t335.length co10 : Value).ownBlock) v350 y349) := ⟨h0_⟩
  have HO355 : Aside0 (Kd.R (Kd.int .i64) 3 w33 w.heap.size (fun k_ => some k_ ≠ (v350 : Value).ownBlock ∧ some k_ ≠ (.slice (some ad352) t335.length co10 : Value).ownBlock) v354 y353) := ⟨h1_⟩
  replace HO_339001 : Aside0 (Kd.R k41 41 w33 w.heap.size (fun _ => True) (.slice Ao9 t332.length co9) t332) := ⟨h2_⟩
  replace HO_4 : Aside0 (Kd.R (Kd.int .i64) 3 w33 w.heap.size (fun k_ => some k_ ≠ (v350 : Value).ownBlock ∧ some k_ ≠ (v354 : Value).ownBlock) (.slice (some ad352) t335.length co10) t335) := ⟨h3_⟩
  replace BK338 : Aside0 (w33.heap[gb338]? = some (.cells #[.int .i64 t331, .slice Ao9 t332.length co9] 25 (0, 0))) := ⟨h4_⟩
  replace HB : Aside0 (Below w.heap.size w w33) := ⟨h5_⟩
  clear h0_ h1_ h2_ h3_ h4_ h5_
  have hHeld : w33.cell? ad352 = some (.int .i64 (rd t335 0)) := hS_
  obtain ⟨Ao35, co35, eo35⟩ := Kd.R_slice HO355.out
  (first | subst eo35 | (injection eo35 with f1_ f2_ f3_; have f4_ := f1_.symm; have f5_ := f3_.symm; clear f1_ f2_ f3_; subst f4_; subst f5_))
  refine norm_ (a' := ?_) ?_ ?_
  rotate_left
  ·simp only [putAll, Act.put, List.setIfInBounds_toArray, List.set_cons_zero, List.set_cons_succ]
   rfl
  refine one_ (i := 8) (N := some 43) (ms 10 511) rfl rfl (one_of HT_.out (by kernel_rfl)) (by decide) (fun K hK => ?_)
  refine Kd.R_append_rows_step (Kd.int .i64) (w0 := w) w.heap.size (by rfl) (.tmp 38) (.tmp 42) 26 3 (.int .i64 0) 8 rfl Try.underlying26 info3 rfl (by decide) (by omega) v350 y349 y353 _ _ _ (fun k_ => some k_ ≠ (.slice (some ad352) t335.length co10 : Value).ownBlock ∧ some k_ ≠ (.slice Ao35 y353.length co35 : Value).ownBlock) (fun _ => False) rfl rfl ?aO ?aR (fun _ _ h => h) (fun _ h => h.elim) ?aF ?aB ?aS ?aL ?_
  (case aR => repeat (first | exact (Kd.R_reads' HO355.out).2.2 | (with_reducible refine Kd.C_alloc ?_ _) | (with_reducible refine Kd.C_drewN ?_ _) | (with_reducible refine Kd.C_drew ?_)))
  (case aB => exact (bl1 HB GE338))
  (case aF => exact (fun k_ hk => ⟨Kd.fresh' (Kd.R_lt (rk HO_4)) k_ hk, Kd.fresh' (Kd.R_lt (rk HO355)) k_ hk⟩))
  (case aO => exact (by (with_reducible repeat (first | apply Kd.R_alloc | apply Kd.R_drewN | apply Kd.R_drew)); exact Kd.R_mono HO351.out (fun _ hk => ⟨hk.2, hk.1⟩)))
  (case aS => exact (below_size (bl1 HB GE338)))
  (case aL => have := LMc25.out; omega)
  intro v357 w34 ho hb hg hat
  have HS0_ := cell_grown hg (hHeld) (by intro e_; (try simp only [add_block] at e_); have h_ := HO351.out.1 _ e_.symm; first | exact h_ rfl | exact h_.1 rfl | exact h_.2 rfl | exact h_.2.1 rfl | exact h_.2.2 rfl | exact h_.1.1 rfl | exact h_.1.2 rfl)
  rw [← Ny356.out] at ho
  have n0_ := Aside0.mk (Kd.R_after (ok := (fun k_ => some k_ ≠ (.slice Ao35 y353.length co35 : Value).ownBlock)) (by (with_reducible repeat (first | apply Kd.R_alloc | apply Kd.R_drewN | apply Kd.R_drew)); exact Kd.R_mono HO_4.out (fun _ hk => ⟨hk.2, hk.1⟩)) hg hat)
  have n1_ := Aside0.mk (Kd.R_over' (rk HO_339001) (Kd.R_typed (rk HO351)) (by decide) hg)
  have n2_ := Aside0.mk (blk_grown (bk BK338) hg (Kd.R_ne HO351.out BK338.out (by decide)))
  have n3_ := Aside0.mk (Kd.R_after (ok := (fun k_ => some k_ ≠ (.slice (some ad352) t335.length co10 : Value).ownBlock)) (by (with_reducible repeat (first | apply Kd.R_alloc | apply Kd.R_drewN | apply Kd.R_drew)); exact Kd.R_mono HO355.out (fun _ hk => ⟨hk.2, hk.1⟩)) hg hat)
  have n4_ := Aside0.mk (hb)
  have n5_ := Aside0.mk (ho)
  clear HO_4
  clear HO_339001
  clear BK338
  clear HO355
  clear HB
  clear HO351
  have HO_4 := n0_
  have HO_339001 := n1_
  have BK338 := n2_
  have HO355 := n3_
  have HB := n4_
  have HO358 := n5_
  clear n0_ n1_ n2_ n3_ n4_ n5_
  clear ho hb hg hat
  refine hK.out _ _ (HS0_) (fun hHeld => ?_)
  clear hK K
  refine norm_ (a' := ?_) ?_ ?_
  rotate_left
  ·show Act.put _ (some 43) _ = _
   simp only [Act.put, sA, sB, sC, i64_w, i32_w]
   rfl
  refine pure_ (i := 9) (N := some 6) (v := ?_) (a' := ?_) (ms 10 1023) rfl rfl (any_of HT_.out (by kernel_rfl)) (fun _ _ _ h => h) (Or.inl ⟨by rfl, ?_⟩) ?_ ?_
  rotate_left
  ·intro w'
   go_simp
   with_reducible rfl
  rotate_left
  ·simp only [Act.put, sA, sB, sC, i64_w, i32_w]
   rfl
  refine done_ (done_of HT_.out (by kernel_rfl)) ?_
  try go_wp2
  go_loopg [7, 8] kj4 (fun kq v7 v8 w' => ∃ (x7_2 : Int) (x8_2 : Int), v7 = .int .i64 x7_2 ∧ v8 = .int .i64 x8_2 ∧ Aside0 (laws_FnTourCost.l0 kq t335 t339 y356 x7_2 x8_2 t331 t332 = some r) ∧ Aside0 (kq ≤ kj4) ∧ Aside0 (Kd.R (Kd.int .i64) 3 w' w.heap.size (fun k_ => some k_ ≠ (v357 : Value).ownBlock) (.slice (some ad352) t335.length co10) t335) ∧ Aside0 (Kd.R (Kd.int .i64) 3 w' w.heap.size (fun k_ => some k_ ≠ ((.slice (some ad352) t335.length co10) : Value).ownBlock) v357 y356) ∧ Aside0 (Kd.R k41 41 w' w.heap.size (fun _ => True) (.slice Ao9 t332.length co9) t332) ∧ Aside0 (w'.heap[gb338]? = some (.cells #[.int .i64 t331, (.slice Ao9 t332.length co9)] 25 (0, 0))) ∧ Aside0 (Below w.heap.size w w'))
  case atStart => exact ⟨(0), (0), (by first | rfl | (simp; done) | (simp [*]; done)), (by first | rfl | (simp; done) | (simp [*]; done)), H', ⟨Nat.le_refl _⟩, ⟨by (with_reducible repeat (first | apply Kd.R_alloc | apply Kd.R_drewN | apply Kd.R_drew)); exact Kd.R_mono HO_4.out (fun _ hk => hk.2)⟩, ⟨by (with_reducible repeat (first | apply Kd.R_alloc | apply Kd.R_drewN | apply Kd.R_drew)); exact Kd.R_mono HO358.out (fun _ hk => hk.1)⟩, ⟨rk HO_339001⟩, ⟨bk BK338⟩, ⟨bl1 HB GE338⟩⟩
  clear H'
  try clear c1
  try clear c2
  try clear c2b0
  try clear c2b1
  try clear p2
  try clear q2
  try clear c3
  try clear p3
  try clear q3
  try clear hx3
  try clear qi3
  try clear c13
  try clear c13b0
  try clear c13b1
  try clear c15
  try clear c16
  try clear c17
  try clear c18
  try clear c22
  try clear c22b0
  try clear c22b1
  try clear c23
  try clear c24
  try clear c24b0
  try clear c24b1
  try clear c25
  try clear c27
  try clear q27
  try clear p35
  try clear q35
  try clear hx35
  try clear qi35
  try clear hcz14_0
  try clear hcz14_1
  try clear hcz16_0
  try clear hcz16_1
  try clear hcz20_0
  try clear hcz20_1
  try clear hcz8_0
  try clear hcz8_1
  try clear hfz14_0
  try clear hfz14_1
  try clear hfz16_0
  try clear hfz16_1
  try clear hfz20_0
  try clear hfz20_1
  try clear hfz8_0
  try clear hfz8_1
  try clear hx352_0
  try clear p2
  try clear p352
  try clear q27
  try clear q352
  obtain ⟨x7_2, x8_2, rfl, rfl, HA, HK2, HO_4, HO_6, HO_339001, BK338, HB⟩ := hrel
  cases gk with
  | zero => exact absurd HA.out (by simp [laws_FnTourCost.l0])
  | succ k2 =>
   have H := HA.out
   clear HA
   simp only [laws_FnTourCost.l0] at H
   by_cases c36 : x8_2 < (t335.length : Int)
   rotate_left
   ·rw [if_neg c36] at H
    have c36b0 : decide (x8_2 < (t335.length : Int)) = false := decide_eq_false c36
    clear c36
    replace H := Option.bind_eq_some_iff.mp H
    obtain ⟨t359, A560, H⟩ := H
    have A56 := Aside0.mk A560
    clear A560
    by_cases c57 : t359 = t339
    rotate_left
    ·rw [if_neg c57] at H
     have c57b0 : (t359 == t339) = false := beq_eq_false_iff_ne.mpr c57
     have c57b1 : (t359 != t339) = true := bne_iff_ne.mpr c57
     exact absurd ((Option.some.inj H).trans hr_) Bool.false_ne_true
    rw [if_pos c57] at H
    have c57b0 : (t359 == t339) = true := beq_iff_eq.mpr c57
    have c57b1 : (t359 != t339) = false := bne_eq_false_iff_eq.mpr c57
    clear c57
    by_cases c58 : x7_2 = t339
    ·rw [if_pos c58] at H
     have c58b0 : (x7_2 == t339) = true := beq_iff_eq.mpr c58
     have c58b1 : (x7_2 != t339) = false := bne_eq_false_iff_eq.mpr c58
     clear c58
     obtain rfl := Option.some.inj H
     have hcz59_0 : wr.cell? ⟨gb338, 0, none⟩ = some (.int .i64 t331) := (blk_cell BK338.out 0).trans rfl
     have hcz59_1 : wr.cell? ⟨gb338, 1, none⟩ = some (.slice Ao9 t332.length co9) := (blk_cell BK338.out 1).trans rfl
     have hfz59_0 := blk_frozen BK338.out 0
     have hfz59_1 := blk_frozen BK338.out 1
     obtain ⟨Ao60, co60, eo60⟩ := Kd.R_slice HO_6.out
     subst eo60
     go_wp2_with (first | ((with_reducible refine gate_callee (f := 16) rfl ?_); refine goesL_ (some 75) rfl rfl Try.func16 (by kernel_rfl) rfl #[.agg #[.int .i64 t331, .slice Ao9 t332.length co9], .slice Ao60 y356.length co60] rfl (by (try simp only [List.map_toArray, List.map_cons, List.map_nil]); first | done | rfl | (simp only [List.length_drop, List.length_take]; rfl)) ?_; (with_reducible refine (impl_TourCost.calls k2 t331 _ _ t332 _ _ y356 t359 _ ?side1 ?side2 ?side3 ?side4 A56.out).mono ?_); (case side1 => repeat (first | exact (Kd.R_reads' HO_339001.out).2.2 | (with_reducible refine Kd.C_alloc ?_ _) | (with_reducible refine Kd.C_drewN ?_ _) | (with_reducible refine Kd.C_drew ?_))); (case side2 => exact (Kd.R_reads' HO_339001.out).2.1); (case side3 => repeat (first | exact (Kd.R_reads' HO_6.out).2.2 | (with_reducible refine Kd.C_alloc ?_ _) | (with_reducible refine Kd.C_drewN ?_ _) | (with_reducible refine Kd.C_drew ?_))); (case side4 => exact (Kd.R_reads' HO_6.out).2.1); rintro e w61 ⟨rfl, hb⟩; refine ⟨_, rfl, ?_⟩; replace HO_4 := Aside0.mk (Kd.R_below (rk HO_4) hb); replace HO_6 := Aside0.mk (Kd.R_below (rk HO_6) hb); replace HO_339001 := Aside0.mk (Kd.R_below (rk HO_339001) hb); replace BK338 := Aside0.mk (blk_below (bk BK338) hb); replace HB := Aside0.mk (below_step (bl1 HB GE338) hb); (try clear hb); (try clear hb2); (try clear hk); (try clear hi)))
     go_ret
     exact ⟨by first | rfl | (simp [errW_none, errW_some] <;> rfl) | (simp [*, errW_none, errW_some] <;> rfl), bl1 HB GE338⟩
    rw [if_neg c58] at H
    have c58b0 : (x7_2 == t339) = false := beq_eq_false_iff_ne.mpr c58
    have c58b1 : (x7_2 != t339) = true := bne_iff_ne.mpr c58
    by_cases c62 : x7_2 ≥ 99999
    rotate_left
    ·rw [if_neg c62] at H
     have c62b0 : decide (99999 ≤ x7_2) = false := decide_eq_false c62
     clear c62
     exact absurd ((Option.some.inj H).trans hr_) Bool.false_ne_true
    rw [if_pos c62] at H
    have c62b0 : decide (99999 ≤ x7_2) = true := decide_eq_true c62
    clear c62
    obtain rfl := Option.some.inj H
    have hcz63_0 : wr.cell? ⟨gb338, 0, none⟩ = some (.int .i64 t331) := (blk_cell BK338.out 0).trans rfl
    have hcz63_1 : wr.cell? ⟨gb338, 1, none⟩ = some (.slice Ao9 t332.length co9) := (blk_cell BK338.out 1).trans rfl
    have hfz63_0 := blk_frozen BK338.out 0
    have hfz63_1 := blk_frozen BK338.out 1
    obtain ⟨Ao64, co64, eo64⟩ := Kd.R_slice HO_6.out
    subst eo64
    go_wp2_with (first | ((with_reducible refine gate_callee (f := 16) rfl ?_); refine goesL_ (some 75) rfl rfl Try.func16 (by kernel_rfl) rfl #[.agg #[.int .i64 t331, .slice Ao9 t332.length co9], .slice Ao64 y356.length co64] rfl (by (try simp only [List.map_toArray, List.map_cons, List.map_nil]); first | done | rfl | (simp only [List.length_drop, List.length_take]; rfl)) ?_; (with_reducible refine (impl_TourCost.calls k2 t331 _ _ t332 _ _ y356 t359 _ ?side1 ?side2 ?side3 ?side4 A56.out).mono ?_); (case side1 => repeat (first | exact (Kd.R_reads' HO_339001.out).2.2 | (with_reducible refine Kd.C_alloc ?_ _) | (with_reducible refine Kd.C_drewN ?_ _) | (with_reducible refine Kd.C_drew ?_))); (case side2 => exact (Kd.R_reads' HO_339001.out).2.1); (case side3 => repeat (first | exact (Kd.R_reads' HO_6.out).2.2 | (with_reducible refine Kd.C_alloc ?_ _) | (with_reducible refine Kd.C_drewN ?_ _) | (with_reducible refine Kd.C_drew ?_))); (case side4 => exact (Kd.R_reads' HO_6.out).2.1); rintro e w65 ⟨rfl, hb⟩; refine ⟨_, rfl, ?_⟩; replace HO_4 := Aside0.mk (Kd.R_below (rk HO_4) hb); replace HO_6 := Aside0.mk (Kd.R_below (rk HO_6) hb); replace HO_339001 := Aside0.mk (Kd.R_below (rk HO_339001) hb); replace BK338 := Aside0.mk (blk_below (bk BK338) hb); replace HB := Aside0.mk (below_step (bl1 HB GE338) hb); (try clear hb); (try clear hb2); (try clear hk); (try clear hi)))
    go_ret
    exact ⟨by first | rfl | (simp [errW_none, errW_some] <;> rfl) | (simp [*, errW_none, errW_some] <;> rfl), bl1 HB GE338⟩
   rw [if_pos c36] at H
   have c36b0 : decide (x8_2 < (t335.length : Int)) = true := decide_eq_true c36
   clear c36
   by_cases c37 : 0 ≤ x8_2
   rotate_left
   ·rw [if_neg c37] at H
    exact absurd H (by simp)
   rw [if_pos c37] at H
   have c37b0 : decide (0 ≤ x8_2) = true := decide_eq_true c37
   clear c37
   replace H := Option.bind_eq_some_iff.mp H
   obtain ⟨t361, A380, H⟩ := H
   have A38 := Aside0.mk A380
   clear A380
   by_cases c39 : (t335.length : Int) = 0
   ·rw [if_pos c39] at H
    exact absurd H (by simp)
   rw [if_neg c39] at H
   have c39b0 : ((t335.length : Int) == 0) = false := beq_eq_false_iff_ne.mpr c39
   have c39b1 : ((t335.length : Int) != 0) = true := bne_iff_ne.mpr c39
   have c39b2 : ¬ (t335 = []) := fun h_ => c39 (by rw [h_]; rfl)
   obtain ⟨ji40, hji40⟩ : ∃ j_ : Int, (Int.tmod (wrap64 (x8_2 + 1)) (t335.length : Int)) = j_ := ⟨_, rfl⟩
   replace H : (if 0 ≤ (ji40) then (if (ji40) < (t335.length : Int) then (if 0 ≤ (rd t335 (ji40)) then (if (rd t335 (ji40)) < (t361.length : Int) then (if (rd t361 (rd t335 (ji40))) ≥ 99999 then (laws_FnTourCost.l0 k2 t335 t339 y356 99999 (wrap64 (x8_2 + 1)) t331 t332) else (if x7_2 < 99999 then (laws_FnTourCost.l0 k2 t335 t339 y356 (wrap64 (x7_2 + (rd t361 (rd t335 (ji40))))) (wrap64 (x8_2 + 1)) t331 t332) else (laws_FnTourCost.l0 k2 t335 t339 y356 x7_2 (wrap64 (x8_2 + 1)) t331 t332))) else (none)) else (none)) else (none)) else (none)) = some r := by first | (rw [hji40] at H; exact H) | (simp only [hji40] at H ⊢; exact H)
   (try rw [hji40] at A38)
   by_cases c41 : 0 ≤ (ji40)
   rotate_left
   ·rw [if_neg c41] at H
    exact absurd H (by simp)
   rw [if_pos c41] at H
   have c41b0 : decide (0 ≤ (ji40)) = true := decide_eq_true c41
   clear c41
   by_cases c42 : (ji40) < (t335.length : Int)
   rotate_left
   ·rw [if_neg c42] at H
    exact absurd H (by simp)
   rw [if_pos c42] at H
   have c42b0 : decide ((ji40) < (t335.length : Int)) = true := decide_eq_true c42
   clear c42
   by_cases c43 : 0 ≤ (rd t335 (ji40))
   rotate_left
   ·rw [if_neg c43] at H
    exact absurd H (by simp)
   rw [if_pos c43] at H
   have c43b0 : decide (0 ≤ (rd t335 (ji40))) = true := decide_eq_true c43
   clear c43
   by_cases c44 : (rd t335 (ji40)) < (t361.length : Int)
   rotate_left
   ·rw [if_neg c44] at H
    exact absurd H (by simp)
   rw [if_pos c44] at H
   have c44b0 : decide ((rd t335 (ji40)) < (t361.length : Int)) = true := decide_eq_true c44
   clear c44
   by_cases c45 : (rd t361 (rd t335 (ji40))) ≥ 99999
   ·rw [if_pos c45] at H
    have c45b0 : decide (99999 ≤ (rd t361 (rd t335 (ji40)))) = true := decide_eq_true c45
    clear c45
    have H' := Aside0.mk H
    clear H
    try go_wp2
    replace HO_4 := Aside0.mk (Kd.R_drew HO_4.out)
    replace HO_6 := Aside0.mk (Kd.R_drew HO_6.out)
    replace HO_339001 := Aside0.mk (Kd.R_drew HO_339001.out)
    replace BK338 := Aside0.mk (blk_drew BK338.out)
    replace HB := Aside0.mk (below_drew1 HB.out)
    have p360 : 0 ≤ (x8_2 : Int) := oT (by first | (with_reducible assumption) | assumption)
    have q360 : x8_2 < (t335.length : Int) := oT (by first | (with_reducible assumption) | assumption)
    obtain ⟨ad360, e360, hx360_0⟩ := Kd.at_int (Kd.R_reads' HO_4.out).2.2 x8_2 p360 q360
    obtain rfl : ad352 = ad360 := (by injection e360)
    replace p360 := eq_true p360
    replace q360 := eq_true q360
    have p364 : 0 ≤ ((ji40) : Int) := oT (by first | (with_reducible assumption) | assumption)
    have q364 : (ji40) < (t335.length : Int) := oT (by first | (with_reducible assumption) | assumption)
    obtain ⟨ad364, e364, hx364_0⟩ := Kd.at_int (Kd.R_reads' HO_4.out).2.2 (ji40) p364 q364
    obtain rfl : ad352 = ad364 := (by injection e364)
    replace p364 := eq_true p364
    replace q364 := eq_true q364
    refine start_ (n := 17) (S := fun w' => w'.cell? ⟨gb338, 0, none⟩ = some (.int .i64 t331) ∧ w'.cell? ⟨gb338, 1, none⟩ = some (.slice Ao9 t332.length co9) ∧ w'.cell? (ad352.add (x8_2).toNat) = some (.int .i64 (rd t335 x8_2)) ∧ w'.cell? (ad352.add ((ji40)).toNat) = some (.int .i64 (rd t335 (ji40)))) (ds := []) (ms 17 0) (by kernel_rfl) rfl (by kernel_rfl) ⟨(blk_cell BK338.out 0).trans rfl, (blk_cell BK338.out 1).trans rfl, hx360_0, hx364_0⟩ (fun hHeld => ?_); refine with_tabW laws_FnTourCost.tab12 laws_FnTourCost.bits12 (fun HT_ HW_ => ?_)
    generalize wr.drew = w46 at HO_4 HO_6 HO_339001 BK338 HB hx360_0 hx364_0 hHeld ⊢
    refine pure_ (i := 1) (N := some 51) (v := ?_) (a' := ?_) (ms 17 2) rfl rfl (any_of HT_.out (by kernel_rfl)) (fun _ _ _ h => h) (Or.inl ⟨by rfl, ?_⟩) ?_ ?_
    rotate_left
    ·intro w'
     go_simp
     with_reducible rfl
    rotate_left
    ·simp only [Act.put, sA, sB, sC, i64_w, i32_w]
     rfl
    refine pure_ (i := 2) (N := some 52) (v := ?_) (a' := ?_) (ms 17 6) rfl rfl (any_of HT_.out (by kernel_rfl)) (fun _ _ _ h => h) (Or.inl ⟨by rfl, ?_⟩) ?_ ?_
    rotate_left
    ·intro w'
     go_simp
     with_reducible rfl
    rotate_left
    ·simp only [Act.put, sA, sB, sC, i64_w, i32_w]
     rfl
    refine pure_ (i := 3) (N := some 53) (v := ?_) (a' := ?_) (ms 17 14) rfl rfl (any_of HT_.out (by kernel_rfl)) (fun _ _ _ h => h) (Or.inl ⟨by rfl, ?_⟩) ?_ ?_
    rotate_left
    ·intro w'
     go_simp
     with_reducible rfl
    rotate_left
    ·simp only [Act.put, sA, sB, sC, i64_w, i32_w]
     rfl
    refine pure_ (i := 6) (N := some 56) (v := ?_) (a' := ?_) (ms 17 78) rfl rfl (any_of HT_.out (by kernel_rfl)) (fun _ _ _ h => h) (Or.inl ⟨by rfl, ?_⟩) ?_ ?_
    rotate_left
    ·intro w'
     go_simp
     with_reducible rfl
    rotate_left
    ·simp only [Act.put, sA, sB, sC, i64_w, i32_w]
     rfl
    refine pure_ (i := 7) (N := some 57) (v := ?_) (a' := ?_) (ms 17 206) rfl rfl (any_of HT_.out (by kernel_rfl)) (fun _ _ _ h => h) (Or.inl ⟨by rfl, ?_⟩) ?_ ?_
    rotate_left
    ·intro w'
     go_simp
     with_reducible rfl
    rotate_left
    ·simp only [Act.put, sA, sB, sC, i64_w, i32_w]
     rfl
    refine pure_ (i := 8) (N := some 58) (v := ?_) (a' := ?_) (ms 17 462) rfl rfl (any_of HT_.out (by kernel_rfl)) (fun _ _ _ h => h) (Or.inl ⟨by rfl, ?_⟩) ?_ ?_
    rotate_left
    ·intro w'
     go_simp
     with_reducible rfl
    rotate_left
    ·simp only [Act.put, sA, sB, sC, i64_w, i32_w]
     rfl
    refine pure_ (i := 9) (N := some 59) (v := ?_) (a' := ?_) (ms 17 974) rfl rfl (any_of HT_.out (by kernel_rfl)) (fun _ _ _ h => h) (Or.inl ⟨by rfl, ?_⟩) ?_ ?_
    rotate_left
    ·intro w'
     go_simp
     with_reducible rfl
    rotate_left
    ·simp only [Act.put, sA, sB, sC, i64_w, i32_w]
     rfl
    refine pure_ (i := 10) (N := some 60) (v := ?_) (a' := ?_) (ms 17 1998) rfl rfl (any_of HT_.out (by kernel_rfl)) (fun _ _ _ h => h) (Or.inl ⟨by rfl, ?_⟩) ?_ ?_
    rotate_left
    ·intro w'
     go_simp
     with_reducible rfl
    rotate_left
    ·simp only [Act.put, sA, sB, sC, i64_w, i32_w]
     rfl
    refine pure_ (i := 11) (N := some 61) (v := ?_) (a' := ?_) (ms 17 4046) rfl rfl (any_of HT_.out (by kernel_rfl)) (fun _ _ _ h => h) (Or.inl ⟨by rfl, ?_⟩) ?_ ?_
    rotate_left
    ·intro w'
     go_simp
     with_reducible rfl
    rotate_left
    ·simp only [Act.put, sA, sB, sC, i64_w, i32_w]
     rfl
    refine pure_ (i := 12) (N := some 62) (v := ?_) (a' := ?_) (ms 17 8142) rfl rfl (any_of HT_.out (by kernel_rfl)) (fun _ _ _ h => h) (Or.inl ⟨by rfl, ?_⟩) ?_ ?_
    rotate_left
    ·intro w'
     go_simp
     with_reducible rfl
    rotate_left
    ·simp only [Act.put, sA, sB, sC, i64_w, i32_w]
     rfl
    refine take_ (i := 0) (N := some 50) (v := ?_) (a' := ?_) (ms 17 8143) rfl rfl (take_ofW HT_.out HW_.out (by kernel_rfl)) (fun _ _ _ h => h) (Or.inl ⟨by rfl, ?_⟩) hHeld ?_ ?_
    rotate_left
    ·rintro w' ⟨s0, s1, s2, s3⟩
     go_simp
     with_reducible rfl
    rotate_left
    ·simp only [Act.put, sA, sB, sC, i64_w, i32_w]
     rfl
    refine take_ (i := 4) (N := some 54) (v := ?_) (a' := ?_) (ms 17 8159) rfl rfl (take_ofW HT_.out HW_.out (by kernel_rfl)) (fun _ _ _ h => h) (Or.inl ⟨by rfl, ?_⟩) hHeld ?_ ?_
    rotate_left
    ·rintro w' ⟨s0, s1, s2, s3⟩
     go_simp
     with_reducible rfl
    rotate_left
    ·simp only [Act.put, sA, sB, sC, i64_w, i32_w]
     rfl
    refine take_ (i := 13) (N := some 63) (v := ?_) (a' := ?_) (ms 17 16351) rfl rfl (take_ofW HT_.out HW_.out (by kernel_rfl)) (fun _ _ _ h => h) (Or.inl ⟨by rfl, ?_⟩) hHeld ?_ ?_
    rotate_left
    ·rintro w' ⟨s0, s1, s2, s3⟩
     go_simp
     with_reducible rfl
    rotate_left
    ·simp only [Act.put, sA, sB, sC, i64_w, i32_w]
     rfl
    refine one_ (i := 5) (N := some 55) (ms 17 16383) rfl rfl (one_of HT_.out (by kernel_rfl)) (by decide) (fun K hK => ?_)
    refine goes_ Try.func18 (by kernel_rfl) rfl #[.agg #[.int .i64 t331, .slice Ao9 t332.length co9], .int .i64 (rd t335 x8_2)] (by rfl) rfl rfl (by (try simp only [List.map_toArray, List.map_cons, List.map_nil]); first | done | rfl | (simp only [List.length_drop, List.length_take]; rfl)) ?_
    with_reducible refine (impl_NearAll.calls k2 t331 _ _ t332 (rd t335 x8_2) t361 _ ?side1 ?side2 A38.out).mono ?_
    (case side1 => repeat (first | exact (Kd.R_reads' HO_339001.out).2.2 | (with_reducible refine Kd.C_alloc ?_ _) | (with_reducible refine Kd.C_drewN ?_ _) | (with_reducible refine Kd.C_drew ?_)))
    (case side2 => exact (Kd.R_reads' HO_339001.out).2.1)
    rintro e w47 ⟨v362, rfl, ho0, hb⟩
    have HS2_ := (hb.cell (World.block_lt_of_cell? _ _ (hHeld.2.2.1))).trans (hHeld.2.2.1)
    have HS3_ := (hb.cell (World.block_lt_of_cell? _ _ (hHeld.2.2.2))).trans (hHeld.2.2.2)
    refine ⟨_, rfl, ?_⟩
    replace HO_339001 := Aside0.mk (Kd.R_below (rk HO_339001) hb)
    have HO363 := Aside0.mk (Kd.R_lower (Kd.R_new' (Kd.R_new' ho0 (Kd.R_lt (rk HO_4))) (Kd.R_lt (rk HO_6))) (below_size (bl1 HB GE338)))
    replace HO_4 := Aside0.mk (Kd.R_elder' (rk HO_4) (Kd.R_base ho0) hb)
    replace HO_6 := Aside0.mk (Kd.R_elder' (rk HO_6) (Kd.R_base ho0) hb)
    replace BK338 := Aside0.mk (blk_below (bk BK338) hb)
    replace HB := Aside0.mk (below_step (bl1 HB GE338) hb)
    (try clear hb)
    (try clear hb2)
    (try clear hk)
    (try clear hi)
    (try clear ho0)
    obtain ⟨Ao48, co48, eo48⟩ := Kd.R_slice HO363.out
    (first | subst eo48 | (injection eo48 with f1_ f2_ f3_; have f4_ := f1_.symm; have f5_ := f3_.symm; clear f1_ f2_ f3_; subst f4_; subst f5_))
    have p365 : 0 ≤ ((rd t335 (ji40)) : Int) := oT (by first | (with_reducible assumption) | assumption)
    have q365 : (rd t335 (ji40)) < (t361.length : Int) := oT (by first | (with_reducible assumption) | assumption)
    obtain ⟨ad365, e365, hx365_0⟩ := Kd.at_int (Kd.R_reads' HO363.out).2.2 (rd t335 (ji40)) p365 q365
    cases e365
    replace p365 := eq_true p365
    replace q365 := eq_true q365
    refine hK.out _ _ ⟨(blk_cell BK338.out 0).trans rfl, (blk_cell BK338.out 1).trans rfl, HS2_, HS3_⟩ (fun hHeld => ?_)
    refine laws_FnTourCost.restart (S' := fun w' => w'.cell? ⟨gb338, 0, none⟩ = some (.int .i64 t331) ∧ w'.cell? ⟨gb338, 1, none⟩ = some (.slice Ao9 t332.length co9) ∧ w'.cell? (ad352.add (x8_2).toNat) = some (.int .i64 (rd t335 x8_2)) ∧ w'.cell? (ad352.add ((ji40)).toNat) = some (.int .i64 (rd t335 (ji40))) ∧ w'.cell? (ad365.add ((rd t335 (ji40))).toNat) = some (.int .i64 (rd t361 (rd t335 (ji40))))) (fun w' h_ => ⟨h_.1, h_.2.1, h_.2.2.1, h_.2.2.2.1⟩) ⟨hHeld.1, hHeld.2.1, hHeld.2.2.1, hHeld.2.2.2, hx365_0⟩ (fun hHeld => ?_)
    clear hK K
    refine norm_ (a' := ?_) ?_ ?_
    rotate_left
    ·show Act.put _ (some 55) _ = _
     simp only [Act.put, sA, sB, sC, i64_w, i32_w]
     rfl
    refine pure_ (i := 14) (N := some 64) (v := ?_) (a' := ?_) (ms 17 32767) rfl rfl (any_of HT_.out (by kernel_rfl)) (fun _ _ _ h => h) (Or.inl ⟨by rfl, ?_⟩) ?_ ?_
    rotate_left
    ·intro w'
     go_simp
     with_reducible rfl
    rotate_left
    ·simp only [Act.put, sA, sB, sC, i64_w, i32_w]
     rfl
    refine take_ (i := 15) (N := some 65) (v := ?_) (a' := ?_) (ms 17 65535) rfl rfl (take_ofW HT_.out HW_.out (by kernel_rfl)) (fun _ _ _ h => h) (Or.inl ⟨by rfl, ?_⟩) hHeld ?_ ?_
    rotate_left
    ·rintro w' ⟨s0, s1, s2, s3, s4⟩
     go_simp
     with_reducible rfl
    rotate_left
    ·simp only [Act.put, sA, sB, sC, i64_w, i32_w]
     rfl
    refine pure_ (i := 16) (N := some 9) (v := ?_) (a' := ?_) (ms 17 131071) rfl rfl (any_of HT_.out (by kernel_rfl)) (fun _ _ _ h => h) (Or.inl ⟨by rfl, ?_⟩) ?_ ?_
    rotate_left
    ·intro w'
     go_simp
     with_reducible rfl
    rotate_left
    ·simp only [Act.put, sA, sB, sC, i64_w, i32_w]
     rfl
    refine done_ (done_of HT_.out (by kernel_rfl)) ?_
    try go_wp2
    go_roundg k2
    case measure => have := HJ4.out; have := HK2.out; omega
    case rel => exact ⟨(99999), (wrap64 (x8_2 + 1)), (by first | rfl | (simp; done) | (simp [*]; done)), (by first | rfl | (simp; done) | (simp [*]; done)), H', ⟨by have := HJ4.out; have := HK2.out; omega⟩, ⟨by (with_reducible repeat (first | apply Kd.R_alloc | apply Kd.R_drewN | apply Kd.R_drew)); exact Kd.R_mono HO_4.out (fun _ hk => hk.1)⟩, ⟨by (with_reducible repeat (first | apply Kd.R_alloc | apply Kd.R_drewN | apply Kd.R_drew)); exact Kd.R_mono HO_6.out (fun _ hk => hk.1)⟩, ⟨rk HO_339001⟩, ⟨bk BK338⟩, ⟨bl1 HB GE338⟩⟩
   rw [if_neg c45] at H
   have c45b0 : decide (99999 ≤ (rd t361 (rd t335 (ji40)))) = false := decide_eq_false c45
   clear c45
   by_cases c49 : x7_2 < 99999
   rotate_left
   ·rw [if_neg c49] at H
    have c49b0 : decide (x7_2 < 99999) = false := decide_eq_false c49
    clear c49
    have H' := Aside0.mk H
    clear H
    try go_wp2
    replace HO_4 := Aside0.mk (Kd.R_drew HO_4.out)
    replace HO_6 := Aside0.mk (Kd.R_drew HO_6.out)
    replace HO_339001 := Aside0.mk (Kd.R_drew HO_339001.out)
    replace BK338 := Aside0.mk (blk_drew BK338.out)
    replace HB := Aside0.mk (below_drew1 HB.out)
    have p360 : 0 ≤ (x8_2 : Int) := oT (by first | (with_reducible assumption) | assumption)
    have q360 : x8_2 < (t335.length : Int) := oT (by first | (with_reducible assumption) | assumption)
    obtain ⟨ad360, e360, hx360_0⟩ := Kd.at_int (Kd.R_reads' HO_4.out).2.2 x8_2 p360 q360
    obtain rfl : ad352 = ad360 := (by injection e360)
    replace p360 := eq_true p360
    replace q360 := eq_true q360
    have p364 : 0 ≤ ((ji40) : Int) := oT (by first | (with_reducible assumption) | assumption)
    have q364 : (ji40) < (t335.length : Int) := oT (by first | (with_reducible assumption) | assumption)
    obtain ⟨ad364, e364, hx364_0⟩ := Kd.at_int (Kd.R_reads' HO_4.out).2.2 (ji40) p364 q364
    obtain rfl : ad352 = ad364 := (by injection e364)
    replace p364 := eq_true p364
    replace q364 := eq_true q364
    refine start_ (n := 17) (S := fun w' => w'.cell? ⟨gb338, 0, none⟩ = some (.int .i64 t331) ∧ w'.cell? ⟨gb338, 1, none⟩ = some (.slice Ao9 t332.length co9) ∧ w'.cell? (ad352.add (x8_2).toNat) = some (.int .i64 (rd t335 x8_2)) ∧ w'.cell? (ad352.add ((ji40)).toNat) = some (.int .i64 (rd t335 (ji40)))) (ds := []) (ms 17 0) (by kernel_rfl) rfl (by kernel_rfl) ⟨(blk_cell BK338.out 0).trans rfl, (blk_cell BK338.out 1).trans rfl, hx360_0, hx364_0⟩ (fun hHeld => ?_); refine with_tabW laws_FnTourCost.tab12 laws_FnTourCost.bits12 (fun HT_ HW_ => ?_)
    generalize wr.drew = w53 at HO_4 HO_6 HO_339001 BK338 HB hx360_0 hx364_0 hHeld ⊢
    refine pure_ (i := 1) (N := some 51) (v := ?_) (a' := ?_) (ms 17 2) rfl rfl (any_of HT_.out (by kernel_rfl)) (fun _ _ _ h => h) (Or.inl ⟨by rfl, ?_⟩) ?_ ?_
    rotate_left
    ·intro w'
     go_simp
     with_reducible rfl
    rotate_left
    ·simp only [Act.put, sA, sB, sC, i64_w, i32_w]
     rfl
    refine pure_ (i := 2) (N := some 52) (v := ?_) (a' := ?_) (ms 17 6) rfl rfl (any_of HT_.out (by kernel_rfl)) (fun _ _ _ h => h) (Or.inl ⟨by rfl, ?_⟩) ?_ ?_
    rotate_left
    ·intro w'
     go_simp
     with_reducible rfl
    rotate_left
    ·simp only [Act.put, sA, sB, sC, i64_w, i32_w]
     rfl
    refine pure_ (i := 3) (N := some 53) (v := ?_) (a' := ?_) (ms 17 14) rfl rfl (any_of HT_.out (by kernel_rfl)) (fun _ _ _ h => h) (Or.inl ⟨by rfl, ?_⟩) ?_ ?_
    rotate_left
    ·intro w'
     go_simp
     with_reducible rfl
    rotate_left
    ·simp only [Act.put, sA, sB, sC, i64_w, i32_w]
     rfl
    refine pure_ (i := 6) (N := some 56) (v := ?_) (a' := ?_) (ms 17 78) rfl rfl (any_of HT_.out (by kernel_rfl)) (fun _ _ _ h => h) (Or.inl ⟨by rfl, ?_⟩) ?_ ?_
    rotate_left
    ·intro w'
     go_simp
     with_reducible rfl
    rotate_left
    ·simp only [Act.put, sA, sB, sC, i64_w, i32_w]
     rfl
    refine pure_ (i := 7) (N := some 57) (v := ?_) (a' := ?_) (ms 17 206) rfl rfl (any_of HT_.out (by kernel_rfl)) (fun _ _ _ h => h) (Or.inl ⟨by rfl, ?_⟩) ?_ ?_
    rotate_left
    ·intro w'
     go_simp
     with_reducible rfl
    rotate_left
    ·simp only [Act.put, sA, sB, sC, i64_w, i32_w]
     rfl
    refine pure_ (i := 8) (N := some 58) (v := ?_) (a' := ?_) (ms 17 462) rfl rfl (any_of HT_.out (by kernel_rfl)) (fun _ _ _ h => h) (Or.inl ⟨by rfl, ?_⟩) ?_ ?_
    rotate_left
    ·intro w'
     go_simp
     with_reducible rfl
    rotate_left
    ·simp only [Act.put, sA, sB, sC, i64_w, i32_w]
     rfl
    refine pure_ (i := 9) (N := some 59) (v := ?_) (a' := ?_) (ms 17 974) rfl rfl (any_of HT_.out (by kernel_rfl)) (fun _ _ _ h => h) (Or.inl ⟨by rfl, ?_⟩) ?_ ?_
    rotate_left
    ·intro w'
     go_simp
     with_reducible rfl
    rotate_left
    ·simp only [Act.put, sA, sB, sC, i64_w, i32_w]
     rfl
    refine pure_ (i := 10) (N := some 60) (v := ?_) (a' := ?_) (ms 17 1998) rfl rfl (any_of HT_.out (by kernel_rfl)) (fun _ _ _ h => h) (Or.inl ⟨by rfl, ?_⟩) ?_ ?_
    rotate_left
    ·intro w'
     go_simp
     with_reducible rfl
    rotate_left
    ·simp only [Act.put, sA, sB, sC, i64_w, i32_w]
     rfl
    refine pure_ (i := 11) (N := some 61) (v := ?_) (a' := ?_) (ms 17 4046) rfl rfl (any_of HT_.out (by kernel_rfl)) (fun _ _ _ h => h) (Or.inl ⟨by rfl, ?_⟩) ?_ ?_
    rotate_left
    ·intro w'
     go_simp
     with_reducible rfl
    rotate_left
    ·simp only [Act.put, sA, sB, sC, i64_w, i32_w]
     rfl
    refine pure_ (i := 12) (N := some 62) (v := ?_) (a' := ?_) (ms 17 8142) rfl rfl (any_of HT_.out (by kernel_rfl)) (fun _ _ _ h => h) (Or.inl ⟨by rfl, ?_⟩) ?_ ?_
    rotate_left
    ·intro w'
     go_simp
     with_reducible rfl
    rotate_left
    ·simp only [Act.put, sA, sB, sC, i64_w, i32_w]
     rfl
    refine take_ (i := 0) (N := some 50) (v := ?_) (a' := ?_) (ms 17 8143) rfl rfl (take_ofW HT_.out HW_.out (by kernel_rfl)) (fun _ _ _ h => h) (Or.inl ⟨by rfl, ?_⟩) hHeld ?_ ?_
    rotate_left
    ·rintro w' ⟨s0, s1, s2, s3⟩
     go_simp
     with_reducible rfl
    rotate_left
    ·simp only [Act.put, sA, sB, sC, i64_w, i32_w]
     rfl
    refine take_ (i := 4) (N := some 54) (v := ?_) (a' := ?_) (ms 17 8159) rfl rfl (take_ofW HT_.out HW_.out (by kernel_rfl)) (fun _ _ _ h => h) (Or.inl ⟨by rfl, ?_⟩) hHeld ?_ ?_
    rotate_left
    ·rintro w' ⟨s0, s1, s2, s3⟩
     go_simp
     with_reducible rfl
    rotate_left
    ·simp only [Act.put, sA, sB, sC, i64_w, i32_w]
     rfl
    refine take_ (i := 13) (N := some 63) (v := ?_) (a' := ?_) (ms 17 16351) rfl rfl (take_ofW HT_.out HW_.out (by kernel_rfl)) (fun _ _ _ h => h) (Or.inl ⟨by rfl, ?_⟩) hHeld ?_ ?_
    rotate_left
    ·rintro w' ⟨s0, s1, s2, s3⟩
     go_simp
     with_reducible rfl
    rotate_left
    ·simp only [Act.put, sA, sB, sC, i64_w, i32_w]
     rfl
    refine one_ (i := 5) (N := some 55) (ms 17 16383) rfl rfl (one_of HT_.out (by kernel_rfl)) (by decide) (fun K hK => ?_)
    refine goes_ Try.func18 (by kernel_rfl) rfl #[.agg #[.int .i64 t331, .slice Ao9 t332.length co9], .int .i64 (rd t335 x8_2)] (by rfl) rfl rfl (by (try simp only [List.map_toArray, List.map_cons, List.map_nil]); first | done | rfl | (simp only [List.length_drop, List.length_take]; rfl)) ?_
    with_reducible refine (impl_NearAll.calls k2 t331 _ _ t332 (rd t335 x8_2) t361 _ ?side1 ?side2 A38.out).mono ?_
    (case side1 => repeat (first | exact (Kd.R_reads' HO_339001.out).2.2 | (with_reducible refine Kd.C_alloc ?_ _) | (with_reducible refine Kd.C_drewN ?_ _) | (with_reducible refine Kd.C_drew ?_)))
    (case side2 => exact (Kd.R_reads' HO_339001.out).2.1)
    rintro e w54 ⟨v362, rfl, ho0, hb⟩
    have HS2_ := (hb.cell (World.block_lt_of_cell? _ _ (hHeld.2.2.1))).trans (hHeld.2.2.1)
    have HS3_ := (hb.cell (World.block_lt_of_cell? _ _ (hHeld.2.2.2))).trans (hHeld.2.2.2)
    refine ⟨_, rfl, ?_⟩
    replace HO_339001 := Aside0.mk (Kd.R_below (rk HO_339001) hb)
    have HO363 := Aside0.mk (Kd.R_lower (Kd.R_new' (Kd.R_new' ho0 (Kd.R_lt (rk HO_4))) (Kd.R_lt (rk HO_6))) (below_size (bl1 HB GE338)))
    replace HO_4 := Aside0.mk (Kd.R_elder' (rk HO_4) (Kd.R_base ho0) hb)
    replace HO_6 := Aside0.mk (Kd.R_elder' (rk HO_6) (Kd.R_base ho0) hb)
    replace BK338 := Aside0.mk (blk_below (bk BK338) hb)
    replace HB := Aside0.mk (below_step (bl1 HB GE338) hb)
    (try clear hb)
    (try clear hb2)
    (try clear hk)
    (try clear hi)
    (try clear ho0)
    obtain ⟨Ao55, co55, eo55⟩ := Kd.R_slice HO363.out
    (first | subst eo55 | (injection eo55 with f1_ f2_ f3_; have f4_ := f1_.symm; have f5_ := f3_.symm; clear f1_ f2_ f3_; subst f4_; subst f5_))
    have p365 : 0 ≤ ((rd t335 (ji40)) : Int) := oT (by first | (with_reducible assumption) | assumption)
    have q365 : (rd t335 (ji40)) < (t361.length : Int) := oT (by first | (with_reducible assumption) | assumption)
    obtain ⟨ad365, e365, hx365_0⟩ := Kd.at_int (Kd.R_reads' HO363.out).2.2 (rd t335 (ji40)) p365 q365
    cases e365
    replace p365 := eq_true p365
    replace q365 := eq_true q365
    refine hK.out _ _ ⟨(blk_cell BK338.out 0).trans rfl, (blk_cell BK338.out 1).trans rfl, HS2_, HS3_⟩ (fun hHeld => ?_)
    refine laws_FnTourCost.restart (S' := fun w' => w'.cell? ⟨gb338, 0, none⟩ = some (.int .i64 t331) ∧ w'.cell? ⟨gb338, 1, none⟩ = some (.slice Ao9 t332.length co9) ∧ w'.cell? (ad352.add (x8_2).toNat) = some (.int .i64 (rd t335 x8_2)) ∧ w'.cell? (ad352.add ((ji40)).toNat) = some (.int .i64 (rd t335 (ji40))) ∧ w'.cell? (ad365.add ((rd t335 (ji40))).toNat) = some (.int .i64 (rd t361 (rd t335 (ji40))))) (fun w' h_ => ⟨h_.1, h_.2.1, h_.2.2.1, h_.2.2.2.1⟩) ⟨hHeld.1, hHeld.2.1, hHeld.2.2.1, hHeld.2.2.2, hx365_0⟩ (fun hHeld => ?_)
    clear hK K
    refine norm_ (a' := ?_) ?_ ?_
    rotate_left
    ·show Act.put _ (some 55) _ = _
     simp only [Act.put, sA, sB, sC, i64_w, i32_w]
     rfl
    refine pure_ (i := 14) (N := some 64) (v := ?_) (a' := ?_) (ms 17 32767) rfl rfl (any_of HT_.out (by kernel_rfl)) (fun _ _ _ h => h) (Or.inl ⟨by rfl, ?_⟩) ?_ ?_
    rotate_left
    ·intro w'
     go_simp
     with_reducible rfl
    rotate_left
    ·simp only [Act.put, sA, sB, sC, i64_w, i32_w]
     rfl
    refine take_ (i := 15) (N := some 65) (v := ?_) (a' := ?_) (ms 17 65535) rfl rfl (take_ofW HT_.out HW_.out (by kernel_rfl)) (fun _ _ _ h => h) (Or.inl ⟨by rfl, ?_⟩) hHeld ?_ ?_
    rotate_left
    ·rintro w' ⟨s0, s1, s2, s3, s4⟩
     go_simp
     with_reducible rfl
    rotate_left
    ·simp only [Act.put, sA, sB, sC, i64_w, i32_w]
     rfl
    refine pure_ (i := 16) (N := some 9) (v := ?_) (a' := ?_) (ms 17 131071) rfl rfl (any_of HT_.out (by kernel_rfl)) (fun _ _ _ h => h) (Or.inl ⟨by rfl, ?_⟩) ?_ ?_
    rotate_left
    ·intro w'
     go_simp
     with_reducible rfl
    rotate_left
    ·simp only [Act.put, sA, sB, sC, i64_w, i32_w]
     rfl
    refine done_ (done_of HT_.out (by kernel_rfl)) ?_
    try go_wp2
    go_roundg k2
    case measure => have := HJ4.out; have := HK2.out; omega
    case rel => exact ⟨(x7_2), (wrap64 (x8_2 + 1)), (by first | rfl | (simp; done) | (simp [*]; done)), (by first | rfl | (simp; done) | (simp [*]; done)), H', ⟨by have := HJ4.out; have := HK2.out; omega⟩, ⟨by (with_reducible repeat (first | apply Kd.R_alloc | apply Kd.R_drewN | apply Kd.R_drew)); exact Kd.R_mono HO_4.out (fun _ hk => hk.1)⟩, ⟨by (with_reducible repeat (first | apply Kd.R_alloc | apply Kd.R_drewN | apply Kd.R_drew)); exact Kd.R_mono HO_6.out (fun _ hk => hk.1)⟩, ⟨rk HO_339001⟩, ⟨bk BK338⟩, ⟨bl1 HB GE338⟩⟩
   rw [if_pos c49] at H
   have c49b0 : decide (x7_2 < 99999) = true := decide_eq_true c49
   clear c49
   have H' := Aside0.mk H
   clear H
   try go_wp2
   replace HO_4 := Aside0.mk (Kd.R_drew HO_4.out)
   replace HO_6 := Aside0.mk (Kd.R_drew HO_6.out)
   replace HO_339001 := Aside0.mk (Kd.R_drew HO_339001.out)
   replace BK338 := Aside0.mk (blk_drew BK338.out)
   replace HB := Aside0.mk (below_drew1 HB.out)
   have p360 : 0 ≤ (x8_2 : Int) := oT (by first | (with_reducible assumption) | assumption)
   have q360 : x8_2 < (t335.length : Int) := oT (by first | (with_reducible assumption) | assumption)
   obtain ⟨ad360, e360, hx360_0⟩ := Kd.at_int (Kd.R_reads' HO_4.out).2.2 x8_2 p360 q360
   obtain rfl : ad352 = ad360 := (by injection e360)
   replace p360 := eq_true p360
   replace q360 := eq_true q360
   have p364 : 0 ≤ ((ji40) : Int) := oT (by first | (with_reducible assumption) | assumption)
   have q364 : (ji40) < (t335.length : Int) := oT (by first | (with_reducible assumption) | assumption)
   obtain ⟨ad364, e364, hx364_0⟩ := Kd.at_int (Kd.R_reads' HO_4.out).2.2 (ji40) p364 q364
   obtain rfl : ad352 = ad364 := (by injection e364)
   replace p364 := eq_true p364
   replace q364 := eq_true q364
   refine start_ (n := 17) (S := fun w' => w'.cell? ⟨gb338, 0, none⟩ = some (.int .i64 t331) ∧ w'.cell? ⟨gb338, 1, none⟩ = some (.slice Ao9 t332.length co9) ∧ w'.cell? (ad352.add (x8_2).toNat) = some (.int .i64 (rd t335 x8_2)) ∧ w'.cell? (ad352.add ((ji40)).toNat) = some (.int .i64 (rd t335 (ji40)))) (ds := []) (ms 17 0) (by kernel_rfl) rfl (by kernel_rfl) ⟨(blk_cell BK338.out 0).trans rfl, (blk_cell BK338.out 1).trans rfl, hx360_0, hx364_0⟩ (fun hHeld => ?_); refine with_tabW laws_FnTourCost.tab12 laws_FnTourCost.bits12 (fun HT_ HW_ => ?_)
   generalize wr.drew = w50 at HO_4 HO_6 HO_339001 BK338 HB hx360_0 hx364_0 hHeld ⊢
   refine pure_ (i := 1) (N := some 51) (v := ?_) (a' := ?_) (ms 17 2) rfl rfl (any_of HT_.out (by kernel_rfl)) (fun _ _ _ h => h) (Or.inl ⟨by rfl, ?_⟩) ?_ ?_
   rotate_left
   ·intro w'
    go_simp
    with_reducible rfl
   rotate_left
   ·simp only [Act.put, sA, sB, sC, i64_w, i32_w]
    rfl
   refine pure_ (i := 2) (N := some 52) (v := ?_) (a' := ?_) (ms 17 6) rfl rfl (any_of HT_.out (by kernel_rfl)) (fun _ _ _ h => h) (Or.inl ⟨by rfl, ?_⟩) ?_ ?_
   rotate_left
   ·intro w'
    go_simp
    with_reducible rfl
   rotate_left
   ·simp only [Act.put, sA, sB, sC, i64_w, i32_w]
    rfl
   refine pure_ (i := 3) (N := some 53) (v := ?_) (a' := ?_) (ms 17 14) rfl rfl (any_of HT_.out (by kernel_rfl)) (fun _ _ _ h => h) (Or.inl ⟨by rfl, ?_⟩) ?_ ?_
   rotate_left
   ·intro w'
    go_simp
    with_reducible rfl
   rotate_left
   ·simp only [Act.put, sA, sB, sC, i64_w, i32_w]
    rfl
   refine pure_ (i := 6) (N := some 56) (v := ?_) (a' := ?_) (ms 17 78) rfl rfl (any_of HT_.out (by kernel_rfl)) (fun _ _ _ h => h) (Or.inl ⟨by rfl, ?_⟩) ?_ ?_
   rotate_left
   ·intro w'
    go_simp
    with_reducible rfl
   rotate_left
   ·simp only [Act.put, sA, sB, sC, i64_w, i32_w]
    rfl
   refine pure_ (i := 7) (N := some 57) (v := ?_) (a' := ?_) (ms 17 206) rfl rfl (any_of HT_.out (by kernel_rfl)) (fun _ _ _ h => h) (Or.inl ⟨by rfl, ?_⟩) ?_ ?_
   rotate_left
   ·intro w'
    go_simp
    with_reducible rfl
   rotate_left
   ·simp only [Act.put, sA, sB, sC, i64_w, i32_w]
    rfl
   refine pure_ (i := 8) (N := some 58) (v := ?_) (a' := ?_) (ms 17 462) rfl rfl (any_of HT_.out (by kernel_rfl)) (fun _ _ _ h => h) (Or.inl ⟨by rfl, ?_⟩) ?_ ?_
   rotate_left
   ·intro w'
    go_simp
    with_reducible rfl
   rotate_left
   ·simp only [Act.put, sA, sB, sC, i64_w, i32_w]
    rfl
   refine pure_ (i := 9) (N := some 59) (v := ?_) (a' := ?_) (ms 17 974) rfl rfl (any_of HT_.out (by kernel_rfl)) (fun _ _ _ h => h) (Or.inl ⟨by rfl, ?_⟩) ?_ ?_
   rotate_left
   ·intro w'
    go_simp
    with_reducible rfl
   rotate_left
   ·simp only [Act.put, sA, sB, sC, i64_w, i32_w]
    rfl
   refine pure_ (i := 10) (N := some 60) (v := ?_) (a' := ?_) (ms 17 1998) rfl rfl (any_of HT_.out (by kernel_rfl)) (fun _ _ _ h => h) (Or.inl ⟨by rfl, ?_⟩) ?_ ?_
   rotate_left
   ·intro w'
    go_simp
    with_reducible rfl
   rotate_left
   ·simp only [Act.put, sA, sB, sC, i64_w, i32_w]
    rfl
   refine pure_ (i := 11) (N := some 61) (v := ?_) (a' := ?_) (ms 17 4046) rfl rfl (any_of HT_.out (by kernel_rfl)) (fun _ _ _ h => h) (Or.inl ⟨by rfl, ?_⟩) ?_ ?_
   rotate_left
   ·intro w'
    go_simp
    with_reducible rfl
   rotate_left
   ·simp only [Act.put, sA, sB, sC, i64_w, i32_w]
    rfl
   refine pure_ (i := 12) (N := some 62) (v := ?_) (a' := ?_) (ms 17 8142) rfl rfl (any_of HT_.out (by kernel_rfl)) (fun _ _ _ h => h) (Or.inl ⟨by rfl, ?_⟩) ?_ ?_
   rotate_left
   ·intro w'
    go_simp
    with_reducible rfl
   rotate_left
   ·simp only [Act.put, sA, sB, sC, i64_w, i32_w]
    rfl
   refine take_ (i := 0) (N := some 50) (v := ?_) (a' := ?_) (ms 17 8143) rfl rfl (take_ofW HT_.out HW_.out (by kernel_rfl)) (fun _ _ _ h => h) (Or.inl ⟨by rfl, ?_⟩) hHeld ?_ ?_
   rotate_left
   ·rintro w' ⟨s0, s1, s2, s3⟩
    go_simp
    with_reducible rfl
   rotate_left
   ·simp only [Act.put, sA, sB, sC, i64_w, i32_w]
    rfl
   refine take_ (i := 4) (N := some 54) (v := ?_) (a' := ?_) (ms 17 8159) rfl rfl (take_ofW HT_.out HW_.out (by kernel_rfl)) (fun _ _ _ h => h) (Or.inl ⟨by rfl, ?_⟩) hHeld ?_ ?_
   rotate_left
   ·rintro w' ⟨s0, s1, s2, s3⟩
    go_simp
    with_reducible rfl
   rotate_left
   ·simp only [Act.put, sA, sB, sC, i64_w, i32_w]
    rfl
   refine take_ (i := 13) (N := some 63) (v := ?_) (a' := ?_) (ms 17 16351) rfl rfl (take_ofW HT_.out HW_.out (by kernel_rfl)) (fun _ _ _ h => h) (Or.inl ⟨by rfl, ?_⟩) hHeld ?_ ?_
   rotate_left
   ·rintro w' ⟨s0, s1, s2, s3⟩
    go_simp
    with_reducible rfl
   rotate_left
   ·simp only [Act.put, sA, sB, sC, i64_w, i32_w]
    rfl
   refine one_ (i := 5) (N := some 55) (ms 17 16383) rfl rfl (one_of HT_.out (by kernel_rfl)) (by decide) (fun K hK => ?_)
   refine goes_ Try.func18 (by kernel_rfl) rfl #[.agg #[.int .i64 t331, .slice Ao9 t332.length co9], .int .i64 (rd t335 x8_2)] (by rfl) rfl rfl (by (try simp only [List.map_toArray, List.map_cons, List.map_nil]); first | done | rfl | (simp only [List.length_drop, List.length_take]; rfl)) ?_
   with_reducible refine (impl_NearAll.calls k2 t331 _ _ t332 (rd t335 x8_2) t361 _ ?side1 ?side2 A38.out).mono ?_
   (case side1 => repeat (first | exact (Kd.R_reads' HO_339001.out).2.2 | (with_reducible refine Kd.C_alloc ?_ _) | (with_reducible refine Kd.C_drewN ?_ _) | (with_reducible refine Kd.C_drew ?_)))
   (case side2 => exact (Kd.R_reads' HO_339001.out).2.1)
   rintro e w51 ⟨v362, rfl, ho0, hb⟩
   have HS2_ := (hb.cell (World.block_lt_of_cell? _ _ (hHeld.2.2.1))).trans (hHeld.2.2.1)
   have HS3_ := (hb.cell (World.block_lt_of_cell? _ _ (hHeld.2.2.2))).trans (hHeld.2.2.2)
   refine ⟨_, rfl, ?_⟩
   replace HO_339001 := Aside0.mk (Kd.R_below (rk HO_339001) hb)
   have HO363 := Aside0.mk (Kd.R_lower (Kd.R_new' (Kd.R_new' ho0 (Kd.R_lt (rk HO_4))) (Kd.R_lt (rk HO_6))) (below_size (bl1 HB GE338)))
   replace HO_4 := Aside0.mk (Kd.R_elder' (rk HO_4) (Kd.R_base ho0) hb)
   replace HO_6 := Aside0.mk (Kd.R_elder' (rk HO_6) (Kd.R_base ho0) hb)
   replace BK338 := Aside0.mk (blk_below (bk BK338) hb)
   replace HB := Aside0.mk (below_step (bl1 HB GE338) hb)
   (try clear hb)
   (try clear hb2)
   (try clear hk)
   (try clear hi)
   (try clear ho0)
   obtain ⟨Ao52, co52, eo52⟩ := Kd.R_slice HO363.out
   (first | subst eo52 | (injection eo52 with f1_ f2_ f3_; have f4_ := f1_.symm; have f5_ := f3_.symm; clear f1_ f2_ f3_; subst f4_; subst f5_))
   have p365 : 0 ≤ ((rd t335 (ji40)) : Int) := oT (by first | (with_reducible assumption) | assumption)
   have q365 : (rd t335 (ji40)) < (t361.length : Int) := oT (by first | (with_reducible assumption) | assumption)
   obtain ⟨ad365, e365, hx365_0⟩ := Kd.at_int (Kd.R_reads' HO363.out).2.2 (rd t335 (ji40)) p365 q365
   cases e365
   replace p365 := eq_true p365
   replace q365 := eq_true q365
   refine hK.out _ _ ⟨(blk_cell BK338.out 0).trans rfl, (blk_cell BK338.out 1).trans rfl, HS2_, HS3_⟩ (fun hHeld => ?_)
   refine laws_FnTourCost.restart (S' := fun w' => w'.cell? ⟨gb338, 0, none⟩ = some (.int .i64 t331) ∧ w'.cell? ⟨gb338, 1, none⟩ = some (.slice Ao9 t332.length co9) ∧ w'.cell? (ad352.add (x8_2).toNat) = some (.int .i64 (rd t335 x8_2)) ∧ w'.cell? (ad352.add ((ji40)).toNat) = some (.int .i64 (rd t335 (ji40))) ∧ w'.cell? (ad365.add ((rd t335 (ji40))).toNat) = some (.int .i64 (rd t361 (rd t335 (ji40))))) (fun w' h_ => ⟨h_.1, h_.2.1, h_.2.2.1, h_.2.2.2.1⟩) ⟨hHeld.1, hHeld.2.1, hHeld.2.2.1, hHeld.2.2.2, hx365_0⟩ (fun hHeld => ?_)
   clear hK K
   refine norm_ (a' := ?_) ?_ ?_
   rotate_left
   ·show Act.put _ (some 55) _ = _
    simp only [Act.put, sA, sB, sC, i64_w, i32_w]
    rfl
   refine pure_ (i := 14) (N := some 64) (v := ?_) (a' := ?_) (ms 17 32767) rfl rfl (any_of HT_.out (by kernel_rfl)) (fun _ _ _ h => h) (Or.inl ⟨by rfl, ?_⟩) ?_ ?_
   rotate_left
   ·intro w'
    go_simp
    with_reducible rfl
   rotate_left
   ·simp only [Act.put, sA, sB, sC, i64_w, i32_w]
    rfl
   refine take_ (i := 15) (N := some 65) (v := ?_) (a' := ?_) (ms 17 65535) rfl rfl (take_ofW HT_.out HW_.out (by kernel_rfl)) (fun _ _ _ h => h) (Or.inl ⟨by rfl, ?_⟩) hHeld ?_ ?_
   rotate_left
   ·rintro w' ⟨s0, s1, s2, s3, s4⟩
    go_simp
    with_reducible rfl
   rotate_left
   ·simp only [Act.put, sA, sB, sC, i64_w, i32_w]
    rfl
   refine pure_ (i := 16) (N := some 9) (v := ?_) (a' := ?_) (ms 17 131071) rfl rfl (any_of HT_.out (by kernel_rfl)) (fun _ _ _ h => h) (Or.inl ⟨by rfl, ?_⟩) ?_ ?_
   rotate_left
   ·intro w'
    go_simp
    with_reducible rfl
   rotate_left
   ·simp only [Act.put, sA, sB, sC, i64_w, i32_w]
    rfl
   refine done_ (done_of HT_.out (by kernel_rfl)) ?_
   try go_wp2
   go_roundg k2
   case measure => have := HJ4.out; have := HK2.out; omega
   case rel => exact ⟨(wrap64 (x7_2 + (rd t361 (rd t335 (ji40))))), (wrap64 (x8_2 + 1)), (by first | rfl | (simp; done) | (simp only [← hji40] <;> (first | rfl | simp)) | (simp [*]; done)), (by first | rfl | (simp; done) | (simp [*]; done)), H', ⟨by have := HJ4.out; have := HK2.out; omega⟩, ⟨by (with_reducible repeat (first | apply Kd.R_alloc | apply Kd.R_drewN | apply Kd.R_drew)); exact Kd.R_mono HO_4.out (fun _ hk => hk.1)⟩, ⟨by (with_reducible repeat (first | apply Kd.R_alloc | apply Kd.R_drewN | apply Kd.R_drew)); exact Kd.R_mono HO_6.out (fun _ hk => hk.1)⟩, ⟨rk HO_339001⟩, ⟨bk BK338⟩, ⟨bl1 HB GE338⟩⟩

/-- THE ONE PURE STATEMENT of laws_FnTourCost: yours. -/
def laws_FnTourCost.Pure : Prop := ∀ (l0 : List Int), l0.length ≤ maxLen → l0.length * 1 ≤ 140737488351232 → (∀ x ∈ l0, (Lit.int .u8 x).wf = true) → ∃ k, laws_FnTourCost.f k l0 = some true
theorem laws_FnTourCost.walk (P : laws_FnTourCost.Pure) (a0 : Option Addr) (len0 cap0 : Nat) (z0 : List Int) (w : World) (w0 : (a0 = none ∧ len0 = 0 ∧ cap0 = 0 ∧ z0 = []) ∨ ∃ x, a0 = some x ∧ len0 ≤ cap0 ∧ cap0 ≤ maxLen ∧ z0.length = cap0 ∧ (∀ i, i < z0.length → w.cell? (x.add i) = some (.int .u8 (z0.getD i 0))) ∧ ∀ n ∈ z0, (Lit.int .u8 n).wf = true) (y0 : len0 * 1 ≤ 140737488351232) :
  Calls Try.prog 3 #[.slice a0 len0 cap0] w fun e w' => e = .returned (.bool true) ∧ Below w.heap.size w w' := by
 obtain ⟨l0, rfl, hr0, hm0, hw0, hc0⟩ := ReadsInt.ofRowC w0
 obtain ⟨k, h⟩ := P l0 hm0 y0 hw0
 refine (laws_FnTourCost.calls k _ _ l0 true w (Kd.C_of_reads (d := (0 : Int)) (h1 := fun _ => rfl) hr0) hc0 h rfl).mono ?_
 rintro e w' ⟨rfl, hd⟩
 exact ⟨rfl, hd⟩

end Go.Proofs.Ytgickejeakmenaa.F
