-- Printed by wip/px/px.py of this claim's repository (the kit's printer, extended there). Lean checks it.
import Derived.Test.YtgickejeakmenaaFKinds
import Derived.Test.YtgickejeakmenaaFimplNearAll
import Derived.Test.YtgickejeakmenaaFwkNet
import Derived.Test.YtgickejeakmenaaFwkNet
import Derived.Test.YtgickejeakmenaaFspecDrawTourNear
import Derived.Test.YtgickejeakmenaaFimplTourNear
import Derived.Test.YtgickejeakmenaaFspecTourNear
namespace Go.Proofs.Ytgickejeakmenaa.F
open Go.RowKit Go.Proofs.YtgickejeakmenaaW.PrintWords Go.Proofs.YtgickejeakmenaaW.PrintLast Go.Proofs.YtgickejeakmenaaW.PrintMore
attribute [local go_sem] max2_int min2_int max_two min_two max_three min_three max_four min_four   -- for this text's walks alone
set_option linter.unusedVariables false
set_option linter.unusedSimpArgs false

/-! ### laws_FnTourNear: function 7 -/
mutual
def laws_FnTourNear.j0 : Nat → List Int → List Int → Bool → Int → List (S41) → Option (Bool)
 | 0, _, _, _, _, _ => none
 | k + 1, x4, x5, x31, x933000, x933001 => if x31 = true then ((spec_TourNear.f k x933000 x933001 x4).bind fun t940 => ((laws_wkInts.f k x5 t940).bind fun t943 => (some t943))) else (laws_FnTourNear.l0 k x4 x5 0 x933000 x933001)
def laws_FnTourNear.l0 : Nat → List Int → List Int → Int → Int → List (S41) → Option (Bool)
 | 0, _, _, _, _, _ => none
 | k + 1, x4, x5, x6, x933000, x933001 => if (wrap64 (x6 + 1)) < (x5.length : Int) then (if 0 ≤ x6 then (if x6 < (x5.length : Int) then ((impl_NearAll.f k x933000 x933001 (rd x5 x6)).bind fun t945 => (laws_FnTourNear.l1 k x4 x5 x6 t945 (wrap64 (x6 + 1)) x933000 x933001)) else (none)) else (none)) else (laws_FnTourNear.l2 k x4 x5 0)
def laws_FnTourNear.l1 : Nat → List Int → List Int → Int → List Int → Int → Int → List (S41) → Option (Bool)
 | 0, _, _, _, _, _, _, _ => none
 | k + 1, x4, x5, x6, x7, x8, x933000, x933001 => if x8 < (x5.length : Int) then (if 0 ≤ x8 then (if 0 ≤ (rd x5 x8) then (if (rd x5 x8) < (x7.length : Int) then (if 0 ≤ (wrap64 (x6 + 1)) then (if (wrap64 (x6 + 1)) < (x5.length : Int) then (if 0 ≤ (rd x5 (wrap64 (x6 + 1))) then (if (rd x5 (wrap64 (x6 + 1))) < (x7.length : Int) then (if (rd x7 (rd x5 x8)) < (rd x7 (rd x5 (wrap64 (x6 + 1)))) then (some false) else (laws_FnTourNear.l1 k x4 x5 x6 x7 (wrap64 (x8 + 1)) x933000 x933001)) else (none)) else (none)) else (none)) else (none)) else (none)) else (none)) else (none)) else (laws_FnTourNear.l0 k x4 x5 (wrap64 (x6 + 1)) x933000 x933001)
def laws_FnTourNear.l2 : Nat → List Int → List Int → Int → Option (Bool)
 | 0, _, _, _ => none
 | k + 1, x4, x5, x9 => if x9 < (x4.length : Int) then (if 0 ≤ x9 then ((laws_wkIn.f k x5 (rd x4 x9)).bind fun t953 => (if t953 = true then (laws_FnTourNear.l2 k x4 x5 (wrap64 (x9 + 1))) else (some false))) else (none)) else (if (x5.length : Int) = (x4.length : Int) then (if 0 < (x5.length : Int) then (if 0 < (x4.length : Int) then (some ((rd x5 0) == (rd x4 0))) else (none)) else (none)) else (some false))
end
def laws_FnTourNear.f (k : Nat) (l0 : List Int) : Option (Bool) := if (l0.length : Int) > 1048576 then (some true) else ((spec_DrawTourNear.f k l0).bind fun bt925 => ((impl_TourNear.f k bt925.1 bt925.2.1 bt925.2.2).bind fun t933 => ((spec_TourNear.f k bt925.1 bt925.2.1 bt925.2.2).bind fun t936 => ((laws_wkInts.f k t933 t936).bind fun t939 => (if t939 = true then (laws_FnTourNear.j0 k bt925.2.2 t933 ((t933.length : Int) == 0) bt925.1 bt925.2.1) else (laws_FnTourNear.j0 k bt925.2.2 t933 true bt925.1 bt925.2.1))))))
theorem laws_FnTourNear.mono_l : ∀ k, (∀ y0 y1 y2 y3 y4, LeO (laws_FnTourNear.j0 k y0 y1 y2 y3 y4) (laws_FnTourNear.j0 (k + 1) y0 y1 y2 y3 y4)) ∧ (∀ y0 y1 y2 y3 y4, LeO (laws_FnTourNear.l0 k y0 y1 y2 y3 y4) (laws_FnTourNear.l0 (k + 1) y0 y1 y2 y3 y4)) ∧ (∀ y0 y1 y2 y3 y4 y5 y6, LeO (laws_FnTourNear.l1 k y0 y1 y2 y3 y4 y5 y6) (laws_FnTourNear.l1 (k + 1) y0 y1 y2 y3 y4 y5 y6)) ∧ (∀ y0 y1 y2, LeO (laws_FnTourNear.l2 k y0 y1 y2) (laws_FnTourNear.l2 (k + 1) y0 y1 y2))
 | 0 => ⟨fun _ _ _ _ _ r h => by simp [laws_FnTourNear.j0] at h, fun _ _ _ _ _ r h => by simp [laws_FnTourNear.l0] at h, fun _ _ _ _ _ _ _ r h => by simp [laws_FnTourNear.l1] at h, fun _ _ _ r h => by simp [laws_FnTourNear.l2] at h⟩
 | k + 1 => by
  obtain ⟨ih0, ih1, ih2, ih3⟩ := laws_FnTourNear.mono_l k
  refine ⟨?_, ?_, ?_, ?_⟩
  ·intro y0 y1 y2 y3 y4
   unfold laws_FnTourNear.j0
   repeat' first
   | (with_reducible exact ih0 _ _ _ _ _)
   | (with_reducible exact ih1 _ _ _ _ _)
   | (with_reducible exact ih2 _ _ _ _ _ _ _)
   | (with_reducible exact ih3 _ _ _)
   | (with_reducible exact impl_NearAll.mono _ _ _ _)
   | (with_reducible exact impl_TourNear.mono _ _ _ _)
   | (with_reducible exact laws_wkIn.mono _ _ _)
   | (with_reducible exact laws_wkInts.mono _ _ _)
   | (with_reducible exact spec_DrawTourNear.mono _ _)
   | (with_reducible exact spec_TourNear.mono _ _ _ _)
   | (with_reducible exact LeO.refl _)
   | (with_reducible exact LeO.none _)
   | (with_reducible refine LeO.ite ?_ ?_)
   | (with_reducible refine LeO.bind ?_ (fun _ => ?_))
   | exact ih0 _ _ _ _ _
   | exact ih1 _ _ _ _ _
   | exact ih2 _ _ _ _ _ _ _
   | exact ih3 _ _ _
   | exact impl_NearAll.mono _ _ _ _
   | exact impl_TourNear.mono _ _ _ _
   | exact laws_wkIn.mono _ _ _
   | exact laws_wkInts.mono _ _ _
   | exact spec_DrawTourNear.mono _ _
   | exact spec_TourNear.mono _ _ _ _
   | exact LeO.none _
   | refine LeO.ite ?_ ?_
   | refine LeO.bind ?_ (fun _ => ?_)
  ·intro y0 y1 y2 y3 y4
   unfold laws_FnTourNear.l0
   repeat' first
   | (with_reducible exact ih0 _ _ _ _ _)
   | (with_reducible exact ih1 _ _ _ _ _)
   | (with_reducible exact ih2 _ _ _ _ _ _ _)
   | (with_reducible exact ih3 _ _ _)
   | (with_reducible exact impl_NearAll.mono _ _ _ _)
   | (with_reducible exact impl_TourNear.mono _ _ _ _)
   | (with_reducible exact laws_wkIn.mono _ _ _)
   | (with_reducible exact laws_wkInts.mono _ _ _)
   | (with_reducible exact spec_DrawTourNear.mono _ _)
   | (with_reducible exact spec_TourNear.mono _ _ _ _)
   | (with_reducible exact LeO.refl _)
   | (with_reducible exact LeO.none _)
   | (with_reducible refine LeO.ite ?_ ?_)
   | (with_reducible refine LeO.bind ?_ (fun _ => ?_))
   | exact ih0 _ _ _ _ _
   | exact ih1 _ _ _ _ _
   | exact ih2 _ _ _ _ _ _ _
   | exact ih3 _ _ _
   | exact impl_NearAll.mono _ _ _ _
   | exact impl_TourNear.mono _ _ _ _
   | exact laws_wkIn.mono _ _ _
   | exact laws_wkInts.mono _ _ _
   | exact spec_DrawTourNear.mono _ _
   | exact spec_TourNear.mono _ _ _ _
   | exact LeO.none _
   | refine LeO.ite ?_ ?_
   | refine LeO.bind ?_ (fun _ => ?_)
  ·intro y0 y1 y2 y3 y4 y5 y6
   unfold laws_FnTourNear.l1
   repeat' first
   | (with_reducible exact ih0 _ _ _ _ _)
   | (with_reducible exact ih1 _ _ _ _ _)
   | (with_reducible exact ih2 _ _ _ _ _ _ _)
   | (with_reducible exact ih3 _ _ _)
   | (with_reducible exact impl_NearAll.mono _ _ _ _)
   | (with_reducible exact impl_TourNear.mono _ _ _ _)
   | (with_reducible exact laws_wkIn.mono _ _ _)
   | (with_reducible exact laws_wkInts.mono _ _ _)
   | (with_reducible exact spec_DrawTourNear.mono _ _)
   | (with_reducible exact spec_TourNear.mono _ _ _ _)
   | (with_reducible exact LeO.refl _)
   | (with_reducible exact LeO.none _)
   | (with_reducible refine LeO.ite ?_ ?_)
   | (with_reducible refine LeO.bind ?_ (fun _ => ?_))
   | exact ih0 _ _ _ _ _
   | exact ih1 _ _ _ _ _
   | exact ih2 _ _ _ _ _ _ _
   | exact ih3 _ _ _
   | exact impl_NearAll.mono _ _ _ _
   | exact impl_TourNear.mono _ _ _ _
   | exact laws_wkIn.mono _ _ _
   | exact laws_wkInts.mono _ _ _
   | exact spec_DrawTourNear.mono _ _
   | exact spec_TourNear.mono _ _ _ _
   | exact LeO.none _
   | refine LeO.ite ?_ ?_
   | refine LeO.bind ?_ (fun _ => ?_)
  ·intro y0 y1 y2
   unfold laws_FnTourNear.l2
   repeat' first
   | (with_reducible exact ih0 _ _ _ _ _)
   | (with_reducible exact ih1 _ _ _ _ _)
   | (with_reducible exact ih2 _ _ _ _ _ _ _)
   | (with_reducible exact ih3 _ _ _)
   | (with_reducible exact impl_NearAll.mono _ _ _ _)
   | (with_reducible exact impl_TourNear.mono _ _ _ _)
   | (with_reducible exact laws_wkIn.mono _ _ _)
   | (with_reducible exact laws_wkInts.mono _ _ _)
   | (with_reducible exact spec_DrawTourNear.mono _ _)
   | (with_reducible exact spec_TourNear.mono _ _ _ _)
   | (with_reducible exact LeO.refl _)
   | (with_reducible exact LeO.none _)
   | (with_reducible refine LeO.ite ?_ ?_)
   | (with_reducible refine LeO.bind ?_ (fun _ => ?_))
   | exact ih0 _ _ _ _ _
   | exact ih1 _ _ _ _ _
   | exact ih2 _ _ _ _ _ _ _
   | exact ih3 _ _ _
   | exact impl_NearAll.mono _ _ _ _
   | exact impl_TourNear.mono _ _ _ _
   | exact laws_wkIn.mono _ _ _
   | exact laws_wkInts.mono _ _ _
   | exact spec_DrawTourNear.mono _ _
   | exact spec_TourNear.mono _ _ _ _
   | exact LeO.none _
   | refine LeO.ite ?_ ?_
   | refine LeO.bind ?_ (fun _ => ?_)
theorem laws_FnTourNear.mono : ∀ a0 k, LeO (laws_FnTourNear.f k a0) (laws_FnTourNear.f (k + 1) a0) := by
 intro a0 k
 obtain ⟨ih0, ih1, ih2, ih3⟩ := laws_FnTourNear.mono_l k
 unfold laws_FnTourNear.f
 repeat' first
   | (with_reducible exact ih0 _ _ _ _ _)
   | (with_reducible exact ih1 _ _ _ _ _)
   | (with_reducible exact ih2 _ _ _ _ _ _ _)
   | (with_reducible exact ih3 _ _ _)
   | (with_reducible exact impl_NearAll.mono _ _ _ _)
   | (with_reducible exact impl_TourNear.mono _ _ _ _)
   | (with_reducible exact laws_wkIn.mono _ _ _)
   | (with_reducible exact laws_wkInts.mono _ _ _)
   | (with_reducible exact spec_DrawTourNear.mono _ _)
   | (with_reducible exact spec_TourNear.mono _ _ _ _)
   | (with_reducible exact LeO.refl _)
   | (with_reducible exact LeO.none _)
   | (with_reducible refine LeO.ite ?_ ?_)
   | (with_reducible refine LeO.bind ?_ (fun _ => ?_))
   | exact ih0 _ _ _ _ _
   | exact ih1 _ _ _ _ _
   | exact ih2 _ _ _ _ _ _ _
   | exact ih3 _ _ _
   | exact impl_NearAll.mono _ _ _ _
   | exact impl_TourNear.mono _ _ _ _
   | exact laws_wkIn.mono _ _ _
   | exact laws_wkInts.mono _ _ _
   | exact spec_DrawTourNear.mono _ _
   | exact spec_TourNear.mono _ _ _ _
   | exact LeO.none _
   | refine LeO.ite ?_ ?_
   | refine LeO.bind ?_ (fun _ => ?_)
def laws_FnTourNear.T14 : Bool × List (List Nat × List Nat) := (true, [([], []), ([], []), ([], []), ([1, 2], [1, 2]), ([3], [3]), ([0, 4], [0, 4]), ([5], [5]), ([], []), ([], []), ([], []), ([9], [9]), ([8, 10], [8, 10]), ([11], [11]), ([7, 12], [7, 12]), ([13], [13]), ([6, 14], [6, 14])])
def laws_FnTourNear.B14 : List Nat := [0, 0, 0, 6, 14, 31, 63, 0, 0, 0, 512, 1792, 3840, 8064, 16256, 32767]
theorem laws_FnTourNear.tab14 : rtab .any (opsOf Try.f7 14) = laws_FnTourNear.T14 := by kernel_rfl
theorem laws_FnTourNear.bits14 : waitsOk laws_FnTourNear.T14.2 laws_FnTourNear.B14 = true := by kernel_rfl
def laws_FnTourNear.T21 : Bool × List (List Nat × List Nat) := (true, [([], []), ([0], [0]), ([], []), ([2], [2]), ([1, 3], [1, 3]), ([4], [4]), ([5], [5]), ([6, 5], [5, 6]), ([7, 5], [5, 7]), ([5], [5]), ([9, 5], [5, 9]), ([10, 5], [5, 10]), ([8, 11, 5], [5, 8, 11]), ([5, 12], [5, 12]), ([13, 5, 0, 1, 2, 3, 4, 5, 6, 7, 8, 9, 10, 11, 12, 13], [13])])
def laws_FnTourNear.B21 : List Nat := [0, 1, 0, 4, 15, 31, 63, 127, 255, 63, 575, 1599, 4095, 8191, 16383]
theorem laws_FnTourNear.tab21 : rtab .any (opsOf Try.f7 21) = laws_FnTourNear.T21 := by kernel_rfl
theorem laws_FnTourNear.bits21 : waitsOk laws_FnTourNear.T21.2 laws_FnTourNear.B21 = true := by kernel_rfl
set_option maxHeartbeats 8000000 in
set_option maxRecDepth 100000 in
theorem laws_FnTourNear.calls (k : Nat) (A0 : Option Addr) (c0 : Nat) (l0 : List Int) (r : Bool) (w : World) (hr0 : Kd.C (Kd.int .u8) w A0 l0.length l0) (hc0 : l0.length ≤ c0) (h : laws_FnTourNear.f k l0 = some r) (hr_ : r = true) :
  Calls Try.prog 7 #[.slice A0 l0.length c0] w fun e w' => e = .returned (.bool r) ∧ Below w.heap.size w w' := by
 have hu25 := Try.underlying25
 have HR0 := Aside0.mk hr0
 have HC0 := Aside0.mk hc0
 clear hr0 hc0
 have HB := Aside0.mk (Below.refl w.heap.size w)
 have H : (if (l0.length : Int) > 1048576 then (some true) else ((spec_DrawTourNear.f k l0).bind fun bt925 => ((impl_TourNear.f k bt925.1 bt925.2.1 bt925.2.2).bind fun t933 => ((spec_TourNear.f k bt925.1 bt925.2.1 bt925.2.2).bind fun t936 => ((laws_wkInts.f k t933 t936).bind fun t939 => (if t939 = true then (laws_FnTourNear.j0 k bt925.2.2 t933 ((t933.length : Int) == 0) bt925.1 bt925.2.1) else (laws_FnTourNear.j0 k bt925.2.2 t933 true bt925.1 bt925.2.1))))))) = some r := h
 clear h
 by_cases c2 : (l0.length : Int) > 1048576
 ·rw [if_pos c2] at H
  have c2b0 : decide (1048576 < (l0.length : Int)) = true := decide_eq_true c2
  have c2b1 : decide (1048576 < l0.length) = true := decide_eq_true (by omega)
  clear c2
  obtain rfl := Option.some.inj H
  go_enter Try.func7, Try.ntmps7
  go_wp2
  go_ret
  exact ⟨by first | rfl | (simp [errW_none, errW_some] <;> rfl) | (simp [*, errW_none, errW_some] <;> rfl), bl HB⟩
 rw [if_neg c2] at H
 have c2b0 : decide (1048576 < (l0.length : Int)) = false := decide_eq_false c2
 have c2b1 : decide (1048576 < l0.length) = false := decide_eq_false (by omega)
 clear c2
 replace H := Option.bind_eq_some_iff.mp H
 obtain ⟨⟨t925, t926, t929⟩, A30, H⟩ := H
 have A3 := Aside0.mk A30
 clear A30
 replace H := Option.bind_eq_some_iff.mp H
 obtain ⟨t933, A40, H⟩ := H
 have A4 := Aside0.mk A40
 clear A40
 have HC5 := Aside0.mk H
 clear H
 go_enter Try.func7, Try.ntmps7
 go_upto_region 5 with (first | ((with_reducible refine gate_callee (f := 31) rfl ?_); refine goesL_ (some 15) rfl rfl Try.func31 (by kernel_rfl) rfl #[.slice A0 l0.length c0] rfl (by (try simp only [List.map_toArray, List.map_cons, List.map_nil]); first | done | rfl | (simp only [List.length_drop, List.length_take]; rfl)) ?_; (with_reducible refine (spec_DrawTourNear.calls k _ _ l0 t925 t926 t929 _ ?side1 ?side2 A3.out).mono ?_); (case side1 => repeat (first | exact HR0.out | (with_reducible refine Kd.C_alloc ?_ _) | (with_reducible refine Kd.C_drewN ?_ _) | (with_reducible refine Kd.C_drew ?_))); (case side2 => exact HC0.out); rintro e w6 ⟨v927, v930, rfl, ho0, ho1, hb⟩; refine ⟨_, rfl, ?_⟩; have HO928 := Aside0.mk (Kd.R_lower ho0 (below_size (bl HB))); have HO931 := Aside0.mk (Kd.R_lower ho1 (below_size (bl HB))); replace HB := Aside0.mk (below_step (bl HB) hb); (try clear hb); (try clear hb2); (try clear hk); (try clear hi); (try clear ho0); (try clear ho1)) | ((with_reducible refine gate_dst (N := 3) rfl ?_); refine box_event ?hg (N := 3) ?hd (cs := #[.int .i64 0, .slice none 0 0]) (t := 25) ?hr ?_; (case hd => rfl); (case hg => rfl); (case hr => first | (go_simp; done) | (go_simp; rfl)); intro gb932 hg w7 hbox hb; replace HO928 := Aside0.mk (Kd.R_below (rk HO928) hb); replace HO931 := Aside0.mk (Kd.R_below (rk HO931) hb); have BK932 := Aside0.mk (hbox); have GW932 := Aside0.mk ((by rw [hg]; exact (below_size (bl HB)) : w.heap.size ≤ gb932)); have GE932 := Aside0.mk ((by rw [hg]; exact (below_size (bl HB)) : w.heap.size ≤ gb932)); replace HB := Aside0.mk (below_step (bl HB) hb); clear hb hbox hg; have hcz8_0 : w7.cell? ⟨gb932, 0, none⟩ = some (.int .i64 0) := (blk_cell BK932.out 0).trans rfl; have hcz8_1 : w7.cell? ⟨gb932, 1, none⟩ = some (.slice none 0 0) := (blk_cell BK932.out 1).trans rfl; have hfz8_0 := blk_frozen BK932.out 0; have hfz8_1 := blk_frozen BK932.out 1; obtain ⟨Ao9, co9, eo9⟩ := Kd.R_slice HO928.out; subst eo9; obtain ⟨Ao10, co10, eo10⟩ := Kd.R_slice HO931.out; subst eo10) | ((with_reducible refine gate_callee (f := 32) rfl ?_); refine goesL_ (some 20) rfl rfl Try.func32 (by kernel_rfl) rfl #[.agg #[.int .i64 t925, .slice Ao9 t926.length co9], .slice Ao10 t929.length co10] rfl (by (try simp only [List.map_toArray, List.map_cons, List.map_nil]); first | done | rfl | (simp only [List.length_drop, List.length_take]; rfl)) ?_; (with_reducible refine (impl_TourNear.calls k t925 _ _ t926 _ _ t929 t933 _ ?side1 ?side2 ?side3 ?side4 A4.out).mono ?_); (case side1 => refine (Kd.R_reads' (e := 41) (base := w.heap.size) (ok := fun k_ => True) (n := t926.length) (c := co9) ?_).2.2; exact (by (with_reducible repeat (first | apply Kd.R_alloc | apply Kd.R_drewN | apply Kd.R_drew)); exact (Kd.R_mono (Kd.R_far (p := ⟨gb932, 1, none⟩) (Kd.R_far (p := ⟨gb932, 0, none⟩) (Kd.R_types HO928.out BK932.out (by decide)) (fun _ hk => hk.2) (.int .i64 t925)) (fun _ hk => hk.2) (.slice Ao9 t926.length co9)) (fun _ h_ => h_.1)))); (case side2 => exact (Kd.R_reads' HO928.out).2.1); (case side3 => refine (Kd.R_reads' (e := 3) (base := w.heap.size) (ok := fun k_ => True) (n := t929.length) (c := co10) ?_).2.2; exact (by (with_reducible repeat (first | apply Kd.R_alloc | apply Kd.R_drewN | apply Kd.R_drew)); exact (Kd.R_mono (Kd.R_far (p := ⟨gb932, 1, none⟩) (Kd.R_far (p := ⟨gb932, 0, none⟩) (Kd.R_types HO931.out BK932.out (by decide)) (fun _ hk => hk.2) (.int .i64 t925)) (fun _ hk => hk.2) (.slice Ao9 t926.length co9)) (fun _ h_ => h_.1)))); (case side4 => exact (Kd.R_reads' HO931.out).2.1); rintro e w11 ⟨v934, rfl, ho0, hb⟩; refine ⟨_, rfl, ?_⟩; replace HO928 := Aside0.mk (Kd.R_below (by (with_reducible repeat (first | apply Kd.R_alloc | apply Kd.R_drewN | apply Kd.R_drew)); exact (Kd.R_mono (Kd.R_far (p := ⟨gb932, 1, none⟩) (Kd.R_far (p := ⟨gb932, 0, none⟩) (Kd.R_types HO928.out BK932.out (by decide)) (fun _ hk => hk.2) (.int .i64 t925)) (fun _ hk => hk.2) (.slice Ao9 t926.length co9)) (fun _ h_ => h_.1))) hb); have HO935 := Aside0.mk (Kd.R_lower (Kd.R_new' ho0 (Kd.R_lt (by (with_reducible repeat (first | apply Kd.R_alloc | apply Kd.R_drewN | apply Kd.R_drew)); exact (Kd.R_mono (Kd.R_far (p := ⟨gb932, 1, none⟩) (Kd.R_far (p := ⟨gb932, 0, none⟩) (Kd.R_types HO931.out BK932.out (by decide)) (fun _ hk => hk.2) (.int .i64 t925)) (fun _ hk => hk.2) (.slice Ao9 t926.length co9)) (fun _ h_ => h_.1))))) (below_size (bl1 HB GE932))); replace HO931 := Aside0.mk (Kd.R_elder' (by (with_reducible repeat (first | apply Kd.R_alloc | apply Kd.R_drewN | apply Kd.R_drew)); exact (Kd.R_mono (Kd.R_far (p := ⟨gb932, 1, none⟩) (Kd.R_far (p := ⟨gb932, 0, none⟩) (Kd.R_types HO931.out BK932.out (by decide)) (fun _ hk => hk.2) (.int .i64 t925)) (fun _ hk => hk.2) (.slice Ao9 t926.length co9)) (fun _ h_ => h_.1))) (Kd.R_base ho0) hb); replace BK932 := Aside0.mk (blk_below (g := gb932) (o := .cells #[.int .i64 t925, .slice Ao9 t926.length co9] 25 (0, 0)) (by (with_reducible repeat (first | refine blk_drewN ?_ _ | refine blk_drew ?_ | refine blk_alloc ?_ _)); refine blk_put (cs := #[.int .i64 t925, .slice none 0 0]) ?_ 1 _ rfl; refine blk_put (cs := #[.int .i64 0, .slice none 0 0]) ?_ 0 _ rfl; (with_reducible repeat (first | refine blk_drewN ?_ _ | refine blk_drew ?_ | refine blk_alloc ?_ _)); exact BK932.out) hb); replace HB := Aside0.mk (below_step (bl1 HB GE932) hb); (try clear hb); (try clear hb2); (try clear hk); (try clear hi); (try clear ho0)))
 (try simp only [Act.put, List.setIfInBounds_toArray, List.set_cons_zero, List.set_cons_succ])
 go_cut [31] (fun v31 wc => ∃ (kq : Nat) (x31_4 : Bool), v31 = .bool x31_4 ∧ Aside0 (laws_FnTourNear.j0 kq t929 t933 x31_4 t925 t926 = some r) ∧ Aside0 (kq ≤ k) ∧ Aside0 (Kd.R (Kd.int .i64) 3 wc w.heap.size (fun k_ => some k_ ≠ (v934 : Value).ownBlock) (.slice Ao10 t929.length co10) t929) ∧ Aside0 (Kd.R (Kd.int .i64) 3 wc w.heap.size (fun k_ => some k_ ≠ ((.slice Ao10 t929.length co10) : Value).ownBlock) v934 t933) ∧ Aside0 (Kd.R k41 41 wc w.heap.size (fun _ => True) (.slice Ao9 t926.length co9) t926) ∧ Aside0 (wc.heap[gb932]? = some (.cells #[.int .i64 t925, (.slice Ao9 t926.length co9)] 25 (0, 0))) ∧ Aside0 (Below w.heap.size w wc))
 case first =>
  have H := HC5.out
  clear HC5
  replace H := Option.bind_eq_some_iff.mp H
  obtain ⟨t936, A120, H⟩ := H
  have A12 := Aside0.mk A120
  clear A120
  replace H := Option.bind_eq_some_iff.mp H
  obtain ⟨t939, A130, H⟩ := H
  have A13 := Aside0.mk A130
  clear A130
  by_cases c14 : t939 = true
  ·subst c14
   rw [if_pos rfl] at H
   have H' := Aside0.mk H
   clear H
   have hcz15_0 : w11.cell? ⟨gb932, 0, none⟩ = some (.int .i64 t925) := (blk_cell BK932.out 0).trans rfl
   have hcz15_1 : w11.cell? ⟨gb932, 1, none⟩ = some (.slice Ao9 t926.length co9) := (blk_cell BK932.out 1).trans rfl
   have hfz15_0 := blk_frozen BK932.out 0
   have hfz15_1 := blk_frozen BK932.out 1
   go_wp2_with (first | ((with_reducible refine gate_callee (f := 33) rfl ?_); refine goesL_ (some 24) rfl rfl Try.func33 (by kernel_rfl) rfl #[.agg #[.int .i64 t925, .slice Ao9 t926.length co9], .slice Ao10 t929.length co10] rfl (by (try simp only [List.map_toArray, List.map_cons, List.map_nil]); first | done | rfl | (simp only [List.length_drop, List.length_take]; rfl)) ?_; (with_reducible refine (spec_TourNear.calls k t925 _ _ t926 _ _ t929 t936 _ ?side1 ?side2 ?side3 ?side4 A12.out).mono ?_); (case side1 => repeat (first | exact (Kd.R_reads' HO928.out).2.2 | (with_reducible refine Kd.C_alloc ?_ _) | (with_reducible refine Kd.C_drewN ?_ _) | (with_reducible refine Kd.C_drew ?_))); (case side2 => exact (Kd.R_reads' HO928.out).2.1); (case side3 => repeat (first | exact (Kd.R_reads' HO931.out).2.2 | (with_reducible refine Kd.C_alloc ?_ _) | (with_reducible refine Kd.C_drewN ?_ _) | (with_reducible refine Kd.C_drew ?_))); (case side4 => exact (Kd.R_reads' HO931.out).2.1); rintro e w16 ⟨v937, rfl, ho0, hb⟩; refine ⟨_, rfl, ?_⟩; replace HO928 := Aside0.mk (Kd.R_below (rk HO928) hb); have HO938 := Aside0.mk (Kd.R_lower (Kd.R_new' (Kd.R_new' ho0 (Kd.R_lt (rk HO931))) (Kd.R_lt (rk HO935))) (below_size (bl1 HB GE932))); replace HO931 := Aside0.mk (Kd.R_elder' (rk HO931) (Kd.R_base ho0) hb); replace HO935 := Aside0.mk (Kd.R_elder' (rk HO935) (Kd.R_base ho0) hb); replace BK932 := Aside0.mk (blk_below (bk BK932) hb); replace HB := Aside0.mk (below_step (bl1 HB GE932) hb); (try clear hb); (try clear hb2); (try clear hk); (try clear hi); (try clear ho0); obtain ⟨Ao17, co17, eo17⟩ := Kd.R_slice HO935.out; subst eo17; obtain ⟨Ao18, co18, eo18⟩ := Kd.R_slice HO938.out; subst eo18) | ((with_reducible refine gate_callee (f := 21) rfl ?_); refine goesL_ (some 25) rfl rfl Try.func21 (by kernel_rfl) rfl #[.slice Ao17 t933.length co17, .slice Ao18 t936.length co18] rfl (by (try simp only [List.map_toArray, List.map_cons, List.map_nil]); first | done | rfl | (simp only [List.length_drop, List.length_take]; rfl)) ?_; (with_reducible refine (laws_wkInts.calls k _ _ t933 _ _ t936 true _ ?side1 ?side2 ?side3 ?side4 A13.out).mono ?_); (case side1 => repeat (first | exact (Kd.R_reads' HO935.out).2.2 | (with_reducible refine Kd.C_alloc ?_ _) | (with_reducible refine Kd.C_drewN ?_ _) | (with_reducible refine Kd.C_drew ?_))); (case side2 => exact (Kd.R_reads' HO935.out).2.1); (case side3 => repeat (first | exact (Kd.R_reads' HO938.out).2.2 | (with_reducible refine Kd.C_alloc ?_ _) | (with_reducible refine Kd.C_drewN ?_ _) | (with_reducible refine Kd.C_drew ?_))); (case side4 => exact (Kd.R_reads' HO938.out).2.1); rintro e w' ⟨rfl, ⟨nd, rfl⟩⟩; refine ⟨_, rfl, ?_⟩))
   go_meet
   case rel => exact ⟨_, (((t933.length : Int) == 0)), (by first | rfl | (simp; done) | (simp [*]; done)), H', ⟨by first | omega | exact Nat.le_refl _⟩, ⟨by (with_reducible repeat (first | apply Kd.R_alloc | apply Kd.R_drewN | apply Kd.R_drew)); exact Kd.R_mono HO931.out (fun _ hk => hk.1.2)⟩, ⟨by (with_reducible repeat (first | apply Kd.R_alloc | apply Kd.R_drewN | apply Kd.R_drew)); exact Kd.R_mono HO935.out (fun _ hk => hk.1.2)⟩, ⟨rk HO928⟩, ⟨bk BK932⟩, ⟨bl1 HB GE932⟩⟩
  replace c14 := Bool.eq_false_iff.mpr c14
  subst c14
  rw [if_neg (show ¬ (false = true) by decide)] at H
  have H' := Aside0.mk H
  clear H
  have hcz19_0 : w11.cell? ⟨gb932, 0, none⟩ = some (.int .i64 t925) := (blk_cell BK932.out 0).trans rfl
  have hcz19_1 : w11.cell? ⟨gb932, 1, none⟩ = some (.slice Ao9 t926.length co9) := (blk_cell BK932.out 1).trans rfl
  have hfz19_0 := blk_frozen BK932.out 0
  have hfz19_1 := blk_frozen BK932.out 1
  go_wp2_with (first | ((with_reducible refine gate_callee (f := 33) rfl ?_); refine goesL_ (some 24) rfl rfl Try.func33 (by kernel_rfl) rfl #[.agg #[.int .i64 t925, .slice Ao9 t926.length co9], .slice Ao10 t929.length co10] rfl (by (try simp only [List.map_toArray, List.map_cons, List.map_nil]); first | done | rfl | (simp only [List.length_drop, List.length_take]; rfl)) ?_; (with_reducible refine (spec_TourNear.calls k t925 _ _ t926 _ _ t929 t936 _ ?side1 ?side2 ?side3 ?side4 A12.out).mono ?_); (case side1 => repeat (first | exact (Kd.R_reads' HO928.out).2.2 | (with_reducible refine Kd.C_alloc ?_ _) | (with_reducible refine Kd.C_drewN ?_ _) | (with_reducible refine Kd.C_drew ?_))); (case side2 => exact (Kd.R_reads' HO928.out).2.1); (case side3 => repeat (first | exact (Kd.R_reads' HO931.out).2.2 | (with_reducible refine Kd.C_alloc ?_ _) | (with_reducible refine Kd.C_drewN ?_ _) | (with_reducible refine Kd.C_drew ?_))); (case side4 => exact (Kd.R_reads' HO931.out).2.1); rintro e w20 ⟨v937, rfl, ho0, hb⟩; refine ⟨_, rfl, ?_⟩; replace HO928 := Aside0.mk (Kd.R_below (rk HO928) hb); have HO938 := Aside0.mk (Kd.R_lower (Kd.R_new' (Kd.R_new' ho0 (Kd.R_lt (rk HO931))) (Kd.R_lt (rk HO935))) (below_size (bl1 HB GE932))); replace HO931 := Aside0.mk (Kd.R_elder' (rk HO931) (Kd.R_base ho0) hb); replace HO935 := Aside0.mk (Kd.R_elder' (rk HO935) (Kd.R_base ho0) hb); replace BK932 := Aside0.mk (blk_below (bk BK932) hb); replace HB := Aside0.mk (below_step (bl1 HB GE932) hb); (try clear hb); (try clear hb2); (try clear hk); (try clear hi); (try clear ho0); obtain ⟨Ao21, co21, eo21⟩ := Kd.R_slice HO935.out; subst eo21; obtain ⟨Ao22, co22, eo22⟩ := Kd.R_slice HO938.out; subst eo22) | ((with_reducible refine gate_callee (f := 21) rfl ?_); refine goesL_ (some 25) rfl rfl Try.func21 (by kernel_rfl) rfl #[.slice Ao21 t933.length co21, .slice Ao22 t936.length co22] rfl (by (try simp only [List.map_toArray, List.map_cons, List.map_nil]); first | done | rfl | (simp only [List.length_drop, List.length_take]; rfl)) ?_; (with_reducible refine (laws_wkInts.calls k _ _ t933 _ _ t936 false _ ?side1 ?side2 ?side3 ?side4 A13.out).mono ?_); (case side1 => repeat (first | exact (Kd.R_reads' HO935.out).2.2 | (with_reducible refine Kd.C_alloc ?_ _) | (with_reducible refine Kd.C_drewN ?_ _) | (with_reducible refine Kd.C_drew ?_))); (case side2 => exact (Kd.R_reads' HO935.out).2.1); (case side3 => repeat (first | exact (Kd.R_reads' HO938.out).2.2 | (with_reducible refine Kd.C_alloc ?_ _) | (with_reducible refine Kd.C_drewN ?_ _) | (with_reducible refine Kd.C_drew ?_))); (case side4 => exact (Kd.R_reads' HO938.out).2.1); rintro e w' ⟨rfl, ⟨nd, rfl⟩⟩; refine ⟨_, rfl, ?_⟩))
  go_meet
  case rel => exact ⟨_, (true), (by first | rfl | (simp; done) | (simp [*]; done)), H', ⟨by first | omega | exact Nat.le_refl _⟩, ⟨by (with_reducible repeat (first | apply Kd.R_alloc | apply Kd.R_drewN | apply Kd.R_drew)); exact Kd.R_mono HO931.out (fun _ hk => hk.1.2)⟩, ⟨by (with_reducible repeat (first | apply Kd.R_alloc | apply Kd.R_drewN | apply Kd.R_drew)); exact Kd.R_mono HO935.out (fun _ hk => hk.1.2)⟩, ⟨rk HO928⟩, ⟨bk BK932⟩, ⟨bl1 HB GE932⟩⟩
 clear HC5
 try clear c1
 try clear c2
 try clear c2b0
 try clear c2b1
 try clear p2
 try clear c3
 try clear c7
 try clear c14
 try clear c21
 try clear hcz15_0
 try clear hcz15_1
 try clear hcz19_0
 try clear hcz19_1
 try clear hcz8_0
 try clear hcz8_1
 try clear hfz15_0
 try clear hfz15_1
 try clear hfz19_0
 try clear hfz19_1
 try clear hfz8_0
 try clear hfz8_1
 obtain ⟨kq, x31_4, rfl, HA, HJ4, HO_4, HO_5, HO_933001, BK932, HB⟩ := hcut
 cases kq with
 | zero => exact absurd HA.out (by simp [laws_FnTourNear.j0])
 | succ kj4 =>
  have H := HA.out
  clear HA
  simp only [laws_FnTourNear.j0] at H
  by_cases c23 : x31_4 = true
  ·subst c23
   rw [if_pos rfl] at H
   replace H := Option.bind_eq_some_iff.mp H
   obtain ⟨t940, A240, H⟩ := H
   have A24 := Aside0.mk A240
   clear A240
   replace H := Option.bind_eq_some_iff.mp H
   obtain ⟨t943, A250, H⟩ := H
   have A25 := Aside0.mk A250
   clear A250
   obtain rfl := Option.some.inj H
   have hcz26_0 : wc.cell? ⟨gb932, 0, none⟩ = some (.int .i64 t925) := (blk_cell BK932.out 0).trans rfl
   have hcz26_1 : wc.cell? ⟨gb932, 1, none⟩ = some (.slice Ao9 t926.length co9) := (blk_cell BK932.out 1).trans rfl
   have hfz26_0 := blk_frozen BK932.out 0
   have hfz26_1 := blk_frozen BK932.out 1
   go_wp2_with (first | ((with_reducible refine gate_callee (f := 33) rfl ?_); refine goesL_ (some 35) rfl rfl Try.func33 (by kernel_rfl) rfl #[.agg #[.int .i64 t925, .slice Ao9 t926.length co9], .slice Ao10 t929.length co10] rfl (by (try simp only [List.map_toArray, List.map_cons, List.map_nil]); first | done | rfl | (simp only [List.length_drop, List.length_take]; rfl)) ?_; (with_reducible refine (spec_TourNear.calls kj4 t925 _ _ t926 _ _ t929 t940 _ ?side1 ?side2 ?side3 ?side4 A24.out).mono ?_); (case side1 => repeat (first | exact (Kd.R_reads' HO_933001.out).2.2 | (with_reducible refine Kd.C_alloc ?_ _) | (with_reducible refine Kd.C_drewN ?_ _) | (with_reducible refine Kd.C_drew ?_))); (case side2 => exact (Kd.R_reads' HO_933001.out).2.1); (case side3 => repeat (first | exact (Kd.R_reads' HO_4.out).2.2 | (with_reducible refine Kd.C_alloc ?_ _) | (with_reducible refine Kd.C_drewN ?_ _) | (with_reducible refine Kd.C_drew ?_))); (case side4 => exact (Kd.R_reads' HO_4.out).2.1); rintro e w27 ⟨v941, rfl, ho0, hb⟩; refine ⟨_, rfl, ?_⟩; replace HO_933001 := Aside0.mk (Kd.R_below (rk HO_933001) hb); have HO942 := Aside0.mk (Kd.R_lower (Kd.R_new' (Kd.R_new' ho0 (Kd.R_lt (rk HO_4))) (Kd.R_lt (rk HO_5))) (below_size (bl1 HB GE932))); replace HO_4 := Aside0.mk (Kd.R_elder' (rk HO_4) (Kd.R_base ho0) hb); replace HO_5 := Aside0.mk (Kd.R_elder' (rk HO_5) (Kd.R_base ho0) hb); replace BK932 := Aside0.mk (blk_below (bk BK932) hb); replace HB := Aside0.mk (below_step (bl1 HB GE932) hb); (try clear hb); (try clear hb2); (try clear hk); (try clear hi); (try clear ho0); obtain ⟨Ao28, co28, eo28⟩ := Kd.R_slice HO_5.out; subst eo28; obtain ⟨Ao29, co29, eo29⟩ := Kd.R_slice HO942.out; subst eo29) | ((with_reducible refine gate_callee (f := 21) rfl ?_); refine goesL_ (some 36) rfl rfl Try.func21 (by kernel_rfl) rfl #[.slice Ao28 t933.length co28, .slice Ao29 t940.length co29] rfl (by (try simp only [List.map_toArray, List.map_cons, List.map_nil]); first | done | rfl | (simp only [List.length_drop, List.length_take]; rfl)) ?_; (with_reducible refine (laws_wkInts.calls kj4 _ _ t933 _ _ t940 t943 _ ?side1 ?side2 ?side3 ?side4 A25.out).mono ?_); (case side1 => repeat (first | exact (Kd.R_reads' HO_5.out).2.2 | (with_reducible refine Kd.C_alloc ?_ _) | (with_reducible refine Kd.C_drewN ?_ _) | (with_reducible refine Kd.C_drew ?_))); (case side2 => exact (Kd.R_reads' HO_5.out).2.1); (case side3 => repeat (first | exact (Kd.R_reads' HO942.out).2.2 | (with_reducible refine Kd.C_alloc ?_ _) | (with_reducible refine Kd.C_drewN ?_ _) | (with_reducible refine Kd.C_drew ?_))); (case side4 => exact (Kd.R_reads' HO942.out).2.1); rintro e w' ⟨rfl, ⟨nd, rfl⟩⟩; refine ⟨_, rfl, ?_⟩))
   go_ret
   exact ⟨by first | rfl | (simp [errW_none, errW_some] <;> rfl) | (simp [*, errW_none, errW_some] <;> rfl), bl1 HB GE932⟩
  replace c23 := Bool.eq_false_iff.mpr c23
  subst c23
  rw [if_neg (show ¬ (false = true) by decide)] at H
  have H' := Aside0.mk H
  clear H
  go_wp2
  go_loopg [6] kj4 (fun kq v6 w' => ∃ (x6_2 : Int), v6 = .int .i64 x6_2 ∧ Aside0 (laws_FnTourNear.l0 kq t929 t933 x6_2 t925 t926 = some r) ∧ Aside0 (kq ≤ kj4) ∧ Aside0 (Kd.R (Kd.int .i64) 3 w' w.heap.size (fun k_ => some k_ ≠ (v934 : Value).ownBlock) (.slice Ao10 t929.length co10) t929) ∧ Aside0 (Kd.R (Kd.int .i64) 3 w' w.heap.size (fun k_ => some k_ ≠ ((.slice Ao10 t929.length co10) : Value).ownBlock) v934 t933) ∧ Aside0 (Kd.R k41 41 w' w.heap.size (fun _ => True) (.slice Ao9 t926.length co9) t926) ∧ Aside0 (w'.heap[gb932]? = some (.cells #[.int .i64 t925, (.slice Ao9 t926.length co9)] 25 (0, 0))) ∧ Aside0 (Below w.heap.size w w'))
  case atStart => exact ⟨(0), (by first | rfl | (simp; done) | (simp [*]; done)), H', ⟨Nat.le_refl _⟩, ⟨rk HO_4⟩, ⟨rk HO_5⟩, ⟨rk HO_933001⟩, ⟨bk BK932⟩, ⟨bl1 HB GE932⟩⟩
  clear H'
  try clear c1
  try clear c2
  try clear c2b0
  try clear c2b1
  try clear p2
  try clear c3
  try clear c7
  try clear c14
  try clear c21
  try clear c23
  try clear hcz15_0
  try clear hcz15_1
  try clear hcz19_0
  try clear hcz19_1
  try clear hcz26_0
  try clear hcz26_1
  try clear hcz8_0
  try clear hcz8_1
  try clear hfz15_0
  try clear hfz15_1
  try clear hfz19_0
  try clear hfz19_1
  try clear hfz26_0
  try clear hfz26_1
  try clear hfz8_0
  try clear hfz8_1
  try clear p2
  obtain ⟨x6_2, rfl, HA, HK2, HO_4, HO_5, HO_933001, BK932, HB⟩ := hrel
  cases gk with
  | zero => exact absurd HA.out (by simp [laws_FnTourNear.l0])
  | succ k2 =>
   have H := HA.out
   clear HA
   simp only [laws_FnTourNear.l0] at H
   by_cases c30 : (wrap64 (x6_2 + 1)) < (t933.length : Int)
   rotate_left
   ·rw [if_neg c30] at H
    have c30b0 : decide ((wrap64 (x6_2 + 1)) < (t933.length : Int)) = false := decide_eq_false c30
    clear c30
    have H' := Aside0.mk H
    clear H
    obtain ⟨Ao49, co49, eo49⟩ := Kd.R_slice HO_5.out
    subst eo49
    go_wp2
    go_loopg [9] k2 (fun kq v9 w' => ∃ (x9_3 : Int), v9 = .int .i64 x9_3 ∧ Aside0 (laws_FnTourNear.l2 kq t929 t933 x9_3 = some r) ∧ Aside0 (kq ≤ k2) ∧ Aside0 (Kd.R (Kd.int .i64) 3 w' w.heap.size (fun k_ => some k_ ≠ ((.slice Ao49 t933.length co49) : Value).ownBlock) (.slice Ao10 t929.length co10) t929) ∧ Aside0 (Kd.R (Kd.int .i64) 3 w' w.heap.size (fun k_ => some k_ ≠ ((.slice Ao10 t929.length co10) : Value).ownBlock) (.slice Ao49 t933.length co49) t933) ∧ Aside0 (Kd.R k41 41 w' w.heap.size (fun _ => True) (.slice Ao9 t926.length co9) t926) ∧ Aside0 (w'.heap[gb932]? = some (.cells #[.int .i64 t925, (.slice Ao9 t926.length co9)] 25 (0, 0))) ∧ Aside0 (Below w.heap.size w w'))
    case atStart => exact ⟨(0), (by first | rfl | (simp; done) | (simp [*]; done)), H', ⟨Nat.le_refl _⟩, ⟨rk HO_4⟩, ⟨rk HO_5⟩, ⟨rk HO_933001⟩, ⟨bk BK932⟩, ⟨bl1 HB GE932⟩⟩
    clear H'
    try clear c1
    try clear c2
    try clear c2b0
    try clear c2b1
    try clear p2
    try clear c3
    try clear c4
    try clear p6
    try clear c7
    try clear p9
    try clear q9
    try clear hx9
    try clear c14
    try clear c18
    try clear c21
    try clear c23
    try clear c30
    try clear c30b0
    try clear c31
    try clear c31b0
    try clear c32
    try clear c32b0
    try clear c33
    try clear c37
    try clear c37b0
    try clear c38
    try clear c38b0
    try clear c39
    try clear c39b0
    try clear c40
    try clear c40b0
    try clear c42
    try clear c42b0
    try clear c43
    try clear c43b0
    try clear c44
    try clear c44b0
    try clear c45
    try clear c45b0
    try clear c46
    try clear c46b0
    try clear hcz15_0
    try clear hcz15_1
    try clear hcz19_0
    try clear hcz19_1
    try clear hcz26_0
    try clear hcz26_1
    try clear hcz8_0
    try clear hcz8_1
    try clear hfz15_0
    try clear hfz15_1
    try clear hfz19_0
    try clear hfz19_1
    try clear hfz26_0
    try clear hfz26_1
    try clear hfz8_0
    try clear hfz8_1
    try clear hx944_0
    try clear hx948_0
    try clear hx949_0
    try clear hx950_0
    try clear hx951_0
    try clear p2
    try clear p6
    try clear p9
    try clear p944
    try clear p948
    try clear p949
    try clear p950
    try clear p951
    try clear q9
    try clear q944
    try clear q948
    try clear q949
    try clear q950
    try clear q951
    obtain ⟨x9_3, rfl, HA, HK3, HO_4, HO_5, HO_933001, BK932, HB⟩ := hrel
    cases gk with
    | zero => exact absurd HA.out (by simp [laws_FnTourNear.l2])
    | succ k3 =>
     have H := HA.out
     clear HA
     simp only [laws_FnTourNear.l2] at H
     by_cases c50 : x9_3 < (t929.length : Int)
     ·rw [if_pos c50] at H
      have c50b0 : decide (x9_3 < (t929.length : Int)) = true := decide_eq_true c50
      clear c50
      by_cases c51 : 0 ≤ x9_3
      rotate_left
      ·rw [if_neg c51] at H
       exact absurd H (by simp)
      rw [if_pos c51] at H
      have c51b0 : decide (0 ≤ x9_3) = true := decide_eq_true c51
      clear c51
      replace H := Option.bind_eq_some_iff.mp H
      obtain ⟨t953, A520, H⟩ := H
      have A52 := Aside0.mk A520
      clear A520
      by_cases c53 : t953 = true
      rotate_left
      ·replace c53 := Bool.eq_false_iff.mpr c53
       subst c53
       rw [if_neg (show ¬ (false = true) by decide)] at H
       exact absurd ((Option.some.inj H).trans hr_) Bool.false_ne_true
      subst c53
      rw [if_pos rfl] at H
      have H' := Aside0.mk H
      clear H
      have p952 : 0 ≤ (x9_3 : Int) := oT (by first | (with_reducible assumption) | assumption)
      have q952 : x9_3 < (t929.length : Int) := oT (by first | (with_reducible assumption) | assumption)
      obtain ⟨ad952, e952, hx952_0⟩ := Kd.at_int (Kd.R_reads' HO_4.out).2.2 x9_3 p952 q952
      cases e952
      replace p952 := eq_true p952
      replace q952 := eq_true q952
      go_wp2_with (first | ((with_reducible refine gate_callee (f := 25) rfl ?_); refine goesL_ (some 85) rfl rfl Try.func25 (by kernel_rfl) rfl #[.slice Ao49 t933.length co49, .int .i64 (rd t929 x9_3)] rfl (by (try simp only [List.map_toArray, List.map_cons, List.map_nil]); first | done | rfl | (simp only [List.length_drop, List.length_take]; rfl)) ?_; (with_reducible refine (laws_wkIn.calls k3 _ _ t933 (rd t929 x9_3) true _ ?side1 ?side2 A52.out).mono ?_); (case side1 => repeat (first | exact (Kd.R_reads' HO_5.out).2.2 | (with_reducible refine Kd.C_alloc ?_ _) | (with_reducible refine Kd.C_drewN ?_ _) | (with_reducible refine Kd.C_drew ?_))); (case side2 => exact (Kd.R_reads' HO_5.out).2.1); rintro e w' ⟨rfl, ⟨nd, rfl⟩⟩; refine ⟨_, rfl, ?_⟩))
      (try subst hji41)
      go_roundg k3
      case measure => have := HJ4.out; have := HK2.out; have := HK3.out; omega
      case rel => exact ⟨(wrap64 (x9_3 + 1)), (by first | rfl | (simp; done) | (simp [*]; done)), H', ⟨by have := HJ4.out; have := HK2.out; have := HK3.out; omega⟩, ⟨rk HO_4⟩, ⟨rk HO_5⟩, ⟨rk HO_933001⟩, ⟨bk BK932⟩, ⟨bl1 HB GE932⟩⟩
     rw [if_neg c50] at H
     have c50b0 : decide (x9_3 < (t929.length : Int)) = false := decide_eq_false c50
     clear c50
     by_cases c54 : (t933.length : Int) = (t929.length : Int)
     rotate_left
     ·rw [if_neg c54] at H
      have c54b0 : ((t933.length : Int) == (t929.length : Int)) = false := beq_eq_false_iff_ne.mpr c54
      have c54b1 : ((t933.length : Int) != (t929.length : Int)) = true := bne_iff_ne.mpr c54
      have c54b2 : (t933.length == t929.length) = false := by first | simpa using c54 | (simp at c54 ⊢; omega)
      exact absurd ((Option.some.inj H).trans hr_) Bool.false_ne_true
     rw [if_pos c54] at H
     have c54b0 : ((t933.length : Int) == (t929.length : Int)) = true := beq_iff_eq.mpr c54
     have c54b1 : ((t933.length : Int) != (t929.length : Int)) = false := bne_eq_false_iff_eq.mpr c54
     have c54b2 : (t933.length == t929.length) = true := by first | simpa using c54 | (simp at c54 ⊢; omega)
     clear c54
     by_cases c55 : 0 < (t933.length : Int)
     rotate_left
     ·rw [if_neg c55] at H
      exact absurd H (by simp)
     rw [if_pos c55] at H
     have c55b0 : decide (0 < (t933.length : Int)) = true := decide_eq_true c55
     have c55b1 : decide (0 < t933.length) = true := decide_eq_true (by omega)
     clear c55
     by_cases c56 : 0 < (t929.length : Int)
     rotate_left
     ·rw [if_neg c56] at H
      exact absurd H (by simp)
     rw [if_pos c56] at H
     have c56b0 : decide (0 < (t929.length : Int)) = true := decide_eq_true c56
     have c56b1 : decide (0 < t929.length) = true := decide_eq_true (by omega)
     clear c56
     obtain rfl := Option.some.inj H
     try go_wp2
     replace HO_4 := Aside0.mk (Kd.R_drew HO_4.out)
     replace HO_5 := Aside0.mk (Kd.R_drew HO_5.out)
     replace HO_933001 := Aside0.mk (Kd.R_drew HO_933001.out)
     replace BK932 := Aside0.mk (blk_drew BK932.out)
     replace HB := Aside0.mk (below_drew1 HB.out)
     have p954 : 0 ≤ (0 : Int) := (by omega)
     have q954 : 0 < (t933.length : Int) := oT (by first | (with_reducible assumption) | assumption)
     obtain ⟨ad954, e954, hx954_0⟩ := Kd.at_int (Kd.R_reads' HO_5.out).2.2 0 p954 q954
     cases e954
     have qi954 : (0 < t933.length) = True := eq_true (by omega)
     (try rw [show ((0 : Int)).toNat = 0 from rfl] at hx954_0)
     (try rw [Addr.add_zero'] at hx954_0)
     replace p954 := eq_true p954
     replace q954 := eq_true q954
     have p955 : 0 ≤ (0 : Int) := (by omega)
     have q955 : 0 < (t929.length : Int) := oT (by first | (with_reducible assumption) | assumption)
     obtain ⟨ad955, e955, hx955_0⟩ := Kd.at_int (Kd.R_reads' HO_4.out).2.2 0 p955 q955
     cases e955
     have qi955 : (0 < t929.length) = True := eq_true (by omega)
     (try rw [show ((0 : Int)).toNat = 0 from rfl] at hx955_0)
     (try rw [Addr.add_zero'] at hx955_0)
     replace p955 := eq_true p955
     replace q955 := eq_true q955
     refine start_ (n := 15) (S := fun w' => w'.cell? ad954 = some (.int .i64 (rd t933 0)) ∧ w'.cell? ad955 = some (.int .i64 (rd t929 0))) (ds := []) (ms 15 0) (by kernel_rfl) rfl (by kernel_rfl) ⟨hx954_0, hx955_0⟩ (fun hHeld => ?_); refine with_tabW laws_FnTourNear.tab21 laws_FnTourNear.bits21 (fun HT_ HW_ => ?_)
     generalize wr.drew = w57 at HO_4 HO_5 HO_933001 BK932 HB hx954_0 hx955_0 hHeld ⊢
     refine pure_ (i := 0) (N := some 87) (v := ?_) (a' := ?_) (ms 15 1) rfl rfl (any_of HT_.out (by kernel_rfl)) (fun _ _ _ h => h) (Or.inl ⟨by rfl, ?_⟩) ?_ ?_
     rotate_left
     ·intro w'
      go_simp
      with_reducible rfl
     rotate_left
     ·simp only [Act.put, sA, sB, sC, i64_w, i32_w]
      rfl
     refine pure_ (i := 1) (N := some 88) (v := ?_) (a' := ?_) (ms 15 3) rfl rfl (any_of HT_.out (by kernel_rfl)) (fun _ _ _ h => h) (Or.inl ⟨by rfl, ?_⟩) ?_ ?_
     rotate_left
     ·intro w'
      go_simp
      with_reducible rfl
     rotate_left
     ·simp only [Act.put, sA, sB, sC, i64_w, i32_w]
      rfl
     refine pure_ (i := 2) (N := some 89) (v := ?_) (a' := ?_) (ms 15 7) rfl rfl (any_of HT_.out (by kernel_rfl)) (fun _ _ _ h => h) (Or.inl ⟨by rfl, ?_⟩) ?_ ?_
     rotate_left
     ·intro w'
      go_simp
      with_reducible rfl
     rotate_left
     ·simp only [Act.put, sA, sB, sC, i64_w, i32_w]
      rfl
     refine pure_ (i := 3) (N := some 90) (v := ?_) (a' := ?_) (ms 15 15) rfl rfl (any_of HT_.out (by kernel_rfl)) (fun _ _ _ h => h) (Or.inl ⟨by rfl, ?_⟩) ?_ ?_
     rotate_left
     ·intro w'
      go_simp
      with_reducible rfl
     rotate_left
     ·simp only [Act.put, sA, sB, sC, i64_w, i32_w]
      rfl
     refine pure_ (i := 4) (N := some 91) (v := ?_) (a' := ?_) (ms 15 31) rfl rfl (any_of HT_.out (by kernel_rfl)) (fun _ _ _ h => h) (Or.inl ⟨by rfl, ?_⟩) ?_ ?_
     rotate_left
     ·intro w'
      go_simp
      with_reducible rfl
     rotate_left
     ·simp only [Act.put, sA, sB, sC, i64_w, i32_w]
      rfl
     refine pure_ (i := 5) (N := some 92) (v := ?_) (a' := ?_) (ms 15 63) rfl rfl (any_of HT_.out (by kernel_rfl)) (fun _ _ _ h => h) (Or.inl ⟨by rfl, ?_⟩) ?_ ?_
     rotate_left
     ·intro w'
      go_simp
      with_reducible rfl
     rotate_left
     ·simp only [Act.put, sA, sB, sC, i64_w, i32_w]
      rfl
     refine pure_ (i := 6) (N := some 93) (v := ?_) (a' := ?_) (ms 15 127) rfl rfl (any_of HT_.out (by kernel_rfl)) (fun _ _ _ h => h) (Or.inl ⟨by rfl, ?_⟩) ?_ ?_
     rotate_left
     ·intro w'
      go_simp
      with_reducible rfl
     rotate_left
     ·simp only [Act.put, sA, sB, sC, i64_w, i32_w]
      rfl
     refine pure_ (i := 7) (N := some 94) (v := ?_) (a' := ?_) (ms 15 255) rfl rfl (any_of HT_.out (by kernel_rfl)) (fun _ _ _ h => h) (Or.inl ⟨by rfl, ?_⟩) ?_ ?_
     rotate_left
     ·intro w'
      go_simp
      with_reducible rfl
     rotate_left
     ·simp only [Act.put, sA, sB, sC, i64_w, i32_w]
      rfl
     refine pure_ (i := 9) (N := some 96) (v := ?_) (a' := ?_) (ms 15 767) rfl rfl (any_of HT_.out (by kernel_rfl)) (fun _ _ _ h => h) (Or.inl ⟨by rfl, ?_⟩) ?_ ?_
     rotate_left
     ·intro w'
      go_simp
      with_reducible rfl
     rotate_left
     ·simp only [Act.put, sA, sB, sC, i64_w, i32_w]
      rfl
     refine pure_ (i := 10) (N := some 97) (v := ?_) (a' := ?_) (ms 15 1791) rfl rfl (any_of HT_.out (by kernel_rfl)) (fun _ _ _ h => h) (Or.inl ⟨by rfl, ?_⟩) ?_ ?_
     rotate_left
     ·intro w'
      go_simp
      with_reducible rfl
     rotate_left
     ·simp only [Act.put, sA, sB, sC, i64_w, i32_w]
      rfl
     refine take_ (i := 8) (N := some 95) (v := ?_) (a' := ?_) (ms 15 2047) rfl rfl (take_ofW HT_.out HW_.out (by kernel_rfl)) (fun _ _ _ h => h) (Or.inl ⟨by rfl, ?_⟩) hHeld ?_ ?_
     rotate_left
     ·rintro w' ⟨s0, s1⟩
      go_simp
      with_reducible rfl
     rotate_left
     ·simp only [Act.put, sA, sB, sC, i64_w, i32_w]
      rfl
     refine take_ (i := 11) (N := some 98) (v := ?_) (a' := ?_) (ms 15 4095) rfl rfl (take_ofW HT_.out HW_.out (by kernel_rfl)) (fun _ _ _ h => h) (Or.inl ⟨by rfl, ?_⟩) hHeld ?_ ?_
     rotate_left
     ·rintro w' ⟨s0, s1⟩
      go_simp
      with_reducible rfl
     rotate_left
     ·simp only [Act.put, sA, sB, sC, i64_w, i32_w]
      rfl
     refine pure_ (i := 12) (N := some 99) (v := ?_) (a' := ?_) (ms 15 8191) rfl rfl (any_of HT_.out (by kernel_rfl)) (fun _ _ _ h => h) (Or.inl ⟨by rfl, ?_⟩) ?_ ?_
     rotate_left
     ·intro w'
      go_simp
      with_reducible rfl
     rotate_left
     ·simp only [Act.put, sA, sB, sC, i64_w, i32_w]
      rfl
     refine pure_ (i := 13) (N := some 100) (v := ?_) (a' := ?_) (ms 15 16383) rfl rfl (any_of HT_.out (by kernel_rfl)) (fun _ _ _ h => h) (Or.inl ⟨by rfl, ?_⟩) ?_ ?_
     rotate_left
     ·intro w'
      go_simp
      with_reducible rfl
     rotate_left
     ·simp only [Act.put, sA, sB, sC, i64_w, i32_w]
      rfl
     refine pure_ (i := 14) (N := some 2) (v := ?_) (a' := ?_) (ms 15 32767) rfl rfl (any_of HT_.out (by kernel_rfl)) (fun _ _ _ h => h) (Or.inl ⟨by rfl, ?_⟩) ?_ ?_
     rotate_left
     ·intro w'
      go_simp
      with_reducible rfl
     rotate_left
     ·simp only [Act.put, sA, sB, sC, i64_w, i32_w]
      rfl
     refine done_ (done_of HT_.out (by kernel_rfl)) ?_
     try go_wp2
     go_ret
     exact ⟨by first | rfl | (simp [errW_none, errW_some] <;> rfl) | (simp [*, errW_none, errW_some] <;> rfl), bl1 HB GE932⟩
   rw [if_pos c30] at H
   have c30b0 : decide ((wrap64 (x6_2 + 1)) < (t933.length : Int)) = true := decide_eq_true c30
   clear c30
   by_cases c31 : 0 ≤ x6_2
   rotate_left
   ·rw [if_neg c31] at H
    exact absurd H (by simp)
   rw [if_pos c31] at H
   have c31b0 : decide (0 ≤ x6_2) = true := decide_eq_true c31
   clear c31
   by_cases c32 : x6_2 < (t933.length : Int)
   rotate_left
   ·rw [if_neg c32] at H
    exact absurd H (by simp)
   rw [if_pos c32] at H
   have c32b0 : decide (x6_2 < (t933.length : Int)) = true := decide_eq_true c32
   clear c32
   replace H := Option.bind_eq_some_iff.mp H
   obtain ⟨t945, A330, H⟩ := H
   have A33 := Aside0.mk A330
   clear A330
   have H' := Aside0.mk H
   clear H
   obtain ⟨Ao34, co34, eo34⟩ := Kd.R_slice HO_5.out
   subst eo34
   try go_wp2
   replace HO_4 := Aside0.mk (Kd.R_drew HO_4.out)
   replace HO_5 := Aside0.mk (Kd.R_drew HO_5.out)
   replace HO_933001 := Aside0.mk (Kd.R_drew HO_933001.out)
   replace BK932 := Aside0.mk (blk_drew BK932.out)
   replace HB := Aside0.mk (below_drew1 HB.out)
   have p944 : 0 ≤ (x6_2 : Int) := oT (by first | (with_reducible assumption) | assumption)
   have q944 : x6_2 < (t933.length : Int) := oT (by first | (with_reducible assumption) | assumption)
   obtain ⟨ad944, e944, hx944_0⟩ := Kd.at_int (Kd.R_reads' HO_5.out).2.2 x6_2 p944 q944
   cases e944
   replace p944 := eq_true p944
   replace q944 := eq_true q944
   refine start_ (n := 7) (S := fun w' => w'.cell? ⟨gb932, 0, none⟩ = some (.int .i64 t925) ∧ w'.cell? ⟨gb932, 1, none⟩ = some (.slice Ao9 t926.length co9) ∧ w'.cell? (ad944.add (x6_2).toNat) = some (.int .i64 (rd t933 x6_2))) (ds := []) (ms 7 0) (by kernel_rfl) rfl (by kernel_rfl) ⟨(blk_cell BK932.out 0).trans rfl, (blk_cell BK932.out 1).trans rfl, hx944_0⟩ (fun hHeld => ?_)
   generalize wr.drew = w35 at HO_4 HO_5 HO_933001 BK932 HB hx944_0 hHeld ⊢
   refine pure_ (i := 1) (N := some 45) (v := ?_) (a' := ?_) (ms 7 2) rfl rfl (by kernel_rfl) (fun _ _ _ h => h) (Or.inl ⟨by rfl, ?_⟩) ?_ ?_
   rotate_left
   ·intro w'
    go_simp
    with_reducible rfl
   rotate_left
   ·simp only [Act.put, sA, sB, sC, i64_w, i32_w]
    rfl
   refine pure_ (i := 2) (N := some 46) (v := ?_) (a' := ?_) (ms 7 6) rfl rfl (by kernel_rfl) (fun _ _ _ h => h) (Or.inl ⟨by rfl, ?_⟩) ?_ ?_
   rotate_left
   ·intro w'
    go_simp
    with_reducible rfl
   rotate_left
   ·simp only [Act.put, sA, sB, sC, i64_w, i32_w]
    rfl
   refine pure_ (i := 3) (N := some 47) (v := ?_) (a' := ?_) (ms 7 14) rfl rfl (by kernel_rfl) (fun _ _ _ h => h) (Or.inl ⟨by rfl, ?_⟩) ?_ ?_
   rotate_left
   ·intro w'
    go_simp
    with_reducible rfl
   rotate_left
   ·simp only [Act.put, sA, sB, sC, i64_w, i32_w]
    rfl
   refine take_ (i := 0) (N := some 44) (v := ?_) (a' := ?_) (ms 7 15) rfl rfl (by kernel_rfl) (fun _ _ _ h => h) (Or.inl ⟨by rfl, ?_⟩) hHeld ?_ ?_
   rotate_left
   ·rintro w' ⟨s0, s1, s2⟩
    go_simp
    with_reducible rfl
   rotate_left
   ·simp only [Act.put, sA, sB, sC, i64_w, i32_w]
    rfl
   refine take_ (i := 4) (N := some 48) (v := ?_) (a' := ?_) (ms 7 31) rfl rfl (by kernel_rfl) (fun _ _ _ h => h) (Or.inl ⟨by rfl, ?_⟩) hHeld ?_ ?_
   rotate_left
   ·rintro w' ⟨s0, s1, s2⟩
    go_simp
    with_reducible rfl
   rotate_left
   ·simp only [Act.put, sA, sB, sC, i64_w, i32_w]
    rfl
   refine one_ (i := 5) (N := some 49) (ms 7 63) rfl rfl (by kernel_rfl) (by decide) (fun K hK => ?_)
   refine goes_ Try.func18 (by kernel_rfl) rfl #[.agg #[.int .i64 t925, .slice Ao9 t926.length co9], .int .i64 (rd t933 x6_2)] (by rfl) rfl rfl (by (try simp only [List.map_toArray, List.map_cons, List.map_nil]); first | done | rfl | (simp only [List.length_drop, List.length_take]; rfl)) ?_
   with_reducible refine (impl_NearAll.calls k2 t925 _ _ t926 (rd t933 x6_2) t945 _ ?side1 ?side2 A33.out).mono ?_
   (case side1 => repeat (first | exact (Kd.R_reads' HO_933001.out).2.2 | (with_reducible refine Kd.C_alloc ?_ _) | (with_reducible refine Kd.C_drewN ?_ _) | (with_reducible refine Kd.C_drew ?_)))
   (case side2 => exact (Kd.R_reads' HO_933001.out).2.1)
   rintro e w36 ⟨v946, rfl, ho0, hb⟩
   have HS2_ := (hb.cell (World.block_lt_of_cell? _ _ (hHeld.2.2))).trans (hHeld.2.2)
   refine ⟨_, rfl, ?_⟩
   replace HO_933001 := Aside0.mk (Kd.R_below (rk HO_933001) hb)
   have HO947 := Aside0.mk (Kd.R_lower (Kd.R_new' (Kd.R_new' ho0 (Kd.R_lt (rk HO_4))) (Kd.R_lt (rk HO_5))) (below_size (bl1 HB GE932)))
   replace HO_4 := Aside0.mk (Kd.R_elder' (rk HO_4) (Kd.R_base ho0) hb)
   replace HO_5 := Aside0.mk (Kd.R_elder' (rk HO_5) (Kd.R_base ho0) hb)
   replace BK932 := Aside0.mk (blk_below (bk BK932) hb)
   replace HB := Aside0.mk (below_step (bl1 HB GE932) hb)
   (try clear hb)
   (try clear hb2)
   (try clear hk)
   (try clear hi)
   (try clear ho0)
   refine hK.out _ _ ⟨(blk_cell BK932.out 0).trans rfl, (blk_cell BK932.out 1).trans rfl, HS2_⟩ (fun hHeld => ?_)
   clear hK K
   refine norm_ (a' := ?_) ?_ ?_
   rotate_left
   ·show Act.put _ (some 49) _ = _
    simp only [Act.put, sA, sB, sC, i64_w, i32_w]
    rfl
   refine pure_ (i := 6) (N := some 7) (v := ?_) (a' := ?_) (ms 7 127) rfl rfl (by kernel_rfl) (fun _ _ _ h => h) (Or.inl ⟨by rfl, ?_⟩) ?_ ?_
   rotate_left
   ·intro w'
    go_simp
    with_reducible rfl
   rotate_left
   ·simp only [Act.put, sA, sB, sC, i64_w, i32_w]
    rfl
   refine done_ (by kernel_rfl) ?_
   try go_wp2
   go_loopg [8] k2 (fun kq v8 w' => ∃ (x8_3 : Int), v8 = .int .i64 x8_3 ∧ Aside0 (laws_FnTourNear.l1 kq t929 t933 x6_2 t945 x8_3 t925 t926 = some r) ∧ Aside0 (kq ≤ k2) ∧ Aside0 (Kd.R (Kd.int .i64) 3 w' w.heap.size (fun k_ => some k_ ≠ ((.slice (some ad944) t933.length co34) : Value).ownBlock ∧ some k_ ≠ (v946 : Value).ownBlock) (.slice Ao10 t929.length co10) t929) ∧ Aside0 (Kd.R (Kd.int .i64) 3 w' w.heap.size (fun k_ => some k_ ≠ ((.slice Ao10 t929.length co10) : Value).ownBlock ∧ some k_ ≠ (v946 : Value).ownBlock) (.slice (some ad944) t933.length co34) t933) ∧ Aside0 (Kd.R (Kd.int .i64) 3 w' w.heap.size (fun k_ => some k_ ≠ ((.slice Ao10 t929.length co10) : Value).ownBlock ∧ some k_ ≠ ((.slice (some ad944) t933.length co34) : Value).ownBlock) v946 t945) ∧ Aside0 (Kd.R k41 41 w' w.heap.size (fun _ => True) (.slice Ao9 t926.length co9) t926) ∧ Aside0 (w'.heap[gb932]? = some (.cells #[.int .i64 t925, (.slice Ao9 t926.length co9)] 25 (0, 0))) ∧ Aside0 (Below w.heap.size w w'))
   case atStart => exact ⟨(wrap64 (x6_2 + 1)), (by first | rfl | (simp; done) | (simp [*]; done)), H', ⟨Nat.le_refl _⟩, ⟨rk HO_4⟩, ⟨rk HO_5⟩, ⟨by (with_reducible repeat (first | apply Kd.R_alloc | apply Kd.R_drewN | apply Kd.R_drew)); exact Kd.R_mono HO947.out (fun _ hk => ⟨hk.1.2, hk.2⟩)⟩, ⟨rk HO_933001⟩, ⟨bk BK932⟩, ⟨bl1 HB GE932⟩⟩
   clear H'
   try clear c1
   try clear c2
   try clear c2b0
   try clear c2b1
   try clear p2
   try clear c3
   try clear p6
   try clear c7
   try clear p9
   try clear q9
   try clear hx9
   try clear c14
   try clear c18
   try clear c21
   try clear c23
   try clear c30
   try clear c30b0
   try clear c31
   try clear c31b0
   try clear c32
   try clear c32b0
   try clear c33
   try clear hcz15_0
   try clear hcz15_1
   try clear hcz19_0
   try clear hcz19_1
   try clear hcz26_0
   try clear hcz26_1
   try clear hcz8_0
   try clear hcz8_1
   try clear hfz15_0
   try clear hfz15_1
   try clear hfz19_0
   try clear hfz19_1
   try clear hfz26_0
   try clear hfz26_1
   try clear hfz8_0
   try clear hfz8_1
   try clear hx944_0
   try clear p2
   try clear p944
   try clear q944
   obtain ⟨x8_3, rfl, HA, HK3, HO_4, HO_5, HO_7, HO_933001, BK932, HB⟩ := hrel
   cases gk with
   | zero => exact absurd HA.out (by simp [laws_FnTourNear.l1])
   | succ k3 =>
    have H := HA.out
    clear HA
    simp only [laws_FnTourNear.l1] at H
    by_cases c37 : x8_3 < (t933.length : Int)
    rotate_left
    ·rw [if_neg c37] at H
     have c37b0 : decide (x8_3 < (t933.length : Int)) = false := decide_eq_false c37
     clear c37
     have H' := Aside0.mk H
     clear H
     go_wp2
     (try subst hji41)
     go_roundg k3
     case measure => have := HJ4.out; have := HK2.out; have := HK3.out; omega
     case rel => exact ⟨(wrap64 (x6_2 + 1)), (by first | rfl | (simp; done) | (simp [*]; done)), H', ⟨by have := HJ4.out; have := HK2.out; have := HK3.out; omega⟩, ⟨by (with_reducible repeat (first | apply Kd.R_alloc | apply Kd.R_drewN | apply Kd.R_drew)); exact Kd.R_mono HO_4.out (fun _ hk => hk.1)⟩, ⟨by (with_reducible repeat (first | apply Kd.R_alloc | apply Kd.R_drewN | apply Kd.R_drew)); exact Kd.R_mono HO_5.out (fun _ hk => hk.1)⟩, ⟨rk HO_933001⟩, ⟨bk BK932⟩, ⟨bl1 HB GE932⟩⟩
    rw [if_pos c37] at H
    have c37b0 : decide (x8_3 < (t933.length : Int)) = true := decide_eq_true c37
    clear c37
    by_cases c38 : 0 ≤ x8_3
    rotate_left
    ·rw [if_neg c38] at H
     exact absurd H (by simp)
    rw [if_pos c38] at H
    have c38b0 : decide (0 ≤ x8_3) = true := decide_eq_true c38
    clear c38
    by_cases c39 : 0 ≤ (rd t933 x8_3)
    rotate_left
    ·rw [if_neg c39] at H
     exact absurd H (by simp)
    rw [if_pos c39] at H
    have c39b0 : decide (0 ≤ (rd t933 x8_3)) = true := decide_eq_true c39
    clear c39
    by_cases c40 : (rd t933 x8_3) < (t945.length : Int)
    rotate_left
    ·rw [if_neg c40] at H
     exact absurd H (by simp)
    rw [if_pos c40] at H
    have c40b0 : decide ((rd t933 x8_3) < (t945.length : Int)) = true := decide_eq_true c40
    clear c40
    obtain ⟨ji41, hji41⟩ : ∃ j_ : Int, (wrap64 (x6_2 + 1)) = j_ := ⟨_, rfl⟩
    replace H : (if 0 ≤ (ji41) then (if (ji41) < (t933.length : Int) then (if 0 ≤ (rd t933 (ji41)) then (if (rd t933 (ji41)) < (t945.length : Int) then (if (rd t945 (rd t933 x8_3)) < (rd t945 (rd t933 (ji41))) then (some false) else (laws_FnTourNear.l1 k3 t929 t933 x6_2 t945 (wrap64 (x8_3 + 1)) t925 t926)) else (none)) else (none)) else (none)) else (none)) = some r := by first | (rw [hji41] at H; exact H) | (simp only [hji41] at H ⊢; exact H)
    (try rw [hji41] at c30b0)
    have hji41w : (IntKind.i64.wrap (x6_2 + 1)) = ji41 := (i64_w _).trans hji41
    by_cases c42 : 0 ≤ (ji41)
    rotate_left
    ·rw [if_neg c42] at H
     exact absurd H (by simp)
    rw [if_pos c42] at H
    have c42b0 : decide (0 ≤ (ji41)) = true := decide_eq_true c42
    clear c42
    by_cases c43 : (ji41) < (t933.length : Int)
    rotate_left
    ·rw [if_neg c43] at H
     exact absurd H (by simp)
    rw [if_pos c43] at H
    have c43b0 : decide ((ji41) < (t933.length : Int)) = true := decide_eq_true c43
    clear c43
    by_cases c44 : 0 ≤ (rd t933 (ji41))
    rotate_left
    ·rw [if_neg c44] at H
     exact absurd H (by simp)
    rw [if_pos c44] at H
    have c44b0 : decide (0 ≤ (rd t933 (ji41))) = true := decide_eq_true c44
    clear c44
    by_cases c45 : (rd t933 (ji41)) < (t945.length : Int)
    rotate_left
    ·rw [if_neg c45] at H
     exact absurd H (by simp)
    rw [if_pos c45] at H
    have c45b0 : decide ((rd t933 (ji41)) < (t945.length : Int)) = true := decide_eq_true c45
    clear c45
    by_cases c46 : (rd t945 (rd t933 x8_3)) < (rd t945 (rd t933 (ji41)))
    ·rw [if_pos c46] at H
     have c46b0 : decide ((rd t945 (rd t933 x8_3)) < (rd t945 (rd t933 (ji41)))) = true := decide_eq_true c46
     clear c46
     exact absurd ((Option.some.inj H).trans hr_) Bool.false_ne_true
    rw [if_neg c46] at H
    have c46b0 : decide ((rd t945 (rd t933 x8_3)) < (rd t945 (rd t933 (ji41)))) = false := decide_eq_false c46
    clear c46
    have H' := Aside0.mk H
    clear H
    try go_wp2
    replace HO_4 := Aside0.mk (Kd.R_drew HO_4.out)
    replace HO_5 := Aside0.mk (Kd.R_drew HO_5.out)
    replace HO_7 := Aside0.mk (Kd.R_drew HO_7.out)
    replace HO_933001 := Aside0.mk (Kd.R_drew HO_933001.out)
    replace BK932 := Aside0.mk (blk_drew BK932.out)
    replace HB := Aside0.mk (below_drew1 HB.out)
    have p948 : 0 ≤ (x8_3 : Int) := oT (by first | (with_reducible assumption) | assumption)
    have q948 : x8_3 < (t933.length : Int) := oT (by first | (with_reducible assumption) | assumption)
    obtain ⟨ad948, e948, hx948_0⟩ := Kd.at_int (Kd.R_reads' HO_5.out).2.2 x8_3 p948 q948
    obtain rfl : ad944 = ad948 := (by injection e948)
    replace p948 := eq_true p948
    replace q948 := eq_true q948
    obtain ⟨Ao48, co48, eo48⟩ := Kd.R_slice HO_7.out
    (first | subst eo48 | (injection eo48 with f1_ f2_ f3_; have f4_ := f1_.symm; have f5_ := f3_.symm; clear f1_ f2_ f3_; subst f4_; subst f5_))
    have p949 : 0 ≤ ((rd t933 x8_3) : Int) := oT (by first | (with_reducible assumption) | assumption)
    have q949 : (rd t933 x8_3) < (t945.length : Int) := oT (by first | (with_reducible assumption) | assumption)
    obtain ⟨ad949, e949, hx949_0⟩ := Kd.at_int (Kd.R_reads' HO_7.out).2.2 (rd t933 x8_3) p949 q949
    cases e949
    replace p949 := eq_true p949
    replace q949 := eq_true q949
    have p950 : 0 ≤ ((ji41) : Int) := oT (by first | (with_reducible assumption) | assumption)
    have q950 : (ji41) < (t933.length : Int) := oT (by first | (with_reducible assumption) | assumption)
    obtain ⟨ad950, e950, hx950_0⟩ := Kd.at_int (Kd.R_reads' HO_5.out).2.2 (ji41) p950 q950
    obtain rfl : ad944 = ad950 := (by injection e950)
    replace p950 := eq_true p950
    replace q950 := eq_true q950
    have p951 : 0 ≤ ((rd t933 (ji41)) : Int) := oT (by first | (with_reducible assumption) | assumption)
    have q951 : (rd t933 (ji41)) < (t945.length : Int) := oT (by first | (with_reducible assumption) | assumption)
    obtain ⟨ad951, e951, hx951_0⟩ := Kd.at_int (Kd.R_reads' HO_7.out).2.2 (rd t933 (ji41)) p951 q951
    obtain rfl : ad949 = ad951 := (by injection e951)
    replace p951 := eq_true p951
    replace q951 := eq_true q951
    refine start_ (n := 16) (S := fun w' => w'.cell? (ad944.add (x8_3).toNat) = some (.int .i64 (rd t933 x8_3)) ∧ w'.cell? (ad949.add ((rd t933 x8_3)).toNat) = some (.int .i64 (rd t945 (rd t933 x8_3))) ∧ w'.cell? (ad944.add ((ji41)).toNat) = some (.int .i64 (rd t933 (ji41))) ∧ w'.cell? (ad949.add ((rd t933 (ji41))).toNat) = some (.int .i64 (rd t945 (rd t933 (ji41))))) (ds := []) (ms 16 0) (by kernel_rfl) rfl (by kernel_rfl) ⟨hx948_0, hx949_0, hx950_0, hx951_0⟩ (fun hHeld => ?_); refine with_tabW laws_FnTourNear.tab14 laws_FnTourNear.bits14 (fun HT_ HW_ => ?_)
    generalize wr.drew = w47 at HO_4 HO_5 HO_7 HO_933001 BK932 HB hx948_0 hx949_0 hx950_0 hx951_0 hHeld ⊢
    refine pure_ (i := 0) (N := some 58) (v := ?_) (a' := ?_) (ms 16 1) rfl rfl (any_of HT_.out (by kernel_rfl)) (fun _ _ _ h => h) (Or.inl ⟨by rfl, ?_⟩) ?_ ?_
    rotate_left
    ·intro w'
     go_simp
     with_reducible rfl
    rotate_left
    ·simp only [Act.put, sA, sB, sC, i64_w, i32_w]
     rfl
    refine pure_ (i := 1) (N := some 59) (v := ?_) (a' := ?_) (ms 16 3) rfl rfl (any_of HT_.out (by kernel_rfl)) (fun _ _ _ h => h) (Or.inl ⟨by rfl, ?_⟩) ?_ ?_
    rotate_left
    ·intro w'
     go_simp
     with_reducible rfl
    rotate_left
    ·simp only [Act.put, sA, sB, sC, i64_w, i32_w]
     rfl
    refine pure_ (i := 2) (N := some 60) (v := ?_) (a' := ?_) (ms 16 7) rfl rfl (any_of HT_.out (by kernel_rfl)) (fun _ _ _ h => h) (Or.inl ⟨by rfl, ?_⟩) ?_ ?_
    rotate_left
    ·intro w'
     go_simp
     with_reducible rfl
    rotate_left
    ·simp only [Act.put, sA, sB, sC, i64_w, i32_w]
     rfl
    refine pure_ (i := 3) (N := some 61) (v := ?_) (a' := ?_) (ms 16 15) rfl rfl (any_of HT_.out (by kernel_rfl)) (fun _ _ _ h => h) (Or.inl ⟨by rfl, ?_⟩) ?_ ?_
    rotate_left
    ·intro w'
     go_simp
     with_reducible rfl
    rotate_left
    ·simp only [Act.put, sA, sB, sC, i64_w, i32_w]
     rfl
    refine pure_ (i := 7) (N := some 65) (v := ?_) (a' := ?_) (ms 16 143) rfl rfl (any_of HT_.out (by kernel_rfl)) (fun _ _ _ h => h) (Or.inl ⟨by rfl, ?_⟩) ?_ ?_
    rotate_left
    ·intro w'
     go_simp
     with_reducible rfl
    rotate_left
    ·simp only [Act.put, sA, sB, sC, i64_w, i32_w]
     rfl
    refine pure_ (i := 8) (N := some 66) (v := ?_) (a' := ?_) (ms 16 399) rfl rfl (any_of HT_.out (by kernel_rfl)) (fun _ _ _ h => h) (Or.inl ⟨by rfl, ?_⟩) ?_ ?_
    rotate_left
    ·intro w'
     go_simp
     with_reducible rfl
    rotate_left
    ·simp only [Act.put, sA, sB, sC, i64_w, i32_w]
     rfl
    refine pure_ (i := 9) (N := some 67) (v := ?_) (a' := ?_) (ms 16 911) rfl rfl (any_of HT_.out (by kernel_rfl)) (fun _ _ _ h => h) (Or.inl ⟨by rfl, ?_⟩) ?_ ?_
    rotate_left
    ·intro w'
     go_simp
     with_reducible rfl
    rotate_left
    ·simp only [Act.put, sA, sB, sC, i64_w, i32_w]
     rfl
    refine pure_ (i := 10) (N := some 68) (v := ?_) (a' := ?_) (ms 16 1935) rfl rfl (any_of HT_.out (by kernel_rfl)) (fun _ _ _ h => h) (Or.inl ⟨by rfl, ?_⟩) ?_ ?_
    rotate_left
    ·intro w'
     go_simp
     with_reducible rfl
    rotate_left
    ·simp only [Act.put, sA, sB, sC, i64_w, i32_w]
     rfl
    refine pure_ (i := 11) (N := some 69) (v := ?_) (a' := ?_) (ms 16 3983) rfl rfl (any_of HT_.out (by kernel_rfl)) (fun _ _ _ h => h) (Or.inl ⟨by rfl, ?_⟩) ?_ ?_
    rotate_left
    ·intro w'
     go_simp
     with_reducible rfl
    rotate_left
    ·simp only [Act.put, sA, sB, sC, i64_w, i32_w]
     rfl
    refine take_ (i := 4) (N := some 62) (v := ?_) (a' := ?_) (ms 16 3999) rfl rfl (take_ofW HT_.out HW_.out (by kernel_rfl)) (fun _ _ _ h => h) (Or.inl ⟨by rfl, ?_⟩) hHeld ?_ ?_
    rotate_left
    ·rintro w' ⟨s0, s1, s2, s3⟩
     go_simp
     with_reducible rfl
    rotate_left
    ·simp only [Act.put, sA, sB, sC, i64_w, i32_w]
     rfl
    refine pure_ (i := 5) (N := some 63) (v := ?_) (a' := ?_) (ms 16 4031) rfl rfl (any_of HT_.out (by kernel_rfl)) (fun _ _ _ h => h) (Or.inl ⟨by rfl, ?_⟩) ?_ ?_
    rotate_left
    ·intro w'
     go_simp
     with_reducible rfl
    rotate_left
    ·simp only [Act.put, sA, sB, sC, i64_w, i32_w]
     rfl
    refine take_ (i := 6) (N := some 64) (v := ?_) (a' := ?_) (ms 16 4095) rfl rfl (take_ofW HT_.out HW_.out (by kernel_rfl)) (fun _ _ _ h => h) (Or.inl ⟨by rfl, ?_⟩) hHeld ?_ ?_
    rotate_left
    ·rintro w' ⟨s0, s1, s2, s3⟩
     go_simp
     with_reducible rfl
    rotate_left
    ·simp only [Act.put, sA, sB, sC, i64_w, i32_w]
     rfl
    refine take_ (i := 12) (N := some 70) (v := ?_) (a' := ?_) (ms 16 8191) rfl rfl (take_ofW HT_.out HW_.out (by kernel_rfl)) (fun _ _ _ h => h) (Or.inl ⟨by rfl, ?_⟩) hHeld ?_ ?_
    rotate_left
    ·rintro w' ⟨s0, s1, s2, s3⟩
     go_simp
     with_reducible rfl
    rotate_left
    ·simp only [Act.put, sA, sB, sC, i64_w, i32_w]
     rfl
    refine pure_ (i := 13) (N := some 71) (v := ?_) (a' := ?_) (ms 16 16383) rfl rfl (any_of HT_.out (by kernel_rfl)) (fun _ _ _ h => h) (Or.inl ⟨by rfl, ?_⟩) ?_ ?_
    rotate_left
    ·intro w'
     go_simp
     with_reducible rfl
    rotate_left
    ·simp only [Act.put, sA, sB, sC, i64_w, i32_w]
     rfl
    refine take_ (i := 14) (N := some 72) (v := ?_) (a' := ?_) (ms 16 32767) rfl rfl (take_ofW HT_.out HW_.out (by kernel_rfl)) (fun _ _ _ h => h) (Or.inl ⟨by rfl, ?_⟩) hHeld ?_ ?_
    rotate_left
    ·rintro w' ⟨s0, s1, s2, s3⟩
     go_simp
     with_reducible rfl
    rotate_left
    ·simp only [Act.put, sA, sB, sC, i64_w, i32_w]
     rfl
    refine pure_ (i := 15) (N := some 73) (v := ?_) (a' := ?_) (ms 16 65535) rfl rfl (any_of HT_.out (by kernel_rfl)) (fun _ _ _ h => h) (Or.inl ⟨by rfl, ?_⟩) ?_ ?_
    rotate_left
    ·intro w'
     go_simp
     with_reducible rfl
    rotate_left
    ·simp only [Act.put, sA, sB, sC, i64_w, i32_w]
     rfl
    refine done_ (done_of HT_.out (by kernel_rfl)) ?_
    try go_wp2
    (try subst hji41)
    go_roundg k3
    case measure => have := HJ4.out; have := HK2.out; have := HK3.out; omega
    case rel => exact ⟨(wrap64 (x8_3 + 1)), (by first | rfl | (simp; done) | (simp [*]; done)), H', ⟨by have := HJ4.out; have := HK2.out; have := HK3.out; omega⟩, ⟨rk HO_4⟩, ⟨rk HO_5⟩, ⟨rk HO_7⟩, ⟨rk HO_933001⟩, ⟨bk BK932⟩, ⟨bl1 HB GE932⟩⟩

/-- THE ONE PURE STATEMENT of laws_FnTourNear: yours. -/
def laws_FnTourNear.Pure : Prop := ∀ (l0 : List Int), l0.length ≤ maxLen → l0.length * 1 ≤ 140737488351232 → (∀ x ∈ l0, (Lit.int .u8 x).wf = true) → ∃ k, laws_FnTourNear.f k l0 = some true
theorem laws_FnTourNear.walk (P : laws_FnTourNear.Pure) (a0 : Option Addr) (len0 cap0 : Nat) (z0 : List Int) (w : World) (w0 : (a0 = none ∧ len0 = 0 ∧ cap0 = 0 ∧ z0 = []) ∨ ∃ x, a0 = some x ∧ len0 ≤ cap0 ∧ cap0 ≤ maxLen ∧ z0.length = cap0 ∧ (∀ i, i < z0.length → w.cell? (x.add i) = some (.int .u8 (z0.getD i 0))) ∧ ∀ n ∈ z0, (Lit.int .u8 n).wf = true) (y0 : len0 * 1 ≤ 140737488351232) :
  Calls Try.prog 7 #[.slice a0 len0 cap0] w fun e w' => e = .returned (.bool true) ∧ Below w.heap.size w w' := by
 obtain ⟨l0, rfl, hr0, hm0, hw0, hc0⟩ := ReadsInt.ofRowC w0
 obtain ⟨k, h⟩ := P l0 hm0 y0 hw0
 refine (laws_FnTourNear.calls k _ _ l0 true w (Kd.C_of_reads (d := (0 : Int)) (h1 := fun _ => rfl) hr0) hc0 h rfl).mono ?_
 rintro e w' ⟨rfl, hd⟩
 exact ⟨rfl, hd⟩

end Go.Proofs.Ytgickejeakmenaa.F
