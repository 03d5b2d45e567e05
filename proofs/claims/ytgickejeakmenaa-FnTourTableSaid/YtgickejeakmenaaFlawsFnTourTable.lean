-- Printed by wip/px/px.py of this claim's repository (the kit's printer, extended there). Lean checks it.
import Derived.Test.YtgickejeakmenaaFKinds
import Derived.Test.YtgickejeakmenaaFspecDrawTourCost
import Derived.Test.YtgickejeakmenaaFimplTourCost
import Derived.Test.YtgickejeakmenaaFspecTourCost
import Derived.Test.YtgickejeakmenaaFimplManyAll
import Derived.Test.YtgickejeakmenaaFimplTourBest
namespace Go.Proofs.Ytgickejeakmenaa.F
open Go.RowKit Go.Proofs.YtgickejeakmenaaW.PrintWords Go.Proofs.YtgickejeakmenaaW.PrintLast Go.Proofs.YtgickejeakmenaaW.PrintMore
attribute [local go_sem] max2_int min2_int max_two min_two max_three min_three max_four min_four   -- for this text's walks alone
set_option linter.unusedVariables false
set_option linter.unusedSimpArgs false

/-! ### laws_FnTourTable: function 8 -/
mutual
def laws_FnTourTable.j0 : Nat → List Int → Int → Bool → Int → List (S41) → Option (Bool)
 | 0, _, _, _, _, _ => none
 | k + 1, x4, x5, x31, x987000, x987001 => if x31 = true then ((spec_TourCost.f k x987000 x987001 x4).bind fun t989 => (some (x5 == t989))) else ((impl_ManyAll.f k x987000 x987001 x4 x4).bind fun t990 => (laws_FnTourTable.l0 k x4 x5 t990 0 0 x987000 x987001))
def laws_FnTourTable.l0 : Nat → List Int → Int → List (List Int) → Int → Int → Int → List (S41) → Option (Bool)
 | 0, _, _, _, _, _, _, _ => none
 | k + 1, x4, x5, x6, x7, x8, x987000, x987001 => if x8 < (x4.length : Int) then (if 0 ≤ x8 then (if x8 < (x6.length : Int) then (if (x4.length : Int) = 0 then (none) else (if 0 ≤ (Int.tmod (wrap64 (x8 + 1)) (x4.length : Int)) then (if (Int.tmod (wrap64 (x8 + 1)) (x4.length : Int)) < ((rd_L3 x6 x8).length : Int) then (if (rd (rd_L3 x6 x8) (Int.tmod (wrap64 (x8 + 1)) (x4.length : Int))) = 99999 then (laws_FnTourTable.l0 k x4 x5 x6 99999 (wrap64 (x8 + 1)) x987000 x987001) else (if x7 = 99999 then (laws_FnTourTable.l0 k x4 x5 x6 99999 (wrap64 (x8 + 1)) x987000 x987001) else (laws_FnTourTable.l0 k x4 x5 x6 (wrap64 (x7 + (rd (rd_L3 x6 x8) (Int.tmod (wrap64 (x8 + 1)) (x4.length : Int))))) (wrap64 (x8 + 1)) x987000 x987001))) else (none)) else (none))) else (none)) else (none)) else ((impl_TourBest.f k x987000 x987001 x4).bind fun bt995 => (if x7 = x5 then (if bt995.2 ≤ x5 then (if (x4.length : Int) > 3 then (some true) else (if (x4.length : Int) < 3 then (some true) else (if 0 < (x4.length : Int) then (if 2 < (x4.length : Int) then (if 1 < (x4.length : Int) then ((impl_TourCost.f k x987000 x987001 (([rd x4 0, rd x4 2, rd x4 1] : List Int))).bind fun t1005 => (some (decide (t1005 ≥ bt995.2)))) else (none)) else (none)) else (none)))) else (some false)) else (some false)))
end
def laws_FnTourTable.f (k : Nat) (l0 : List Int) : Option (Bool) := if (l0.length : Int) > 1048576 then (some true) else ((spec_DrawTourCost.f k l0).bind fun bt979 => ((impl_TourCost.f k bt979.1 bt979.2.1 bt979.2.2).bind fun t987 => ((spec_TourCost.f k bt979.1 bt979.2.1 bt979.2.2).bind fun t988 => (if t987 = t988 then (laws_FnTourTable.j0 k bt979.2.2 t987 (decide (t987 < 0)) bt979.1 bt979.2.1) else (laws_FnTourTable.j0 k bt979.2.2 t987 true bt979.1 bt979.2.1)))))
theorem laws_FnTourTable.mono_l : ∀ k, (∀ y0 y1 y2 y3 y4, LeO (laws_FnTourTable.j0 k y0 y1 y2 y3 y4) (laws_FnTourTable.j0 (k + 1) y0 y1 y2 y3 y4)) ∧ (∀ y0 y1 y2 y3 y4 y5 y6, LeO (laws_FnTourTable.l0 k y0 y1 y2 y3 y4 y5 y6) (laws_FnTourTable.l0 (k + 1) y0 y1 y2 y3 y4 y5 y6))
 | 0 => ⟨fun _ _ _ _ _ r h => by simp [laws_FnTourTable.j0] at h, fun _ _ _ _ _ _ _ r h => by simp [laws_FnTourTable.l0] at h⟩
 | k + 1 => by
  obtain ⟨ih0, ih1⟩ := laws_FnTourTable.mono_l k
  refine ⟨?_, ?_⟩
  ·intro y0 y1 y2 y3 y4
   unfold laws_FnTourTable.j0
   repeat' first | (with_reducible exact ih1 _ _ _ _ _ _ _) | (with_reducible exact impl_ManyAll.mono _ _ _ _ _) | (with_reducible exact spec_TourCost.mono _ _ _ _) | (with_reducible exact LeO.refl _) | (with_reducible refine LeO.ite ?_ ?_) | (with_reducible refine LeO.bind ?_ (fun _ => ?_))
  ·intro y0 y1 y2 y3 y4 y5 y6
   unfold laws_FnTourTable.l0
   repeat' first | (with_reducible exact ih1 _ _ _ _ _ _ _) | (with_reducible exact impl_TourBest.mono _ _ _ _) | (with_reducible exact impl_TourCost.mono _ _ _ _) | (with_reducible exact LeO.refl _) | (with_reducible refine LeO.ite ?_ ?_) | (with_reducible refine LeO.bind ?_ (fun _ => ?_))
theorem laws_FnTourTable.mono : ∀ a0 k, LeO (laws_FnTourTable.f k a0) (laws_FnTourTable.f (k + 1) a0) := by
 intro a0 k
 obtain ⟨ih0, ih1⟩ := laws_FnTourTable.mono_l k
 unfold laws_FnTourTable.f
 repeat' first | (with_reducible exact ih0 _ _ _ _ _) | (with_reducible exact impl_TourCost.mono _ _ _ _) | (with_reducible exact spec_DrawTourCost.mono _ _) | (with_reducible exact spec_TourCost.mono _ _ _ _) | (with_reducible exact LeO.refl _) | (with_reducible refine LeO.ite ?_ ?_) | (with_reducible refine LeO.bind ?_ (fun _ => ?_))
def laws_FnTourTable.T12 : Bool × List (List Nat × List Nat) := (true, [([], []), ([], []), ([0, 1], [0, 1]), ([2], [2]), ([], []), ([4], [4]), ([], []), ([6], [6]), ([5, 7], [5, 7]), ([3, 8], [3, 8]), ([9], [9]), ([10, 0, 1, 2, 3, 4, 5, 6, 7, 8, 9, 10], [10])])
def laws_FnTourTable.B12 : List Nat := [0, 0, 3, 7, 0, 16, 0, 64, 240, 511, 1023, 2047]
theorem laws_FnTourTable.tab12 : rtab .any (opsOf Try.f8 12) = laws_FnTourTable.T12 := by kernel_rfl
theorem laws_FnTourTable.bits12 : waitsOk laws_FnTourTable.T12.2 laws_FnTourTable.B12 = true := by kernel_rfl
def laws_FnTourTable.T17 : Bool × List (List Nat × List Nat) := (true, [([], []), ([], []), ([0, 1], [0, 1]), ([2], [2]), ([3], [3]), ([3], [3]), ([4, 5, 3], [3, 4, 5]), ([3, 6], [3, 6]), ([7, 3], [7]), ([8], [8]), ([9, 8], [8, 9]), ([10, 8], [8, 10]), ([11, 8, 8], [8, 11]), ([12], [12]), ([13, 12], [12, 13]), ([14, 12], [12, 14]), ([12, 15, 8], [8, 12, 15]), ([16, 12, 8], [8, 16]), ([17], [17]), ([17], [17]), ([19, 17], [17, 19]), ([20, 17], [17, 20]), ([17], [17]), ([22, 17], [17, 22]), ([23, 17], [17, 23]), ([17], [17]), ([25, 17], [17, 25]), ([26, 17], [17, 26]), ([21, 24, 27, 17], [17, 21, 24, 27]), ([18, 28, 17, 17], [17, 18, 28]), ([17], [17]), ([29, 30, 17], [17, 29, 30]), ([17, 31, 8], [8, 17, 31]), ([8, 32], [8, 32]), ([33, 29, 0, 1, 2, 3, 4, 5, 6, 7, 8, 9, 10, 11, 12, 13, 14, 15, 16, 17, 18, 19, 20, 21, 22, 23, 24, 25, 26, 27, 28, 29, 30, 31, 32, 33], [33])])
def laws_FnTourTable.B17 : List Nat := [0, 0, 3, 7, 15, 15, 63, 127, 255, 511, 1023, 2047, 4095, 8191, 16383, 32767, 65535, 131071, 262143, 262143, 786431, 1835007, 262143, 4456447, 12845055, 262143, 33816575, 100925439, 268173311, 536870911, 262143, 2147483647, 4294967295, 8589934591, 17179869183]
theorem laws_FnTourTable.tab17 : rtab .any (opsOf Try.f8 17) = laws_FnTourTable.T17 := by kernel_rfl
theorem laws_FnTourTable.bits17 : waitsOk laws_FnTourTable.T17.2 laws_FnTourTable.B17 = true := by kernel_rfl
set_option maxHeartbeats 8000000 in
set_option maxRecDepth 100000 in
theorem laws_FnTourTable.calls (k : Nat) (A0 : Option Addr) (c0 : Nat) (l0 : List Int) (r : Bool) (w : World) (hr0 : Kd.C (Kd.int .u8) w A0 l0.length l0) (hc0 : l0.length ≤ c0) (h : laws_FnTourTable.f k l0 = some r) (hr_ : r = true) :
  Calls Try.prog 8 #[.slice A0 l0.length c0] w fun e w' => e = .returned (.bool r) ∧ Below w.heap.size w w' := by
 have hu25 := Try.underlying25
 have HR0 := ak hr0
 have HC0 := ak hc0
 clear hr0 hc0
 have HB := ak (Below.refl w.heap.size w)
 have H : (if (l0.length : Int) > 1048576 then (some true) else ((spec_DrawTourCost.f k l0).bind fun bt979 => ((impl_TourCost.f k bt979.1 bt979.2.1 bt979.2.2).bind fun t987 => ((spec_TourCost.f k bt979.1 bt979.2.1 bt979.2.2).bind fun t988 => (if t987 = t988 then (laws_FnTourTable.j0 k bt979.2.2 t987 (decide (t987 < 0)) bt979.1 bt979.2.1) else (laws_FnTourTable.j0 k bt979.2.2 t987 true bt979.1 bt979.2.1)))))) = some r := h
 clear h
 by_cases c2 : (l0.length : Int) > 1048576
 ·rw [if_pos c2] at H
  have c2b0 : decide (1048576 < (l0.length : Int)) = true := decide_eq_true c2
  have c2b1 : decide (1048576 < l0.length) = true := decide_eq_true (by omega)
  clear c2
  obtain rfl := Option.some.inj H
  go_enter Try.func8, Try.ntmps8
  go_wp2
  go_ret
  exact ⟨by rfl, bl HB⟩
 rw [if_neg c2] at H
 have c2b0 : decide (1048576 < (l0.length : Int)) = false := decide_eq_false c2
 have c2b1 : decide (1048576 < l0.length) = false := decide_eq_false (by omega)
 clear c2
 replace H := Option.bind_eq_some_iff.mp H
 obtain ⟨⟨t979, t980, t983⟩, A30, H⟩ := H
 have A3 := ak A30
 clear A30
 replace H := Option.bind_eq_some_iff.mp H
 obtain ⟨t987, A40, H⟩ := H
 have A4 := ak A40
 clear A40
 have HC5 := ak H
 clear H
 go_enter Try.func8, Try.ntmps8
 go_upto_region 5 with (first | ((with_reducible refine gate_callee (f := 15) rfl ?_); refine goesL_ (some 17) rfl rfl Try.func15 (by kernel_rfl) rfl #[.slice A0 l0.length c0] rfl (by (try simp only [List.map_toArray, List.map_cons, List.map_nil]); rfl) ?_; (with_reducible refine (spec_DrawTourCost.calls k _ _ l0 t979 t980 t983 _ ?side1 ?side2 A3.out).mono ?_); (case side1 => repeat (exact HR0.out)); (case side2 => exact HC0.out); rintro e w6 ⟨v981, v984, rfl, ho0, ho1, hb⟩; refine ⟨_, rfl, ?_⟩; have HO982 := ak (Kd.R_lower ho0 (below_size (bl HB))); have HO985 := ak (Kd.R_lower ho1 (below_size (bl HB))); replace HB := ak (below_step (bl HB) hb); (try clear hb); (try clear hb2); (try clear hk); (try clear hi); (try clear ho0); (try clear ho1)) | ((with_reducible refine gate_dst (N := 3) rfl ?_); refine box_event ?hg (N := 3) ?hd (cs := #[.int .i64 0, .slice none 0 0]) (t := 25) ?hr ?_; (case hd => rfl); (case hg => rfl); (case hr => (go_simp; done)); intro gb986 hg w7 hbox hb; replace HO982 := ak (Kd.R_below (rk HO982) hb); replace HO985 := ak (Kd.R_below (rk HO985) hb); have BK986 := ak (hbox); have GW986 := ak ((by rw [hg]; exact (below_size (bl HB)) : w.heap.size ≤ gb986)); have GE986 := ak ((by rw [hg]; exact (below_size (bl HB)) : w.heap.size ≤ gb986)); replace HB := ak (below_step (bl HB) hb); clear hb hbox hg; have hcz8_0 := bc w7 BK986 0 (.int .i64 0) rfl; have hcz8_1 := bc w7 BK986 1 (.slice none 0 0) rfl; have hfz8_0 := fz BK986 0; have hfz8_1 := fz BK986 1; obtain ⟨Ao9, co9, eo9⟩ := Kd.R_slice HO982.out; subst eo9; obtain ⟨Ao10, co10, eo10⟩ := Kd.R_slice HO985.out; subst eo10) | ((with_reducible refine gate_callee (f := 16) rfl ?_); refine goesL_ (some 22) rfl rfl Try.func16 (by kernel_rfl) rfl #[.agg #[.int .i64 t979, .slice Ao9 t980.length co9], .slice Ao10 t983.length co10] rfl (by (try simp only [List.map_toArray, List.map_cons, List.map_nil]); rfl) ?_; (with_reducible refine (impl_TourCost.calls k t979 _ _ t980 _ _ t983 t987 _ ?side1 ?side2 ?side3 ?side4 A4.out).mono ?_); (case side1 => refine (Kd.R_reads' (e := 41) (base := w.heap.size) (ok := fun k_ => True) (n := t980.length) (c := co9) ?_).2.2; exact (by exact (Kd.R_mono (Kd.R_far (p := ⟨gb986, 1, none⟩) (Kd.R_far (p := ⟨gb986, 0, none⟩) (Kd.R_types HO982.out BK986.out (by decide)) (fun _ hk => hk.2) (.int .i64 t979)) (fun _ hk => hk.2) (.slice Ao9 t980.length co9)) (fun _ h_ => h_.1)))); (case side2 => exact (Kd.R_reads' HO982.out).2.1); (case side3 => refine (Kd.R_reads' (e := 3) (base := w.heap.size) (ok := fun k_ => True) (n := t983.length) (c := co10) ?_).2.2; exact (by exact (Kd.R_mono (Kd.R_far (p := ⟨gb986, 1, none⟩) (Kd.R_far (p := ⟨gb986, 0, none⟩) (Kd.R_types HO985.out BK986.out (by decide)) (fun _ hk => hk.2) (.int .i64 t979)) (fun _ hk => hk.2) (.slice Ao9 t980.length co9)) (fun _ h_ => h_.1)))); (case side4 => exact (Kd.R_reads' HO985.out).2.1); rintro e w11 ⟨rfl, hb⟩; refine ⟨_, rfl, ?_⟩; replace HO982 := ak (Kd.R_below (by exact (Kd.R_mono (Kd.R_far (p := ⟨gb986, 1, none⟩) (Kd.R_far (p := ⟨gb986, 0, none⟩) (Kd.R_types HO982.out BK986.out (by decide)) (fun _ hk => hk.2) (.int .i64 t979)) (fun _ hk => hk.2) (.slice Ao9 t980.length co9)) (fun _ h_ => h_.1))) hb); replace HO985 := ak (Kd.R_below (by exact (Kd.R_mono (Kd.R_far (p := ⟨gb986, 1, none⟩) (Kd.R_far (p := ⟨gb986, 0, none⟩) (Kd.R_types HO985.out BK986.out (by decide)) (fun _ hk => hk.2) (.int .i64 t979)) (fun _ hk => hk.2) (.slice Ao9 t980.length co9)) (fun _ h_ => h_.1))) hb); replace BK986 := ak (blk_below (g := gb986) (o := .cells #[.int .i64 t979, .slice Ao9 t980.length co9] 25 (0, 0)) (by refine blk_put (cs := #[.int .i64 t979, .slice none 0 0]) ?_ 1 _ rfl; refine blk_put (cs := #[.int .i64 0, .slice none 0 0]) ?_ 0 _ rfl; exact BK986.out) hb); replace HB := ak (below_step (bl1 HB GE986) hb); (try clear hb); (try clear hb2); (try clear hk); (try clear hi)))
 (try simp only [Act.put, List.setIfInBounds_toArray, List.set_cons_zero, List.set_cons_succ])
 go_cut [31] (fun v31 wc => ∃ (kq : Nat) (x31_4 : Bool), v31 = .bool x31_4 ∧ Aside0 (laws_FnTourTable.j0 kq t983 t987 x31_4 t979 t980 = some r) ∧ Aside0 (kq ≤ k) ∧ Aside0 (Kd.R (Kd.int .i64) 3 wc w.heap.size (fun _ => True) (.slice Ao10 t983.length co10) t983) ∧ Aside0 (Kd.R k41 41 wc w.heap.size (fun _ => True) (.slice Ao9 t980.length co9) t980) ∧ Aside0 (wc.heap[gb986]? = some (.cells #[.int .i64 t979, (.slice Ao9 t980.length co9)] 25 (0, 0))) ∧ Aside0 (Below w.heap.size w wc))
 case first =>
  have H := HC5.out
  clear HC5
  replace H := Option.bind_eq_some_iff.mp H
  obtain ⟨t988, A120, H⟩ := H
  have A12 := ak A120
  clear A120
  by_cases c13 : t987 = t988
  rotate_left
  ·rw [if_neg c13] at H
   have c13b0 : (t987 == t988) = false := beq_eq_false_iff_ne.mpr c13
   have c13b1 : (t987 != t988) = true := bne_iff_ne.mpr c13
   (skip)
   have H' := ak H
   clear H
   have hcz16_0 := bc w11 BK986 0 (.int .i64 t979) rfl
   have hcz16_1 := bc w11 BK986 1 (.slice Ao9 t980.length co9) rfl
   have hfz16_0 := fz BK986 0
   have hfz16_1 := fz BK986 1
   go_wp2_with (((with_reducible refine gate_callee (f := 17) rfl ?_); refine goesL_ (some 26) rfl rfl Try.func17 (by kernel_rfl) rfl #[.agg #[.int .i64 t979, .slice Ao9 t980.length co9], .slice Ao10 t983.length co10] rfl (by (try simp only [List.map_toArray, List.map_cons, List.map_nil]); rfl) ?_; (with_reducible refine (spec_TourCost.calls k t979 _ _ t980 _ _ t983 t988 _ ?side1 ?side2 ?side3 ?side4 A12.out).mono ?_); (case side1 => repeat (exact (Kd.R_reads' HO982.out).2.2)); (case side2 => exact (Kd.R_reads' HO982.out).2.1); (case side3 => repeat (exact (Kd.R_reads' HO985.out).2.2)); (case side4 => exact (Kd.R_reads' HO985.out).2.1); rintro e w17 ⟨rfl, hb⟩; refine ⟨_, rfl, ?_⟩; replace HO982 := ak (Kd.R_below (rk HO982) hb); replace HO985 := ak (Kd.R_below (rk HO985) hb); replace BK986 := ak (blk_below (bk BK986) hb); replace HB := ak (below_step (bl1 HB GE986) hb); (try clear hb); (try clear hb2); (try clear hk); (try clear hi)))
   go_meet
   case rel => exact ⟨_, (true), (by rfl), H', ⟨by omega⟩, ⟨rk HO985⟩, ⟨rk HO982⟩, ⟨bk BK986⟩, ⟨bl1 HB GE986⟩⟩
  rw [if_pos c13] at H
  have c13b0 : (t987 == t988) = true := beq_iff_eq.mpr c13
  have c13b1 : (t987 != t988) = false := bne_eq_false_iff_eq.mpr c13
  clear c13
  (skip)
  have H' := ak H
  clear H
  have hcz14_0 := bc w11 BK986 0 (.int .i64 t979) rfl
  have hcz14_1 := bc w11 BK986 1 (.slice Ao9 t980.length co9) rfl
  have hfz14_0 := fz BK986 0
  have hfz14_1 := fz BK986 1
  go_wp2_with (((with_reducible refine gate_callee (f := 17) rfl ?_); refine goesL_ (some 26) rfl rfl Try.func17 (by kernel_rfl) rfl #[.agg #[.int .i64 t979, .slice Ao9 t980.length co9], .slice Ao10 t983.length co10] rfl (by (try simp only [List.map_toArray, List.map_cons, List.map_nil]); rfl) ?_; (with_reducible refine (spec_TourCost.calls k t979 _ _ t980 _ _ t983 t988 _ ?side1 ?side2 ?side3 ?side4 A12.out).mono ?_); (case side1 => repeat (exact (Kd.R_reads' HO982.out).2.2)); (case side2 => exact (Kd.R_reads' HO982.out).2.1); (case side3 => repeat (exact (Kd.R_reads' HO985.out).2.2)); (case side4 => exact (Kd.R_reads' HO985.out).2.1); rintro e w15 ⟨rfl, hb⟩; refine ⟨_, rfl, ?_⟩; replace HO982 := ak (Kd.R_below (rk HO982) hb); replace HO985 := ak (Kd.R_below (rk HO985) hb); replace BK986 := ak (blk_below (bk BK986) hb); replace HB := ak (below_step (bl1 HB GE986) hb); (try clear hb); (try clear hb2); (try clear hk); (try clear hi)))
  go_meet
  case rel => exact ⟨_, (decide (t987 < 0)), (by rfl), H', ⟨by omega⟩, ⟨rk HO985⟩, ⟨rk HO982⟩, ⟨bk BK986⟩, ⟨bl1 HB GE986⟩⟩
 clear HC5
 try clear c1
 try clear c2
 try clear c2b0
 try clear c2b1
 try clear p2
 try clear c8
 try clear c13
 try clear c13b0
 try clear c13b1
 try clear c15
 try clear c16
 try clear c17
 try clear hcz14_0
 try clear hcz14_1
 try clear hcz16_0
 try clear hcz16_1
 try clear hcz8_0
 try clear hcz8_1
 try clear hfz14_0
 try clear hfz14_1
 try clear hfz16_0
 try clear hfz16_1
 try clear hfz8_0
 try clear hfz8_1
 obtain ⟨kq, x31_4, rfl, HA, HJ4, HO_4, HO_987001, BK986, HB⟩ := hcut
 cases kq with
 | zero => exact absurd HA.out (by simp [laws_FnTourTable.j0])
 | succ kj4 =>
  have H := HA.out
  clear HA
  simp only [laws_FnTourTable.j0] at H
  by_cases c18 : x31_4 = true
  ·subst c18
   rw [if_pos rfl] at H
   replace H := Option.bind_eq_some_iff.mp H
   obtain ⟨t989, A190, H⟩ := H
   have A19 := ak A190
   clear A190
   obtain rfl := Option.some.inj H
   have hcz20_0 := bc wc BK986 0 (.int .i64 t979) rfl
   have hcz20_1 := bc wc BK986 1 (.slice Ao9 t980.length co9) rfl
   have hfz20_0 := fz BK986 0
   have hfz20_1 := fz BK986 1
   go_wp2_with (((with_reducible refine gate_callee (f := 17) rfl ?_); refine goesL_ (some 35) rfl rfl Try.func17 (by kernel_rfl) rfl #[.agg #[.int .i64 t979, .slice Ao9 t980.length co9], .slice Ao10 t983.length co10] rfl (by (try simp only [List.map_toArray, List.map_cons, List.map_nil]); rfl) ?_; (with_reducible refine (spec_TourCost.calls kj4 t979 _ _ t980 _ _ t983 t989 _ ?side1 ?side2 ?side3 ?side4 A19.out).mono ?_); (case side1 => repeat (exact (Kd.R_reads' HO_987001.out).2.2)); (case side2 => exact (Kd.R_reads' HO_987001.out).2.1); (case side3 => repeat (exact (Kd.R_reads' HO_4.out).2.2)); (case side4 => exact (Kd.R_reads' HO_4.out).2.1); rintro e w21 ⟨rfl, hb⟩; refine ⟨_, rfl, ?_⟩; replace HO_4 := ak (Kd.R_below (rk HO_4) hb); replace HO_987001 := ak (Kd.R_below (rk HO_987001) hb); replace BK986 := ak (blk_below (bk BK986) hb); replace HB := ak (below_step (bl1 HB GE986) hb); (try clear hb); (try clear hb2); (try clear hk); (try clear hi)))
   go_ret
   exact ⟨by rfl, bl1 HB GE986⟩
  replace c18 := Bool.eq_false_iff.mpr c18
  subst c18
  rw [if_neg (show ¬ (false = true) by decide)] at H
  replace H := Option.bind_eq_some_iff.mp H
  obtain ⟨t990, A220, H⟩ := H
  have A22 := ak A220
  clear A220
  have H' := ak H
  clear H
  have hcz23_0 := bc wc BK986 0 (.int .i64 t979) rfl
  have hcz23_1 := bc wc BK986 1 (.slice Ao9 t980.length co9) rfl
  have hfz23_0 := fz BK986 0
  have hfz23_1 := fz BK986 1
  go_wp2_with (((with_reducible refine gate_callee (f := 34) rfl ?_); refine goesL_ (some 40) rfl rfl Try.func34 (by kernel_rfl) rfl #[.agg #[.int .i64 t979, .slice Ao9 t980.length co9], .slice Ao10 t983.length co10, .slice Ao10 t983.length co10] rfl (by (try simp only [List.map_toArray, List.map_cons, List.map_nil]); rfl) ?_; (with_reducible refine (impl_ManyAll.calls kj4 t979 _ _ t980 _ _ t983 _ _ t983 t990 _ ?side1 ?side2 ?side3 ?side4 ?side5 ?side6 A22.out).mono ?_); (case side1 => repeat (exact (Kd.R_reads' HO_987001.out).2.2)); (case side2 => exact (Kd.R_reads' HO_987001.out).2.1); (case side3 => repeat (exact (Kd.R_reads' HO_4.out).2.2)); (case side4 => exact (Kd.R_reads' HO_4.out).2.1); (case side5 => repeat (exact (Kd.R_reads' HO_4.out).2.2)); (case side6 => exact (Kd.R_reads' HO_4.out).2.1); rintro e w24 ⟨v991, rfl, ho0, hb⟩; refine ⟨_, rfl, ?_⟩; replace HO_987001 := ak (Kd.R_below (rk HO_987001) hb); have HO992 := ak (Kd.S_lower (Kd.S_new' ho0 (Kd.R_lt (rk HO_4))) (below_size (bl1 HB GE986))); replace HO_4 := ak (Kd.R_below (rk HO_4) hb); replace BK986 := ak (blk_below (bk BK986) hb); replace HB := ak (below_step (bl1 HB GE986) hb); (try clear hb); (try clear hb2); (try clear hk); (try clear hi); (try clear ho0)))
  go_loopg [7, 8] kj4 (fun kq v7 v8 w' => ∃ (x7_2 : Int) (x8_2 : Int), v7 = .int .i64 x7_2 ∧ v8 = .int .i64 x8_2 ∧ Aside0 (laws_FnTourTable.l0 kq t983 t987 t990 x7_2 x8_2 t979 t980 = some r) ∧ Aside0 (kq ≤ kj4) ∧ Aside0 (Kd.R (Kd.int .i64) 3 w' w.heap.size (fun _ => True) (.slice Ao10 t983.length co10) t983) ∧ Aside0 (Kd.S (Kd.slice 3 (Kd.int .i64)) 26 w' w.heap.size (fun k_ => some k_ ≠ ((.slice Ao10 t983.length co10) : Value).ownBlock) v991 t990) ∧ Aside0 (Kd.R k41 41 w' w.heap.size (fun _ => True) (.slice Ao9 t980.length co9) t980) ∧ Aside0 (w'.heap[gb986]? = some (.cells #[.int .i64 t979, (.slice Ao9 t980.length co9)] 25 (0, 0))) ∧ Aside0 (Below w.heap.size w w'))
  case atStart => exact ⟨(0), (0), (by rfl), (by rfl), H', ⟨Nat.le_refl _⟩, ⟨rk HO_4⟩, ⟨by exact Kd.S_mono HO992.out (fun _ hk => hk.2)⟩, ⟨rk HO_987001⟩, ⟨bk BK986⟩, ⟨bl1 HB GE986⟩⟩
  clear H'
  try clear c1
  try clear c2
  try clear c2b0
  try clear c2b1
  try clear p2
  try clear c3
  try clear c8
  try clear c13
  try clear c13b0
  try clear c13b1
  try clear c15
  try clear c16
  try clear c17
  try clear c18
  try clear hcz14_0
  try clear hcz14_1
  try clear hcz16_0
  try clear hcz16_1
  try clear hcz20_0
  try clear hcz20_1
  try clear hcz23_0
  try clear hcz23_1
  try clear hcz8_0
  try clear hcz8_1
  try clear hfz14_0
  try clear hfz14_1
  try clear hfz16_0
  try clear hfz16_1
  try clear hfz20_0
  try clear hfz20_1
  try clear hfz23_0
  try clear hfz23_1
  try clear hfz8_0
  try clear hfz8_1
  try clear p2
  obtain ⟨x7_2, x8_2, rfl, rfl, HA, HK2, HO_4, HO_6, HO_987001, BK986, HB⟩ := hrel
  cases gk with
  | zero => exact absurd HA.out (by simp [laws_FnTourTable.l0])
  | succ k2 =>
   have H := HA.out
   clear HA
   simp only [laws_FnTourTable.l0] at H
   by_cases c25 : x8_2 < (t983.length : Int)
   ·rw [if_pos c25] at H
    have c25b0 : decide (x8_2 < (t983.length : Int)) = true := decide_eq_true c25
    clear c25
    by_cases c26 : 0 ≤ x8_2
    rotate_left
    ·rw [if_neg c26] at H
     exact absurd H (by simp)
    rw [if_pos c26] at H
    have c26b0 : decide (0 ≤ x8_2) = true := decide_eq_true c26
    clear c26
    by_cases c27 : x8_2 < (t990.length : Int)
    rotate_left
    ·rw [if_neg c27] at H
     exact absurd H (by simp)
    rw [if_pos c27] at H
    have c27b0 : decide (x8_2 < (t990.length : Int)) = true := decide_eq_true c27
    clear c27
    by_cases c28 : (t983.length : Int) = 0
    ·rw [if_pos c28] at H
     exact absurd H (by simp)
    rw [if_neg c28] at H
    have c28b0 : ((t983.length : Int) == 0) = false := beq_eq_false_iff_ne.mpr c28
    have c28b1 : ((t983.length : Int) != 0) = true := bne_iff_ne.mpr c28
    have c28b2 : ¬ (t983 = []) := fun h_ => c28 (by rw [h_]; rfl)
    obtain ⟨ji29, hji29⟩ : ∃ j_ : Int, (Int.tmod (wrap64 (x8_2 + 1)) (t983.length : Int)) = j_ := ⟨_, rfl⟩
    replace H : (if 0 ≤ (ji29) then (if (ji29) < ((rd_L3 t990 x8_2).length : Int) then (if (rd (rd_L3 t990 x8_2) (ji29)) = 99999 then (laws_FnTourTable.l0 k2 t983 t987 t990 99999 (wrap64 (x8_2 + 1)) t979 t980) else (if x7_2 = 99999 then (laws_FnTourTable.l0 k2 t983 t987 t990 99999 (wrap64 (x8_2 + 1)) t979 t980) else (laws_FnTourTable.l0 k2 t983 t987 t990 (wrap64 (x7_2 + (rd (rd_L3 t990 x8_2) (ji29)))) (wrap64 (x8_2 + 1)) t979 t980))) else (none)) else (none)) = some r := by (rw [hji29] at H; exact H)
    by_cases c30 : 0 ≤ (ji29)
    rotate_left
    ·rw [if_neg c30] at H
     exact absurd H (by simp)
    rw [if_pos c30] at H
    have c30b0 : decide (0 ≤ (ji29)) = true := decide_eq_true c30
    clear c30
    by_cases c31 : (ji29) < ((rd_L3 t990 x8_2).length : Int)
    rotate_left
    ·rw [if_neg c31] at H
     exact absurd H (by simp)
    rw [if_pos c31] at H
    have c31b0 : decide ((ji29) < ((rd_L3 t990 x8_2).length : Int)) = true := decide_eq_true c31
    clear c31
    by_cases c32 : (rd (rd_L3 t990 x8_2) (ji29)) = 99999
    ·rw [if_pos c32] at H
     have c32b0 : ((rd (rd_L3 t990 x8_2) (ji29)) == 99999) = true := beq_iff_eq.mpr c32
     have c32b1 : ((rd (rd_L3 t990 x8_2) (ji29)) != 99999) = false := bne_eq_false_iff_eq.mpr c32
     clear c32
     have H' := ak H
     clear H
     try go_wp2
     replace HO_4 := ak (Kd.R_drew HO_4.out)
     replace HO_6 := ak (Kd.S_drew HO_6.out)
     replace HO_987001 := ak (Kd.R_drew HO_987001.out)
     replace BK986 := ak (blk_drew BK986.out)
     replace HB := ak (below_drew1 HB.out)
     obtain ⟨Ao34, co34, eo34⟩ := Kd.S_slice HO_6.out
     (subst eo34)
     have p993 : 0 ≤ (x8_2 : Int) := oT (by (with_reducible assumption))
     have q993 : x8_2 < (t990.length : Int) := oT (by (with_reducible assumption))
     obtain ⟨ad993, A993_0, c993_0, e993, hx993_0, hl993_0, hi993_0⟩ := at_L3 (Kd.S_reads' HO_6.out).2.2 x8_2 p993 q993
     cases e993
     obtain ⟨ce993, hce993, hMe993, hcc993⟩ := Kd.S_get HO_6.out [] x8_2 p993 (by exact q993)
     obtain ⟨ve993_0, rfl, ge993_0⟩ := hMe993
     have hv993_0 := hcc993 0 _ rfl
     rw [Nat.add_zero, show ((Kd.slice 3 (Kd.int .i64))).sz = 1 from rfl, Nat.mul_one] at hv993_0
     replace hv993_0 := Option.some.inj (hv993_0.symm.trans hx993_0)
     rw [hv993_0] at ge993_0
     have HL993_0 := ak (show Kd.R (Kd.int .i64) 3 _ _ _ _ (rd_L3 t990 x8_2) from ge993_0)
     clear hv993_0 ge993_0
     clear hcc993 hce993
     have HR993_0 := ak hi993_0
     have HC993_0 := ak hl993_0
     clear hi993_0 hl993_0
     replace p993 := eq_true p993
     replace q993 := eq_true q993
     have p994 : 0 ≤ ((ji29) : Int) := oT (by (with_reducible assumption))
     have q994 : (ji29) < ((rd_L3 t990 x8_2).length : Int) := oT (by (with_reducible assumption))
     obtain ⟨ad994, e994, hx994_0⟩ := Kd.at_int (by repeat ((with_reducible exact HR993_0.out))) (ji29) p994 q994
     cases e994
     replace p994 := eq_true p994
     replace q994 := eq_true q994
     refine start_ (n := 12) (S := fun w' => w'.cell? (ad993.add (x8_2).toNat) = some (.slice (some ad994) (rd_L3 t990 x8_2).length c993_0) ∧ w'.cell? (ad994.add ((ji29)).toNat) = some (.int .i64 (rd (rd_L3 t990 x8_2) (ji29)))) (ds := []) (ms 12 0) (by kernel_rfl) rfl (by kernel_rfl) ⟨hx993_0, hx994_0⟩ (fun hHeld => ?_); refine with_tabW laws_FnTourTable.tab12 laws_FnTourTable.bits12 (fun HT_ HW_ => ?_)
     generalize wr.drew = w33 at HO_4 HO_6 HO_987001 BK986 HB HL993_0 HR993_0 hx993_0 hx994_0 hHeld ⊢
     refine pu 0 47 ?_ (ms 12 1) rfl rfl HT_ (by kernel_rfl) (fun _ _ _ h => h) (by rfl) ?_ ?_ ?_ ?_
     rotate_left
     ·intro w'
      go_simp
      with_reducible rfl
     rotate_left
     ·simp only [SX]
      rfl
     refine pu 1 48 ?_ (ms 12 3) rfl rfl HT_ (by kernel_rfl) (fun _ _ _ h => h) (by rfl) ?_ ?_ ?_ ?_
     rotate_left
     ·intro w'
      go_simp
      with_reducible rfl
     rotate_left
     ·simp only [SX]
      rfl
     refine pu 2 49 ?_ (ms 12 7) rfl rfl HT_ (by kernel_rfl) (fun _ _ _ h => h) (by rfl) ?_ ?_ ?_ ?_
     rotate_left
     ·intro w'
      go_simp
      with_reducible rfl
     rotate_left
     ·simp only [SX]
      rfl
     refine pu 4 51 ?_ (ms 12 23) rfl rfl HT_ (by kernel_rfl) (fun _ _ _ h => h) (by rfl) ?_ ?_ ?_ ?_
     rotate_left
     ·intro w'
      go_simp
      with_reducible rfl
     rotate_left
     ·simp only [SX]
      rfl
     refine pu 5 52 ?_ (ms 12 55) rfl rfl HT_ (by kernel_rfl) (fun _ _ _ h => h) (by rfl) ?_ ?_ ?_ ?_
     rotate_left
     ·intro w'
      go_simp
      with_reducible rfl
     rotate_left
     ·simp only [SX]
      rfl
     refine pu 6 53 ?_ (ms 12 119) rfl rfl HT_ (by kernel_rfl) (fun _ _ _ h => h) (by rfl) ?_ ?_ ?_ ?_
     rotate_left
     ·intro w'
      go_simp
      with_reducible rfl
     rotate_left
     ·simp only [SX]
      rfl
     refine pu 7 54 ?_ (ms 12 247) rfl rfl HT_ (by kernel_rfl) (fun _ _ _ h => h) (by rfl) ?_ ?_ ?_ ?_
     rotate_left
     ·intro w'
      go_simp
      with_reducible rfl
     rotate_left
     ·simp only [SX]
      rfl
     refine pu 8 55 ?_ (ms 12 503) rfl rfl HT_ (by kernel_rfl) (fun _ _ _ h => h) (by rfl) ?_ ?_ ?_ ?_
     rotate_left
     ·intro w'
      go_simp
      with_reducible rfl
     rotate_left
     ·simp only [SX]
      rfl
     refine tk 3 50 ?_ (ms 12 511) rfl rfl HT_ HW_ (by kernel_rfl) (fun _ _ _ h => h) (by rfl) ?_ hHeld ?_ ?_ ?_
     rotate_left
     ·rintro w' ⟨s0, s1⟩
      go_simp
      with_reducible rfl
     rotate_left
     ·simp only [SX]
      rfl
     refine pu 9 56 ?_ (ms 12 1023) rfl rfl HT_ (by kernel_rfl) (fun _ _ _ h => h) (by rfl) ?_ ?_ ?_ ?_
     rotate_left
     ·intro w'
      go_simp
      with_reducible rfl
     rotate_left
     ·simp only [SX]
      rfl
     refine tk 10 57 ?_ (ms 12 2047) rfl rfl HT_ HW_ (by kernel_rfl) (fun _ _ _ h => h) (by rfl) ?_ hHeld ?_ ?_ ?_
     rotate_left
     ·rintro w' ⟨s0, s1⟩
      go_simp
      with_reducible rfl
     rotate_left
     ·simp only [SX]
      rfl
     refine pu 11 9 ?_ (ms 12 4095) rfl rfl HT_ (by kernel_rfl) (fun _ _ _ h => h) (by rfl) ?_ ?_ ?_ ?_
     rotate_left
     ·intro w'
      go_simp
      with_reducible rfl
     rotate_left
     ·simp only [SX]
      rfl
     refine done_ (done_of HT_.out (by kernel_rfl)) ?_
     try go_wp2
     go_roundg k2
     case measure => have := HJ4.out; have := HK2.out; omega
     case rel => exact ⟨(99999), (wrap64 (x8_2 + 1)), (by rfl), (by rfl), H', ⟨by have := HJ4.out; have := HK2.out; omega⟩, ⟨rk HO_4⟩, ⟨by exact HO_6.out⟩, ⟨rk HO_987001⟩, ⟨bk BK986⟩, ⟨bl1 HB GE986⟩⟩
    rw [if_neg c32] at H
    have c32b0 : ((rd (rd_L3 t990 x8_2) (ji29)) == 99999) = false := beq_eq_false_iff_ne.mpr c32
    have c32b1 : ((rd (rd_L3 t990 x8_2) (ji29)) != 99999) = true := bne_iff_ne.mpr c32
    by_cases c35 : x7_2 = 99999
    ·rw [if_pos c35] at H
     have c35b0 : (x7_2 == 99999) = true := beq_iff_eq.mpr c35
     have c35b1 : (x7_2 != 99999) = false := bne_eq_false_iff_eq.mpr c35
     clear c35
     have H' := ak H
     clear H
     try go_wp2
     replace HO_4 := ak (Kd.R_drew HO_4.out)
     replace HO_6 := ak (Kd.S_drew HO_6.out)
     replace HO_987001 := ak (Kd.R_drew HO_987001.out)
     replace BK986 := ak (blk_drew BK986.out)
     replace HB := ak (below_drew1 HB.out)
     obtain ⟨Ao37, co37, eo37⟩ := Kd.S_slice HO_6.out
     (subst eo37)
     have p993 : 0 ≤ (x8_2 : Int) := oT (by (with_reducible assumption))
     have q993 : x8_2 < (t990.length : Int) := oT (by (with_reducible assumption))
     obtain ⟨ad993, A993_0, c993_0, e993, hx993_0, hl993_0, hi993_0⟩ := at_L3 (Kd.S_reads' HO_6.out).2.2 x8_2 p993 q993
     cases e993
     obtain ⟨ce993, hce993, hMe993, hcc993⟩ := Kd.S_get HO_6.out [] x8_2 p993 (by exact q993)
     obtain ⟨ve993_0, rfl, ge993_0⟩ := hMe993
     have hv993_0 := hcc993 0 _ rfl
     rw [Nat.add_zero, show ((Kd.slice 3 (Kd.int .i64))).sz = 1 from rfl, Nat.mul_one] at hv993_0
     replace hv993_0 := Option.some.inj (hv993_0.symm.trans hx993_0)
     rw [hv993_0] at ge993_0
     have HL993_0 := ak (show Kd.R (Kd.int .i64) 3 _ _ _ _ (rd_L3 t990 x8_2) from ge993_0)
     clear hv993_0 ge993_0
     clear hcc993 hce993
     have HR993_0 := ak hi993_0
     have HC993_0 := ak hl993_0
     clear hi993_0 hl993_0
     replace p993 := eq_true p993
     replace q993 := eq_true q993
     have p994 : 0 ≤ ((ji29) : Int) := oT (by (with_reducible assumption))
     have q994 : (ji29) < ((rd_L3 t990 x8_2).length : Int) := oT (by (with_reducible assumption))
     obtain ⟨ad994, e994, hx994_0⟩ := Kd.at_int (by repeat ((with_reducible exact HR993_0.out))) (ji29) p994 q994
     cases e994
     replace p994 := eq_true p994
     replace q994 := eq_true q994
     refine start_ (n := 12) (S := fun w' => w'.cell? (ad993.add (x8_2).toNat) = some (.slice (some ad994) (rd_L3 t990 x8_2).length c993_0) ∧ w'.cell? (ad994.add ((ji29)).toNat) = some (.int .i64 (rd (rd_L3 t990 x8_2) (ji29)))) (ds := []) (ms 12 0) (by kernel_rfl) rfl (by kernel_rfl) ⟨hx993_0, hx994_0⟩ (fun hHeld => ?_); refine with_tabW laws_FnTourTable.tab12 laws_FnTourTable.bits12 (fun HT_ HW_ => ?_)
     generalize wr.drew = w36 at HO_4 HO_6 HO_987001 BK986 HB HL993_0 HR993_0 hx993_0 hx994_0 hHeld ⊢
     refine pu 0 47 ?_ (ms 12 1) rfl rfl HT_ (by kernel_rfl) (fun _ _ _ h => h) (by rfl) ?_ ?_ ?_ ?_
     rotate_left
     ·intro w'
      go_simp
      with_reducible rfl
     rotate_left
     ·simp only [SX]
      rfl
     refine pu 1 48 ?_ (ms 12 3) rfl rfl HT_ (by kernel_rfl) (fun _ _ _ h => h) (by rfl) ?_ ?_ ?_ ?_
     rotate_left
     ·intro w'
      go_simp
      with_reducible rfl
     rotate_left
     ·simp only [SX]
      rfl
     refine pu 2 49 ?_ (ms 12 7) rfl rfl HT_ (by kernel_rfl) (fun _ _ _ h => h) (by rfl) ?_ ?_ ?_ ?_
     rotate_left
     ·intro w'
      go_simp
      with_reducible rfl
     rotate_left
     ·simp only [SX]
      rfl
     refine pu 4 51 ?_ (ms 12 23) rfl rfl HT_ (by kernel_rfl) (fun _ _ _ h => h) (by rfl) ?_ ?_ ?_ ?_
     rotate_left
     ·intro w'
      go_simp
      with_reducible rfl
     rotate_left
     ·simp only [SX]
      rfl
     refine pu 5 52 ?_ (ms 12 55) rfl rfl HT_ (by kernel_rfl) (fun _ _ _ h => h) (by rfl) ?_ ?_ ?_ ?_
     rotate_left
     ·intro w'
      go_simp
      with_reducible rfl
     rotate_left
     ·simp only [SX]
      rfl
     refine pu 6 53 ?_ (ms 12 119) rfl rfl HT_ (by kernel_rfl) (fun _ _ _ h => h) (by rfl) ?_ ?_ ?_ ?_
     rotate_left
     ·intro w'
      go_simp
      with_reducible rfl
     rotate_left
     ·simp only [SX]
      rfl
     refine pu 7 54 ?_ (ms 12 247) rfl rfl HT_ (by kernel_rfl) (fun _ _ _ h => h) (by rfl) ?_ ?_ ?_ ?_
     rotate_left
     ·intro w'
      go_simp
      with_reducible rfl
     rotate_left
     ·simp only [SX]
      rfl
     refine pu 8 55 ?_ (ms 12 503) rfl rfl HT_ (by kernel_rfl) (fun _ _ _ h => h) (by rfl) ?_ ?_ ?_ ?_
     rotate_left
     ·intro w'
      go_simp
      with_reducible rfl
     rotate_left
     ·simp only [SX]
      rfl
     refine tk 3 50 ?_ (ms 12 511) rfl rfl HT_ HW_ (by kernel_rfl) (fun _ _ _ h => h) (by rfl) ?_ hHeld ?_ ?_ ?_
     rotate_left
     ·rintro w' ⟨s0, s1⟩
      go_simp
      with_reducible rfl
     rotate_left
     ·simp only [SX]
      rfl
     refine pu 9 56 ?_ (ms 12 1023) rfl rfl HT_ (by kernel_rfl) (fun _ _ _ h => h) (by rfl) ?_ ?_ ?_ ?_
     rotate_left
     ·intro w'
      go_simp
      with_reducible rfl
     rotate_left
     ·simp only [SX]
      rfl
     refine tk 10 57 ?_ (ms 12 2047) rfl rfl HT_ HW_ (by kernel_rfl) (fun _ _ _ h => h) (by rfl) ?_ hHeld ?_ ?_ ?_
     rotate_left
     ·rintro w' ⟨s0, s1⟩
      go_simp
      with_reducible rfl
     rotate_left
     ·simp only [SX]
      rfl
     refine pu 11 9 ?_ (ms 12 4095) rfl rfl HT_ (by kernel_rfl) (fun _ _ _ h => h) (by rfl) ?_ ?_ ?_ ?_
     rotate_left
     ·intro w'
      go_simp
      with_reducible rfl
     rotate_left
     ·simp only [SX]
      rfl
     refine done_ (done_of HT_.out (by kernel_rfl)) ?_
     try go_wp2
     go_roundg k2
     case measure => have := HJ4.out; have := HK2.out; omega
     case rel => exact ⟨(99999), (wrap64 (x8_2 + 1)), (by rfl), (by rfl), H', ⟨by have := HJ4.out; have := HK2.out; omega⟩, ⟨rk HO_4⟩, ⟨by exact HO_6.out⟩, ⟨rk HO_987001⟩, ⟨bk BK986⟩, ⟨bl1 HB GE986⟩⟩
    rw [if_neg c35] at H
    have c35b0 : (x7_2 == 99999) = false := beq_eq_false_iff_ne.mpr c35
    have c35b1 : (x7_2 != 99999) = true := bne_iff_ne.mpr c35
    have H' := ak H
    clear H
    try go_wp2
    replace HO_4 := ak (Kd.R_drew HO_4.out)
    replace HO_6 := ak (Kd.S_drew HO_6.out)
    replace HO_987001 := ak (Kd.R_drew HO_987001.out)
    replace BK986 := ak (blk_drew BK986.out)
    replace HB := ak (below_drew1 HB.out)
    obtain ⟨Ao39, co39, eo39⟩ := Kd.S_slice HO_6.out
    (subst eo39)
    have p993 : 0 ≤ (x8_2 : Int) := oT (by (with_reducible assumption))
    have q993 : x8_2 < (t990.length : Int) := oT (by (with_reducible assumption))
    obtain ⟨ad993, A993_0, c993_0, e993, hx993_0, hl993_0, hi993_0⟩ := at_L3 (Kd.S_reads' HO_6.out).2.2 x8_2 p993 q993
    cases e993
    obtain ⟨ce993, hce993, hMe993, hcc993⟩ := Kd.S_get HO_6.out [] x8_2 p993 (by exact q993)
    obtain ⟨ve993_0, rfl, ge993_0⟩ := hMe993
    have hv993_0 := hcc993 0 _ rfl
    rw [Nat.add_zero, show ((Kd.slice 3 (Kd.int .i64))).sz = 1 from rfl, Nat.mul_one] at hv993_0
    replace hv993_0 := Option.some.inj (hv993_0.symm.trans hx993_0)
    rw [hv993_0] at ge993_0
    have HL993_0 := ak (show Kd.R (Kd.int .i64) 3 _ _ _ _ (rd_L3 t990 x8_2) from ge993_0)
    clear hv993_0 ge993_0
    clear hcc993 hce993
    have HR993_0 := ak hi993_0
    have HC993_0 := ak hl993_0
    clear hi993_0 hl993_0
    replace p993 := eq_true p993
    replace q993 := eq_true q993
    have p994 : 0 ≤ ((ji29) : Int) := oT (by (with_reducible assumption))
    have q994 : (ji29) < ((rd_L3 t990 x8_2).length : Int) := oT (by (with_reducible assumption))
    obtain ⟨ad994, e994, hx994_0⟩ := Kd.at_int (by repeat ((with_reducible exact HR993_0.out))) (ji29) p994 q994
    cases e994
    replace p994 := eq_true p994
    replace q994 := eq_true q994
    refine start_ (n := 12) (S := fun w' => w'.cell? (ad993.add (x8_2).toNat) = some (.slice (some ad994) (rd_L3 t990 x8_2).length c993_0) ∧ w'.cell? (ad994.add ((ji29)).toNat) = some (.int .i64 (rd (rd_L3 t990 x8_2) (ji29)))) (ds := []) (ms 12 0) (by kernel_rfl) rfl (by kernel_rfl) ⟨hx993_0, hx994_0⟩ (fun hHeld => ?_); refine with_tabW laws_FnTourTable.tab12 laws_FnTourTable.bits12 (fun HT_ HW_ => ?_)
    generalize wr.drew = w38 at HO_4 HO_6 HO_987001 BK986 HB HL993_0 HR993_0 hx993_0 hx994_0 hHeld ⊢
    refine pu 0 47 ?_ (ms 12 1) rfl rfl HT_ (by kernel_rfl) (fun _ _ _ h => h) (by rfl) ?_ ?_ ?_ ?_
    rotate_left
    ·intro w'
     go_simp
     with_reducible rfl
    rotate_left
    ·simp only [SX]
     rfl
    refine pu 1 48 ?_ (ms 12 3) rfl rfl HT_ (by kernel_rfl) (fun _ _ _ h => h) (by rfl) ?_ ?_ ?_ ?_
    rotate_left
    ·intro w'
     go_simp
     with_reducible rfl
    rotate_left
    ·simp only [SX]
     rfl
    refine pu 2 49 ?_ (ms 12 7) rfl rfl HT_ (by kernel_rfl) (fun _ _ _ h => h) (by rfl) ?_ ?_ ?_ ?_
    rotate_left
    ·intro w'
     go_simp
     with_reducible rfl
    rotate_left
    ·simp only [SX]
     rfl
    refine pu 4 51 ?_ (ms 12 23) rfl rfl HT_ (by kernel_rfl) (fun _ _ _ h => h) (by rfl) ?_ ?_ ?_ ?_
    rotate_left
    ·intro w'
     go_simp
     with_reducible rfl
    rotate_left
    ·simp only [SX]
     rfl
    refine pu 5 52 ?_ (ms 12 55) rfl rfl HT_ (by kernel_rfl) (fun _ _ _ h => h) (by rfl) ?_ ?_ ?_ ?_
    rotate_left
    ·intro w'
     go_simp
     with_reducible rfl
    rotate_left
    ·simp only [SX]
     rfl
    refine pu 6 53 ?_ (ms 12 119) rfl rfl HT_ (by kernel_rfl) (fun _ _ _ h => h) (by rfl) ?_ ?_ ?_ ?_
    rotate_left
    ·intro w'
     go_simp
     with_reducible rfl
    rotate_left
    ·simp only [SX]
     rfl
    refine pu 7 54 ?_ (ms 12 247) rfl rfl HT_ (by kernel_rfl) (fun _ _ _ h => h) (by rfl) ?_ ?_ ?_ ?_
    rotate_left
    ·intro w'
     go_simp
     with_reducible rfl
    rotate_left
    ·simp only [SX]
     rfl
    refine pu 8 55 ?_ (ms 12 503) rfl rfl HT_ (by kernel_rfl) (fun _ _ _ h => h) (by rfl) ?_ ?_ ?_ ?_
    rotate_left
    ·intro w'
     go_simp
     with_reducible rfl
    rotate_left
    ·simp only [SX]
     rfl
    refine tk 3 50 ?_ (ms 12 511) rfl rfl HT_ HW_ (by kernel_rfl) (fun _ _ _ h => h) (by rfl) ?_ hHeld ?_ ?_ ?_
    rotate_left
    ·rintro w' ⟨s0, s1⟩
     go_simp
     with_reducible rfl
    rotate_left
    ·simp only [SX]
     rfl
    refine pu 9 56 ?_ (ms 12 1023) rfl rfl HT_ (by kernel_rfl) (fun _ _ _ h => h) (by rfl) ?_ ?_ ?_ ?_
    rotate_left
    ·intro w'
     go_simp
     with_reducible rfl
    rotate_left
    ·simp only [SX]
     rfl
    refine tk 10 57 ?_ (ms 12 2047) rfl rfl HT_ HW_ (by kernel_rfl) (fun _ _ _ h => h) (by rfl) ?_ hHeld ?_ ?_ ?_
    rotate_left
    ·rintro w' ⟨s0, s1⟩
     go_simp
     with_reducible rfl
    rotate_left
    ·simp only [SX]
     rfl
    refine pu 11 9 ?_ (ms 12 4095) rfl rfl HT_ (by kernel_rfl) (fun _ _ _ h => h) (by rfl) ?_ ?_ ?_ ?_
    rotate_left
    ·intro w'
     go_simp
     with_reducible rfl
    rotate_left
    ·simp only [SX]
     rfl
    refine done_ (done_of HT_.out (by kernel_rfl)) ?_
    try go_wp2
    go_roundg k2
    case measure => have := HJ4.out; have := HK2.out; omega
    case rel => exact ⟨(wrap64 (x7_2 + (rd (rd_L3 t990 x8_2) (ji29)))), (wrap64 (x8_2 + 1)), (by rfl), (by rfl), H', ⟨by have := HJ4.out; have := HK2.out; omega⟩, ⟨rk HO_4⟩, ⟨by exact HO_6.out⟩, ⟨rk HO_987001⟩, ⟨bk BK986⟩, ⟨bl1 HB GE986⟩⟩
   rw [if_neg c25] at H
   have c25b0 : decide (x8_2 < (t983.length : Int)) = false := decide_eq_false c25
   clear c25
   replace H := Option.bind_eq_some_iff.mp H
   obtain ⟨⟨t995, t998⟩, A400, H⟩ := H
   have A40 := ak A400
   clear A400
   by_cases c41 : x7_2 = t987
   rotate_left
   ·rw [if_neg c41] at H
    have c41b0 : (x7_2 == t987) = false := beq_eq_false_iff_ne.mpr c41
    have c41b1 : (x7_2 != t987) = true := bne_iff_ne.mpr c41
    exact absurd ((Option.some.inj H).trans hr_) Bool.false_ne_true
   rw [if_pos c41] at H
   have c41b0 : (x7_2 == t987) = true := beq_iff_eq.mpr c41
   have c41b1 : (x7_2 != t987) = false := bne_eq_false_iff_eq.mpr c41
   clear c41
   by_cases c42 : t998 ≤ t987
   rotate_left
   ·rw [if_neg c42] at H
    have c42b0 : decide (t998 ≤ t987) = false := decide_eq_false c42
    clear c42
    exact absurd ((Option.some.inj H).trans hr_) Bool.false_ne_true
   rw [if_pos c42] at H
   have c42b0 : decide (t998 ≤ t987) = true := decide_eq_true c42
   clear c42
   by_cases c43 : (t983.length : Int) > 3
   ·rw [if_pos c43] at H
    have c43b0 : decide (3 < (t983.length : Int)) = true := decide_eq_true c43
    have c43b1 : decide (3 < t983.length) = true := decide_eq_true (by omega)
    clear c43
    obtain rfl := Option.some.inj H
    have hcz44_0 := bc wr BK986 0 (.int .i64 t979) rfl
    have hcz44_1 := bc wr BK986 1 (.slice Ao9 t980.length co9) rfl
    have hfz44_0 := fz BK986 0
    have hfz44_1 := fz BK986 1
    try go_wp2_with (((with_reducible refine gate_callee (f := 35) rfl ?_); refine goesL_ (some 70) rfl rfl Try.func35 (by kernel_rfl) rfl #[.agg #[.int .i64 t979, .slice Ao9 t980.length co9], .slice Ao10 t983.length co10] rfl (by (try simp only [List.map_toArray, List.map_cons, List.map_nil]); rfl) ?_; (with_reducible refine (impl_TourBest.calls k2 t979 _ _ t980 _ _ t983 t995 t998 _ ?side1 ?side2 ?side3 ?side4 A40.out).mono ?_); (case side1 => repeat (exact (Kd.R_reads' HO_987001.out).2.2)); (case side2 => exact (Kd.R_reads' HO_987001.out).2.1); (case side3 => repeat (exact (Kd.R_reads' HO_4.out).2.2)); (case side4 => exact (Kd.R_reads' HO_4.out).2.1); rintro e w45 ⟨v996, rfl, ho0, hb⟩; refine ⟨_, rfl, ?_⟩; replace HO_6 := ak (Kd.S_elder' (by exact HO_6.out) (Kd.R_base ho0) hb); replace HO_987001 := ak (Kd.R_below (rk HO_987001) hb); have HO997 := ak (Kd.R_lower (Kd.R_new' ho0 (Kd.R_lt (rk HO_4))) (below_size (bl1 HB GE986))); replace HO_4 := ak (Kd.R_elder' (rk HO_4) (Kd.R_base ho0) hb); replace BK986 := ak (blk_below (bk BK986) hb); replace HB := ak (below_step (bl1 HB GE986) hb); (try clear hb); (try clear hb2); (try clear hk); (try clear hi); (try clear ho0)))
    replace HO_4 := ak (Kd.R_drew HO_4.out)
    replace HO_6 := ak (Kd.S_drew HO_6.out)
    replace HO_987001 := ak (Kd.R_drew HO_987001.out)
    replace HO997 := ak (Kd.R_drew HO997.out)
    replace BK986 := ak (blk_drew BK986.out)
    replace HB := ak (below_drew1 HB.out)
    refine start_ (n := 35) (S := fun w' => True) (ds := []) (ms 35 0) (by kernel_rfl) rfl (by kernel_rfl) trivial (fun hHeld => ?_); refine with_tabW laws_FnTourTable.tab17 laws_FnTourTable.bits17 (fun HT_ HW_ => ?_)
    generalize w45.drew = w46 at HO_4 HO_6 HO_987001 HO997 BK986 HB hHeld ⊢
    refine pu 0 73 ?_ (ms 35 1) rfl rfl HT_ (by kernel_rfl) (fun _ _ _ h => h) (by rfl) ?_ ?_ ?_ ?_
    rotate_left
    ·intro w'
     go_simp
     with_reducible rfl
    rotate_left
    ·simp only [SX]
     rfl
    refine pu 1 74 ?_ (ms 35 3) rfl rfl HT_ (by kernel_rfl) (fun _ _ _ h => h) (by rfl) ?_ ?_ ?_ ?_
    rotate_left
    ·intro w'
     go_simp
     with_reducible rfl
    rotate_left
    ·simp only [SX]
     rfl
    refine pu 2 75 ?_ (ms 35 7) rfl rfl HT_ (by kernel_rfl) (fun _ _ _ h => h) (by rfl) ?_ ?_ ?_ ?_
    rotate_left
    ·intro w'
     go_simp
     with_reducible rfl
    rotate_left
    ·simp only [SX]
     rfl
    refine pu 3 76 ?_ (ms 35 15) rfl rfl HT_ (by kernel_rfl) (fun _ _ _ h => h) (by rfl) ?_ ?_ ?_ ?_
    rotate_left
    ·intro w'
     go_simp
     with_reducible rfl
    rotate_left
    ·simp only [SX]
     rfl
    refine pu 4 77 ?_ (ms 35 31) rfl rfl HT_ (by kernel_rfl) (fun _ _ _ h => h) (by rfl) ?_ ?_ ?_ ?_
    rotate_left
    ·intro w'
     go_simp
     with_reducible rfl
    rotate_left
    ·simp only [SX]
     rfl
    refine pu 5 78 ?_ (ms 35 63) rfl rfl HT_ (by kernel_rfl) (fun _ _ _ h => h) (by rfl) ?_ ?_ ?_ ?_
    rotate_left
    ·intro w'
     go_simp
     with_reducible rfl
    rotate_left
    ·simp only [SX]
     rfl
    refine pu 6 79 ?_ (ms 35 127) rfl rfl HT_ (by kernel_rfl) (fun _ _ _ h => h) (by rfl) ?_ ?_ ?_ ?_
    rotate_left
    ·intro w'
     go_simp
     with_reducible rfl
    rotate_left
    ·simp only [SX]
     rfl
    refine pu 7 80 ?_ (ms 35 255) rfl rfl HT_ (by kernel_rfl) (fun _ _ _ h => h) (by rfl) ?_ ?_ ?_ ?_
    rotate_left
    ·intro w'
     go_simp
     with_reducible rfl
    rotate_left
    ·simp only [SX]
     rfl
    refine pu 8 81 ?_ (ms 35 511) rfl rfl HT_ (by kernel_rfl) (fun _ _ _ h => h) (by rfl) ?_ ?_ ?_ ?_
    rotate_left
    ·intro w'
     go_simp
     with_reducible rfl
    rotate_left
    ·simp only [SX]
     rfl
    refine pu 9 82 ?_ (ms 35 1023) rfl rfl HT_ (by kernel_rfl) (fun _ _ _ h => h) (by rfl) ?_ ?_ ?_ ?_
    rotate_left
    ·intro w'
     go_simp
     with_reducible rfl
    rotate_left
    ·simp only [SX]
     rfl
    refine pu 10 83 ?_ (ms 35 2047) rfl rfl HT_ (by kernel_rfl) (fun _ _ _ h => h) (by rfl) ?_ ?_ ?_ ?_
    rotate_left
    ·intro w'
     go_simp
     with_reducible rfl
    rotate_left
    ·simp only [SX]
     rfl
    refine pu 11 84 ?_ (ms 35 4095) rfl rfl HT_ (by kernel_rfl) (fun _ _ _ h => h) (by rfl) ?_ ?_ ?_ ?_
    rotate_left
    ·intro w'
     go_simp
     with_reducible rfl
    rotate_left
    ·simp only [SX]
     rfl
    refine pu 12 85 ?_ (ms 35 8191) rfl rfl HT_ (by kernel_rfl) (fun _ _ _ h => h) (by rfl) ?_ ?_ ?_ ?_
    rotate_left
    ·intro w'
     go_simp
     with_reducible rfl
    rotate_left
    ·simp only [SX]
     rfl
    refine pure_ (i := 13) (N := some 86) (v := undef) (a' := ?_) (ms 35 16383) rfl rfl (any_of HT_.out (by kernel_rfl)) (fun _ _ _ h => h) (Or.inr ⟨by rfl, rfl⟩) ?_ ?_
    rotate_left
    ·simp only [SX]
     rfl
    refine pure_ (i := 14) (N := some 87) (v := undef) (a' := ?_) (ms 35 32767) rfl rfl (any_of HT_.out (by kernel_rfl)) (fun _ _ _ h => h) (Or.inr ⟨by rfl, rfl⟩) ?_ ?_
    rotate_left
    ·simp only [SX]
     rfl
    refine pure_ (i := 15) (N := some 88) (v := undef) (a' := ?_) (ms 35 65535) rfl rfl (any_of HT_.out (by kernel_rfl)) (fun _ _ _ h => h) (Or.inr ⟨by rfl, rfl⟩) ?_ ?_
    rotate_left
    ·simp only [SX]
     rfl
    refine pu 16 89 ?_ (ms 35 131071) rfl rfl HT_ (by kernel_rfl) (fun _ _ _ h => h) (by rfl) ?_ ?_ ?_ ?_
    rotate_left
    ·intro w'
     go_simp
     with_reducible rfl
    rotate_left
    ·simp only [SX]
     rfl
    refine pu 17 90 ?_ (ms 35 262143) rfl rfl HT_ (by kernel_rfl) (fun _ _ _ h => h) (by rfl) ?_ ?_ ?_ ?_
    rotate_left
    ·intro w'
     go_simp
     with_reducible rfl
    rotate_left
    ·simp only [SX]
     rfl
    refine pure_ (i := 18) (N := some 91) (v := undef) (a' := ?_) (ms 35 524287) rfl rfl (any_of HT_.out (by kernel_rfl)) (fun _ _ _ h => h) (Or.inr ⟨by rfl, rfl⟩) ?_ ?_
    rotate_left
    ·simp only [SX]
     rfl
    refine pure_ (i := 19) (N := some 92) (v := undef) (a' := ?_) (ms 35 1048575) rfl rfl (any_of HT_.out (by kernel_rfl)) (fun _ _ _ h => h) (Or.inr ⟨by rfl, rfl⟩) ?_ ?_
    rotate_left
    ·simp only [SX]
     rfl
    refine pure_ (i := 20) (N := some 93) (v := undef) (a' := ?_) (ms 35 2097151) rfl rfl (any_of HT_.out (by kernel_rfl)) (fun _ _ _ h => h) (Or.inr ⟨by rfl, rfl⟩) ?_ ?_
    rotate_left
    ·simp only [SX]
     rfl
    refine pure_ (i := 21) (N := some 94) (v := undef) (a' := ?_) (ms 35 4194303) rfl rfl (any_of HT_.out (by kernel_rfl)) (fun _ _ _ h => h) (Or.inr ⟨by rfl, rfl⟩) ?_ ?_
    rotate_left
    ·simp only [SX]
     rfl
    refine pure_ (i := 22) (N := some 95) (v := undef) (a' := ?_) (ms 35 8388607) rfl rfl (any_of HT_.out (by kernel_rfl)) (fun _ _ _ h => h) (Or.inr ⟨by rfl, rfl⟩) ?_ ?_
    rotate_left
    ·simp only [SX]
     rfl
    refine pure_ (i := 23) (N := some 96) (v := undef) (a' := ?_) (ms 35 16777215) rfl rfl (any_of HT_.out (by kernel_rfl)) (fun _ _ _ h => h) (Or.inr ⟨by rfl, rfl⟩) ?_ ?_
    rotate_left
    ·simp only [SX]
     rfl
    refine pure_ (i := 24) (N := some 97) (v := undef) (a' := ?_) (ms 35 33554431) rfl rfl (any_of HT_.out (by kernel_rfl)) (fun _ _ _ h => h) (Or.inr ⟨by rfl, rfl⟩) ?_ ?_
    rotate_left
    ·simp only [SX]
     rfl
    refine pure_ (i := 25) (N := some 98) (v := undef) (a' := ?_) (ms 35 67108863) rfl rfl (any_of HT_.out (by kernel_rfl)) (fun _ _ _ h => h) (Or.inr ⟨by rfl, rfl⟩) ?_ ?_
    rotate_left
    ·simp only [SX]
     rfl
    refine pure_ (i := 26) (N := some 99) (v := undef) (a' := ?_) (ms 35 134217727) rfl rfl (any_of HT_.out (by kernel_rfl)) (fun _ _ _ h => h) (Or.inr ⟨by rfl, rfl⟩) ?_ ?_
    rotate_left
    ·simp only [SX]
     rfl
    refine pure_ (i := 27) (N := some 100) (v := undef) (a' := ?_) (ms 35 268435455) rfl rfl (any_of HT_.out (by kernel_rfl)) (fun _ _ _ h => h) (Or.inr ⟨by rfl, rfl⟩) ?_ ?_
    rotate_left
    ·simp only [SX]
     rfl
    refine pure_ (i := 28) (N := some 101) (v := undef) (a' := ?_) (ms 35 536870911) rfl rfl (any_of HT_.out (by kernel_rfl)) (fun _ _ _ h => h) (Or.inr ⟨by rfl, rfl⟩) ?_ ?_
    rotate_left
    ·simp only [SX]
     rfl
    refine pure_ (i := 29) (N := some 102) (v := undef) (a' := ?_) (ms 35 1073741823) rfl rfl (any_of HT_.out (by kernel_rfl)) (fun _ _ _ h => h) (Or.inr ⟨by rfl, rfl⟩) ?_ ?_
    rotate_left
    ·simp only [SX]
     rfl
    refine pure_ (i := 30) (N := some 103) (v := undef) (a' := ?_) (ms 35 2147483647) rfl rfl (any_of HT_.out (by kernel_rfl)) (fun _ _ _ h => h) (Or.inr ⟨by rfl, rfl⟩) ?_ ?_
    rotate_left
    ·simp only [SX]
     rfl
    refine pure_ (i := 31) (N := some 104) (v := undef) (a' := ?_) (ms 35 4294967295) rfl rfl (any_of HT_.out (by kernel_rfl)) (fun _ _ _ h => h) (Or.inr ⟨by rfl, rfl⟩) ?_ ?_
    rotate_left
    ·simp only [SX]
     rfl
    refine pu 32 105 ?_ (ms 35 8589934591) rfl rfl HT_ (by kernel_rfl) (fun _ _ _ h => h) (by rfl) ?_ ?_ ?_ ?_
    rotate_left
    ·intro w'
     go_simp
     with_reducible rfl
    rotate_left
    ·simp only [SX]
     rfl
    refine pu 33 106 ?_ (ms 35 17179869183) rfl rfl HT_ (by kernel_rfl) (fun _ _ _ h => h) (by rfl) ?_ ?_ ?_ ?_
    rotate_left
    ·intro w'
     go_simp
     with_reducible rfl
    rotate_left
    ·simp only [SX]
     rfl
    refine pu 34 2 ?_ (ms 35 34359738367) rfl rfl HT_ (by kernel_rfl) (fun _ _ _ h => h) (by rfl) ?_ ?_ ?_ ?_
    rotate_left
    ·intro w'
     go_simp
     with_reducible rfl
    rotate_left
    ·simp only [SX]
     rfl
    refine done_ (done_of HT_.out (by kernel_rfl)) ?_
    try go_wp2
    go_ret
    exact ⟨by rfl, bl1 HB GE986⟩
   rw [if_neg c43] at H
   have c43b0 : decide (3 < (t983.length : Int)) = false := decide_eq_false c43
   have c43b1 : decide (3 < t983.length) = false := decide_eq_false (by omega)
   clear c43
   by_cases c47 : (t983.length : Int) < 3
   ·rw [if_pos c47] at H
    have c47b0 : decide ((t983.length : Int) < 3) = true := decide_eq_true c47
    have c47b1 : decide (t983.length < 3) = true := decide_eq_true (by omega)
    clear c47
    obtain rfl := Option.some.inj H
    have hcz48_0 := bc wr BK986 0 (.int .i64 t979) rfl
    have hcz48_1 := bc wr BK986 1 (.slice Ao9 t980.length co9) rfl
    have hfz48_0 := fz BK986 0
    have hfz48_1 := fz BK986 1
    try go_wp2_with (((with_reducible refine gate_callee (f := 35) rfl ?_); refine goesL_ (some 70) rfl rfl Try.func35 (by kernel_rfl) rfl #[.agg #[.int .i64 t979, .slice Ao9 t980.length co9], .slice Ao10 t983.length co10] rfl (by (try simp only [List.map_toArray, List.map_cons, List.map_nil]); rfl) ?_; (with_reducible refine (impl_TourBest.calls k2 t979 _ _ t980 _ _ t983 t995 t998 _ ?side1 ?side2 ?side3 ?side4 A40.out).mono ?_); (case side1 => repeat (exact (Kd.R_reads' HO_987001.out).2.2)); (case side2 => exact (Kd.R_reads' HO_987001.out).2.1); (case side3 => repeat (exact (Kd.R_reads' HO_4.out).2.2)); (case side4 => exact (Kd.R_reads' HO_4.out).2.1); rintro e w49 ⟨v996, rfl, ho0, hb⟩; refine ⟨_, rfl, ?_⟩; replace HO_6 := ak (Kd.S_elder' (by exact HO_6.out) (Kd.R_base ho0) hb); replace HO_987001 := ak (Kd.R_below (rk HO_987001) hb); have HO997 := ak (Kd.R_lower (Kd.R_new' ho0 (Kd.R_lt (rk HO_4))) (below_size (bl1 HB GE986))); replace HO_4 := ak (Kd.R_elder' (rk HO_4) (Kd.R_base ho0) hb); replace BK986 := ak (blk_below (bk BK986) hb); replace HB := ak (below_step (bl1 HB GE986) hb); (try clear hb); (try clear hb2); (try clear hk); (try clear hi); (try clear ho0)))
    replace HO_4 := ak (Kd.R_drew HO_4.out)
    replace HO_6 := ak (Kd.S_drew HO_6.out)
    replace HO_987001 := ak (Kd.R_drew HO_987001.out)
    replace HO997 := ak (Kd.R_drew HO997.out)
    replace BK986 := ak (blk_drew BK986.out)
    replace HB := ak (below_drew1 HB.out)
    refine start_ (n := 35) (S := fun w' => True) (ds := []) (ms 35 0) (by kernel_rfl) rfl (by kernel_rfl) trivial (fun hHeld => ?_); refine with_tabW laws_FnTourTable.tab17 laws_FnTourTable.bits17 (fun HT_ HW_ => ?_)
    generalize w49.drew = w50 at HO_4 HO_6 HO_987001 HO997 BK986 HB hHeld ⊢
    refine pu 0 73 ?_ (ms 35 1) rfl rfl HT_ (by kernel_rfl) (fun _ _ _ h => h) (by rfl) ?_ ?_ ?_ ?_
    rotate_left
    ·intro w'
     go_simp
     with_reducible rfl
    rotate_left
    ·simp only [SX]
     rfl
    refine pu 1 74 ?_ (ms 35 3) rfl rfl HT_ (by kernel_rfl) (fun _ _ _ h => h) (by rfl) ?_ ?_ ?_ ?_
    rotate_left
    ·intro w'
     go_simp
     with_reducible rfl
    rotate_left
    ·simp only [SX]
     rfl
    refine pu 2 75 ?_ (ms 35 7) rfl rfl HT_ (by kernel_rfl) (fun _ _ _ h => h) (by rfl) ?_ ?_ ?_ ?_
    rotate_left
    ·intro w'
     go_simp
     with_reducible rfl
    rotate_left
    ·simp only [SX]
     rfl
    refine pu 3 76 ?_ (ms 35 15) rfl rfl HT_ (by kernel_rfl) (fun _ _ _ h => h) (by rfl) ?_ ?_ ?_ ?_
    rotate_left
    ·intro w'
     go_simp
     with_reducible rfl
    rotate_left
    ·simp only [SX]
     rfl
    refine pu 4 77 ?_ (ms 35 31) rfl rfl HT_ (by kernel_rfl) (fun _ _ _ h => h) (by rfl) ?_ ?_ ?_ ?_
    rotate_left
    ·intro w'
     go_simp
     with_reducible rfl
    rotate_left
    ·simp only [SX]
     rfl
    refine pu 5 78 ?_ (ms 35 63) rfl rfl HT_ (by kernel_rfl) (fun _ _ _ h => h) (by rfl) ?_ ?_ ?_ ?_
    rotate_left
    ·intro w'
     go_simp
     with_reducible rfl
    rotate_left
    ·simp only [SX]
     rfl
    refine pu 6 79 ?_ (ms 35 127) rfl rfl HT_ (by kernel_rfl) (fun _ _ _ h => h) (by rfl) ?_ ?_ ?_ ?_
    rotate_left
    ·intro w'
     go_simp
     with_reducible rfl
    rotate_left
    ·simp only [SX]
     rfl
    refine pu 7 80 ?_ (ms 35 255) rfl rfl HT_ (by kernel_rfl) (fun _ _ _ h => h) (by rfl) ?_ ?_ ?_ ?_
    rotate_left
    ·intro w'
     go_simp
     with_reducible rfl
    rotate_left
    ·simp only [SX]
     rfl
    refine pu 8 81 ?_ (ms 35 511) rfl rfl HT_ (by kernel_rfl) (fun _ _ _ h => h) (by rfl) ?_ ?_ ?_ ?_
    rotate_left
    ·intro w'
     go_simp
     with_reducible rfl
    rotate_left
    ·simp only [SX]
     rfl
    refine pu 9 82 ?_ (ms 35 1023) rfl rfl HT_ (by kernel_rfl) (fun _ _ _ h => h) (by rfl) ?_ ?_ ?_ ?_
    rotate_left
    ·intro w'
     go_simp
     with_reducible rfl
    rotate_left
    ·simp only [SX]
     rfl
    refine pu 10 83 ?_ (ms 35 2047) rfl rfl HT_ (by kernel_rfl) (fun _ _ _ h => h) (by rfl) ?_ ?_ ?_ ?_
    rotate_left
    ·intro w'
     go_simp
     with_reducible rfl
    rotate_left
    ·simp only [SX]
     rfl
    refine pu 11 84 ?_ (ms 35 4095) rfl rfl HT_ (by kernel_rfl) (fun _ _ _ h => h) (by rfl) ?_ ?_ ?_ ?_
    rotate_left
    ·intro w'
     go_simp
     with_reducible rfl
    rotate_left
    ·simp only [SX]
     rfl
    refine pu 12 85 ?_ (ms 35 8191) rfl rfl HT_ (by kernel_rfl) (fun _ _ _ h => h) (by rfl) ?_ ?_ ?_ ?_
    rotate_left
    ·intro w'
     go_simp
     with_reducible rfl
    rotate_left
    ·simp only [SX]
     rfl
    refine pu 13 86 ?_ (ms 35 16383) rfl rfl HT_ (by kernel_rfl) (fun _ _ _ h => h) (by rfl) ?_ ?_ ?_ ?_
    rotate_left
    ·intro w'
     go_simp
     with_reducible rfl
    rotate_left
    ·simp only [SX]
     rfl
    refine pu 14 87 ?_ (ms 35 32767) rfl rfl HT_ (by kernel_rfl) (fun _ _ _ h => h) (by rfl) ?_ ?_ ?_ ?_
    rotate_left
    ·intro w'
     go_simp
     with_reducible rfl
    rotate_left
    ·simp only [SX]
     rfl
    refine pu 15 88 ?_ (ms 35 65535) rfl rfl HT_ (by kernel_rfl) (fun _ _ _ h => h) (by rfl) ?_ ?_ ?_ ?_
    rotate_left
    ·intro w'
     go_simp
     with_reducible rfl
    rotate_left
    ·simp only [SX]
     rfl
    refine pu 16 89 ?_ (ms 35 131071) rfl rfl HT_ (by kernel_rfl) (fun _ _ _ h => h) (by rfl) ?_ ?_ ?_ ?_
    rotate_left
    ·intro w'
     go_simp
     with_reducible rfl
    rotate_left
    ·simp only [SX]
     rfl
    refine pu 17 90 ?_ (ms 35 262143) rfl rfl HT_ (by kernel_rfl) (fun _ _ _ h => h) (by rfl) ?_ ?_ ?_ ?_
    rotate_left
    ·intro w'
     go_simp
     with_reducible rfl
    rotate_left
    ·simp only [SX]
     rfl
    refine pure_ (i := 18) (N := some 91) (v := undef) (a' := ?_) (ms 35 524287) rfl rfl (any_of HT_.out (by kernel_rfl)) (fun _ _ _ h => h) (Or.inr ⟨by rfl, rfl⟩) ?_ ?_
    rotate_left
    ·simp only [SX]
     rfl
    refine pure_ (i := 19) (N := some 92) (v := undef) (a' := ?_) (ms 35 1048575) rfl rfl (any_of HT_.out (by kernel_rfl)) (fun _ _ _ h => h) (Or.inr ⟨by rfl, rfl⟩) ?_ ?_
    rotate_left
    ·simp only [SX]
     rfl
    refine pure_ (i := 20) (N := some 93) (v := undef) (a' := ?_) (ms 35 2097151) rfl rfl (any_of HT_.out (by kernel_rfl)) (fun _ _ _ h => h) (Or.inr ⟨by rfl, rfl⟩) ?_ ?_
    rotate_left
    ·simp only [SX]
     rfl
    refine pure_ (i := 21) (N := some 94) (v := undef) (a' := ?_) (ms 35 4194303) rfl rfl (any_of HT_.out (by kernel_rfl)) (fun _ _ _ h => h) (Or.inr ⟨by rfl, rfl⟩) ?_ ?_
    rotate_left
    ·simp only [SX]
     rfl
    refine pure_ (i := 22) (N := some 95) (v := undef) (a' := ?_) (ms 35 8388607) rfl rfl (any_of HT_.out (by kernel_rfl)) (fun _ _ _ h => h) (Or.inr ⟨by rfl, rfl⟩) ?_ ?_
    rotate_left
    ·simp only [SX]
     rfl
    refine pure_ (i := 23) (N := some 96) (v := undef) (a' := ?_) (ms 35 16777215) rfl rfl (any_of HT_.out (by kernel_rfl)) (fun _ _ _ h => h) (Or.inr ⟨by rfl, rfl⟩) ?_ ?_
    rotate_left
    ·simp only [SX]
     rfl
    refine pure_ (i := 24) (N := some 97) (v := undef) (a' := ?_) (ms 35 33554431) rfl rfl (any_of HT_.out (by kernel_rfl)) (fun _ _ _ h => h) (Or.inr ⟨by rfl, rfl⟩) ?_ ?_
    rotate_left
    ·simp only [SX]
     rfl
    refine pure_ (i := 25) (N := some 98) (v := undef) (a' := ?_) (ms 35 67108863) rfl rfl (any_of HT_.out (by kernel_rfl)) (fun _ _ _ h => h) (Or.inr ⟨by rfl, rfl⟩) ?_ ?_
    rotate_left
    ·simp only [SX]
     rfl
    refine pure_ (i := 26) (N := some 99) (v := undef) (a' := ?_) (ms 35 134217727) rfl rfl (any_of HT_.out (by kernel_rfl)) (fun _ _ _ h => h) (Or.inr ⟨by rfl, rfl⟩) ?_ ?_
    rotate_left
    ·simp only [SX]
     rfl
    refine pure_ (i := 27) (N := some 100) (v := undef) (a' := ?_) (ms 35 268435455) rfl rfl (any_of HT_.out (by kernel_rfl)) (fun _ _ _ h => h) (Or.inr ⟨by rfl, rfl⟩) ?_ ?_
    rotate_left
    ·simp only [SX]
     rfl
    refine pure_ (i := 28) (N := some 101) (v := undef) (a' := ?_) (ms 35 536870911) rfl rfl (any_of HT_.out (by kernel_rfl)) (fun _ _ _ h => h) (Or.inr ⟨by rfl, rfl⟩) ?_ ?_
    rotate_left
    ·simp only [SX]
     rfl
    refine pure_ (i := 29) (N := some 102) (v := undef) (a' := ?_) (ms 35 1073741823) rfl rfl (any_of HT_.out (by kernel_rfl)) (fun _ _ _ h => h) (Or.inr ⟨by rfl, rfl⟩) ?_ ?_
    rotate_left
    ·simp only [SX]
     rfl
    refine pure_ (i := 30) (N := some 103) (v := undef) (a' := ?_) (ms 35 2147483647) rfl rfl (any_of HT_.out (by kernel_rfl)) (fun _ _ _ h => h) (Or.inr ⟨by rfl, rfl⟩) ?_ ?_
    rotate_left
    ·simp only [SX]
     rfl
    refine pure_ (i := 31) (N := some 104) (v := undef) (a' := ?_) (ms 35 4294967295) rfl rfl (any_of HT_.out (by kernel_rfl)) (fun _ _ _ h => h) (Or.inr ⟨by rfl, rfl⟩) ?_ ?_
    rotate_left
    ·simp only [SX]
     rfl
    refine pu 32 105 ?_ (ms 35 8589934591) rfl rfl HT_ (by kernel_rfl) (fun _ _ _ h => h) (by rfl) ?_ ?_ ?_ ?_
    rotate_left
    ·intro w'
     go_simp
     with_reducible rfl
    rotate_left
    ·simp only [SX]
     rfl
    refine pu 33 106 ?_ (ms 35 17179869183) rfl rfl HT_ (by kernel_rfl) (fun _ _ _ h => h) (by rfl) ?_ ?_ ?_ ?_
    rotate_left
    ·intro w'
     go_simp
     with_reducible rfl
    rotate_left
    ·simp only [SX]
     rfl
    refine pu 34 2 ?_ (ms 35 34359738367) rfl rfl HT_ (by kernel_rfl) (fun _ _ _ h => h) (by rfl) ?_ ?_ ?_ ?_
    rotate_left
    ·intro w'
     go_simp
     with_reducible rfl
    rotate_left
    ·simp only [SX]
     rfl
    refine done_ (done_of HT_.out (by kernel_rfl)) ?_
    try go_wp2
    go_ret
    exact ⟨by rfl, bl1 HB GE986⟩
   rw [if_neg c47] at H
   have c47b0 : decide ((t983.length : Int) < 3) = false := decide_eq_false c47
   have c47b1 : decide (t983.length < 3) = false := decide_eq_false (by omega)
   clear c47
   by_cases c51 : 0 < (t983.length : Int)
   rotate_left
   ·rw [if_neg c51] at H
    exact absurd H (by simp)
   rw [if_pos c51] at H
   have c51b0 : decide (0 < (t983.length : Int)) = true := decide_eq_true c51
   have c51b1 : decide (0 < t983.length) = true := decide_eq_true (by omega)
   clear c51
   by_cases c52 : 2 < (t983.length : Int)
   rotate_left
   ·rw [if_neg c52] at H
    exact absurd H (by simp)
   rw [if_pos c52] at H
   have c52b0 : decide (2 < (t983.length : Int)) = true := decide_eq_true c52
   have c52b1 : decide (2 < t983.length) = true := decide_eq_true (by omega)
   clear c52
   by_cases c53 : 1 < (t983.length : Int)
   rotate_left
   ·rw [if_neg c53] at H
    exact absurd H (by simp)
   rw [if_pos c53] at H
   have c53b0 : decide (1 < (t983.length : Int)) = true := decide_eq_true c53
   have c53b1 : decide (1 < t983.length) = true := decide_eq_true (by omega)
   clear c53
   obtain ⟨y1002, hy1002⟩ : ∃ y_ : List Int, y_ = (([rd t983 0, rd t983 2, rd t983 1] : List Int)) := ⟨_, rfl⟩
   replace H : ((impl_TourCost.f k2 t979 t980 y1002).bind fun t1005 => (some (decide (t1005 ≥ t998)))) = some r := by (rw [hy1002]; with_reducible exact H)
   have Ny1002 := ak hy1002
   clear hy1002
   replace H := Option.bind_eq_some_iff.mp H
   obtain ⟨t1005, A540, H⟩ := H
   have A54 := ak A540
   clear A540
   obtain rfl := Option.some.inj H
   have hcz55_0 := bc wr BK986 0 (.int .i64 t979) rfl
   have hcz55_1 := bc wr BK986 1 (.slice Ao9 t980.length co9) rfl
   have hfz55_0 := fz BK986 0
   have hfz55_1 := fz BK986 1
   try go_wp2_with (((with_reducible refine gate_callee (f := 35) rfl ?_); refine goesL_ (some 70) rfl rfl Try.func35 (by kernel_rfl) rfl #[.agg #[.int .i64 t979, .slice Ao9 t980.length co9], .slice Ao10 t983.length co10] rfl (by (try simp only [List.map_toArray, List.map_cons, List.map_nil]); rfl) ?_; (with_reducible refine (impl_TourBest.calls k2 t979 _ _ t980 _ _ t983 t995 t998 _ ?side1 ?side2 ?side3 ?side4 A40.out).mono ?_); (case side1 => repeat (exact (Kd.R_reads' HO_987001.out).2.2)); (case side2 => exact (Kd.R_reads' HO_987001.out).2.1); (case side3 => repeat (exact (Kd.R_reads' HO_4.out).2.2)); (case side4 => exact (Kd.R_reads' HO_4.out).2.1); rintro e w56 ⟨v996, rfl, ho0, hb⟩; refine ⟨_, rfl, ?_⟩; replace HO_6 := ak (Kd.S_elder' (by exact HO_6.out) (Kd.R_base ho0) hb); replace HO_987001 := ak (Kd.R_below (rk HO_987001) hb); have HO997 := ak (Kd.R_lower (Kd.R_new' ho0 (Kd.R_lt (rk HO_4))) (below_size (bl1 HB GE986))); replace HO_4 := ak (Kd.R_elder' (rk HO_4) (Kd.R_base ho0) hb); replace BK986 := ak (blk_below (bk BK986) hb); replace HB := ak (below_step (bl1 HB GE986) hb); (try clear hb); (try clear hb2); (try clear hk); (try clear hi); (try clear ho0)))
   replace HO_4 := ak (Kd.R_drew HO_4.out)
   replace HO_6 := ak (Kd.S_drew HO_6.out)
   replace HO_987001 := ak (Kd.R_drew HO_987001.out)
   replace HO997 := ak (Kd.R_drew HO997.out)
   replace BK986 := ak (blk_drew BK986.out)
   replace HB := ak (below_drew1 HB.out)
   have p999 : 0 ≤ (0 : Int) := (by omega)
   have q999 : 0 < (t983.length : Int) := oT (by (with_reducible assumption))
   obtain ⟨ad999, e999, hx999_0⟩ := Kd.at_int (Kd.R_reads' HO_4.out).2.2 0 p999 q999
   cases e999
   have qi999 : (0 < t983.length) = True := eq_true (by omega)
   (try rw [show ((0 : Int)).toNat = 0 from rfl] at hx999_0)
   (try rw [Addr.add_zero'] at hx999_0)
   replace p999 := eq_true p999
   replace q999 := eq_true q999
   have p1000 : 0 ≤ (2 : Int) := (by omega)
   have q1000 : 2 < (t983.length : Int) := oT (by (with_reducible assumption))
   obtain ⟨ad1000, e1000, hx1000_0⟩ := Kd.at_int (Kd.R_reads' HO_4.out).2.2 2 p1000 q1000
   obtain rfl : ad999 = ad1000 := (by injection e1000)
   (try simp only [show (2 : Int).toNat = 2 from rfl, Nat.reduceMul, Nat.reduceEqDiff, Go.Addr.add, ↓reduceIte] at hx1000_0)
   have qi1000 : (2 < t983.length) = True := eq_true (by omega)
   (try rw [show ((2 : Int)).toNat = 2 from rfl] at hx1000_0)
   replace p1000 := eq_true p1000
   replace q1000 := eq_true q1000
   have p1001 : 0 ≤ (1 : Int) := (by omega)
   have q1001 : 1 < (t983.length : Int) := oT (by (with_reducible assumption))
   obtain ⟨ad1001, e1001, hx1001_0⟩ := Kd.at_int (Kd.R_reads' HO_4.out).2.2 1 p1001 q1001
   obtain rfl : ad999 = ad1001 := (by injection e1001)
   (try simp only [show (1 : Int).toNat = 1 from rfl, Nat.reduceMul, Nat.reduceEqDiff, Go.Addr.add, ↓reduceIte] at hx1001_0)
   have qi1001 : (1 < t983.length) = True := eq_true (by omega)
   (try rw [show ((1 : Int)).toNat = 1 from rfl] at hx1001_0)
   replace p1001 := eq_true p1001
   replace q1001 := eq_true q1001
   refine start_ (n := 35) (S := fun w' => w'.cell? ⟨gb986, 0, none⟩ = some (.int .i64 t979) ∧ w'.cell? ⟨gb986, 1, none⟩ = some (.slice Ao9 t980.length co9) ∧ w'.cell? ad999 = some (.int .i64 (rd t983 0)) ∧ w'.cell? ⟨ad999.block, ad999.off + 2, none⟩ = some (.int .i64 (rd t983 2)) ∧ w'.cell? ⟨ad999.block, ad999.off + 1, none⟩ = some (.int .i64 (rd t983 1))) (ds := []) (ms 35 0) (by kernel_rfl) rfl (by kernel_rfl) ⟨(blk_cell BK986.out 0).trans rfl, (blk_cell BK986.out 1).trans rfl, hx999_0, hx1000_0, hx1001_0⟩ (fun hHeld => ?_); refine with_tabW laws_FnTourTable.tab17 laws_FnTourTable.bits17 (fun HT_ HW_ => ?_)
   generalize w56.drew = w57 at HO_4 HO_6 HO_987001 HO997 BK986 HB hx1000_0 hx1001_0 hx999_0 hHeld ⊢
   refine pu 0 73 ?_ (ms 35 1) rfl rfl HT_ (by kernel_rfl) (fun _ _ _ h => h) (by rfl) ?_ ?_ ?_ ?_
   rotate_left
   ·intro w'
    go_simp
    with_reducible rfl
   rotate_left
   ·simp only [SX]
    rfl
   refine pu 1 74 ?_ (ms 35 3) rfl rfl HT_ (by kernel_rfl) (fun _ _ _ h => h) (by rfl) ?_ ?_ ?_ ?_
   rotate_left
   ·intro w'
    go_simp
    with_reducible rfl
   rotate_left
   ·simp only [SX]
    rfl
   refine pu 2 75 ?_ (ms 35 7) rfl rfl HT_ (by kernel_rfl) (fun _ _ _ h => h) (by rfl) ?_ ?_ ?_ ?_
   rotate_left
   ·intro w'
    go_simp
    with_reducible rfl
   rotate_left
   ·simp only [SX]
    rfl
   refine pu 3 76 ?_ (ms 35 15) rfl rfl HT_ (by kernel_rfl) (fun _ _ _ h => h) (by rfl) ?_ ?_ ?_ ?_
   rotate_left
   ·intro w'
    go_simp
    with_reducible rfl
   rotate_left
   ·simp only [SX]
    rfl
   refine pu 4 77 ?_ (ms 35 31) rfl rfl HT_ (by kernel_rfl) (fun _ _ _ h => h) (by rfl) ?_ ?_ ?_ ?_
   rotate_left
   ·intro w'
    go_simp
    with_reducible rfl
   rotate_left
   ·simp only [SX]
    rfl
   refine pu 5 78 ?_ (ms 35 63) rfl rfl HT_ (by kernel_rfl) (fun _ _ _ h => h) (by rfl) ?_ ?_ ?_ ?_
   rotate_left
   ·intro w'
    go_simp
    with_reducible rfl
   rotate_left
   ·simp only [SX]
    rfl
   refine pu 6 79 ?_ (ms 35 127) rfl rfl HT_ (by kernel_rfl) (fun _ _ _ h => h) (by rfl) ?_ ?_ ?_ ?_
   rotate_left
   ·intro w'
    go_simp
    with_reducible rfl
   rotate_left
   ·simp only [SX]
    rfl
   refine pu 7 80 ?_ (ms 35 255) rfl rfl HT_ (by kernel_rfl) (fun _ _ _ h => h) (by rfl) ?_ ?_ ?_ ?_
   rotate_left
   ·intro w'
    go_simp
    with_reducible rfl
   rotate_left
   ·simp only [SX]
    rfl
   refine pu 8 81 ?_ (ms 35 511) rfl rfl HT_ (by kernel_rfl) (fun _ _ _ h => h) (by rfl) ?_ ?_ ?_ ?_
   rotate_left
   ·intro w'
    go_simp
    with_reducible rfl
   rotate_left
   ·simp only [SX]
    rfl
   refine pu 9 82 ?_ (ms 35 1023) rfl rfl HT_ (by kernel_rfl) (fun _ _ _ h => h) (by rfl) ?_ ?_ ?_ ?_
   rotate_left
   ·intro w'
    go_simp
    with_reducible rfl
   rotate_left
   ·simp only [SX]
    rfl
   refine pu 10 83 ?_ (ms 35 2047) rfl rfl HT_ (by kernel_rfl) (fun _ _ _ h => h) (by rfl) ?_ ?_ ?_ ?_
   rotate_left
   ·intro w'
    go_simp
    with_reducible rfl
   rotate_left
   ·simp only [SX]
    rfl
   refine pu 11 84 ?_ (ms 35 4095) rfl rfl HT_ (by kernel_rfl) (fun _ _ _ h => h) (by rfl) ?_ ?_ ?_ ?_
   rotate_left
   ·intro w'
    go_simp
    with_reducible rfl
   rotate_left
   ·simp only [SX]
    rfl
   refine pu 12 85 ?_ (ms 35 8191) rfl rfl HT_ (by kernel_rfl) (fun _ _ _ h => h) (by rfl) ?_ ?_ ?_ ?_
   rotate_left
   ·intro w'
    go_simp
    with_reducible rfl
   rotate_left
   ·simp only [SX]
    rfl
   refine pu 13 86 ?_ (ms 35 16383) rfl rfl HT_ (by kernel_rfl) (fun _ _ _ h => h) (by rfl) ?_ ?_ ?_ ?_
   rotate_left
   ·intro w'
    go_simp
    with_reducible rfl
   rotate_left
   ·simp only [SX]
    rfl
   refine pu 14 87 ?_ (ms 35 32767) rfl rfl HT_ (by kernel_rfl) (fun _ _ _ h => h) (by rfl) ?_ ?_ ?_ ?_
   rotate_left
   ·intro w'
    go_simp
    with_reducible rfl
   rotate_left
   ·simp only [SX]
    rfl
   refine pu 15 88 ?_ (ms 35 65535) rfl rfl HT_ (by kernel_rfl) (fun _ _ _ h => h) (by rfl) ?_ ?_ ?_ ?_
   rotate_left
   ·intro w'
    go_simp
    with_reducible rfl
   rotate_left
   ·simp only [SX]
    rfl
   refine pu 16 89 ?_ (ms 35 131071) rfl rfl HT_ (by kernel_rfl) (fun _ _ _ h => h) (by rfl) ?_ ?_ ?_ ?_
   rotate_left
   ·intro w'
    go_simp
    with_reducible rfl
   rotate_left
   ·simp only [SX]
    rfl
   refine pu 17 90 ?_ (ms 35 262143) rfl rfl HT_ (by kernel_rfl) (fun _ _ _ h => h) (by rfl) ?_ ?_ ?_ ?_
   rotate_left
   ·intro w'
    go_simp
    with_reducible rfl
   rotate_left
   ·simp only [SX]
    rfl
   refine pu 19 92 ?_ (ms 35 786431) rfl rfl HT_ (by kernel_rfl) (fun _ _ _ h => h) (by rfl) ?_ ?_ ?_ ?_
   rotate_left
   ·intro w'
    go_simp
    with_reducible rfl
   rotate_left
   ·simp only [SX]
    rfl
   refine pu 20 93 ?_ (ms 35 1835007) rfl rfl HT_ (by kernel_rfl) (fun _ _ _ h => h) (by rfl) ?_ ?_ ?_ ?_
   rotate_left
   ·intro w'
    go_simp
    with_reducible rfl
   rotate_left
   ·simp only [SX]
    rfl
   refine pu 22 95 ?_ (ms 35 6029311) rfl rfl HT_ (by kernel_rfl) (fun _ _ _ h => h) (by rfl) ?_ ?_ ?_ ?_
   rotate_left
   ·intro w'
    go_simp
    with_reducible rfl
   rotate_left
   ·simp only [SX]
    rfl
   refine pu 23 96 ?_ (ms 35 14417919) rfl rfl HT_ (by kernel_rfl) (fun _ _ _ h => h) (by rfl) ?_ ?_ ?_ ?_
   rotate_left
   ·intro w'
    go_simp
    with_reducible rfl
   rotate_left
   ·simp only [SX]
    rfl
   refine pu 25 98 ?_ (ms 35 47972351) rfl rfl HT_ (by kernel_rfl) (fun _ _ _ h => h) (by rfl) ?_ ?_ ?_ ?_
   rotate_left
   ·intro w'
    go_simp
    with_reducible rfl
   rotate_left
   ·simp only [SX]
    rfl
   refine pu 26 99 ?_ (ms 35 115081215) rfl rfl HT_ (by kernel_rfl) (fun _ _ _ h => h) (by rfl) ?_ ?_ ?_ ?_
   rotate_left
   ·intro w'
    go_simp
    with_reducible rfl
   rotate_left
   ·simp only [SX]
    rfl
   refine pu 30 103 ?_ (ms 35 1188823039) rfl rfl HT_ (by kernel_rfl) (fun _ _ _ h => h) (by rfl) ?_ ?_ ?_ ?_
   rotate_left
   ·intro w'
    go_simp
    with_reducible rfl
   rotate_left
   ·simp only [SX]
    rfl
   refine tk 18 91 ?_ (ms 35 1189085183) rfl rfl HT_ HW_ (by kernel_rfl) (fun _ _ _ h => h) (by rfl) ?_ hHeld ?_ ?_ ?_
   rotate_left
   ·rintro w' ⟨s0, s1, s2, s3, s4⟩
    go_simp
    with_reducible rfl
   rotate_left
   ·simp only [SX]
    rfl
   refine tk 21 94 ?_ (ms 35 1191182335) rfl rfl HT_ HW_ (by kernel_rfl) (fun _ _ _ h => h) (by rfl) ?_ hHeld ?_ ?_ ?_
   rotate_left
   ·rintro w' ⟨s0, s1, s2, s3, s4⟩
    go_simp
    with_reducible rfl
   rotate_left
   ·simp only [SX]
    rfl
   refine tk 24 97 ?_ (ms 35 1207959551) rfl rfl HT_ HW_ (by kernel_rfl) (fun _ _ _ h => h) (by rfl) ?_ hHeld ?_ ?_ ?_
   rotate_left
   ·rintro w' ⟨s0, s1, s2, s3, s4⟩
    go_simp
    with_reducible rfl
   rotate_left
   ·simp only [SX]
    rfl
   refine tk 27 100 ?_ (ms 35 1342177279) rfl rfl HT_ HW_ (by kernel_rfl) (fun _ _ _ h => h) (by rfl) ?_ hHeld ?_ ?_ ?_
   rotate_left
   ·rintro w' ⟨s0, s1, s2, s3, s4⟩
    go_simp
    with_reducible rfl
   rotate_left
   ·simp only [SX]
    rfl
   refine one_ (i := 28) (N := some 101) (ms 35 1610612735) rfl rfl (one_of HT_.out (by kernel_rfl)) (by decide) (fun K hK => ?_)
   refine Kd.R_lit_step (Kd.int .i64) _ 3 ?hg (N := 101) ?hd (xs := ([rd t983 0, rd t983 2, rd t983 1] : List Int)) (inner := [.int .i64 (rd t983 0), .int .i64 (rd t983 2), .int .i64 (rd t983 1)]) (ok := fun _ => True) (okp := fun _ => True) ?hr ?hp (fun _ hk => hk) trivial (Below.refl _ _) (Nat.le_refl _) (by simp) ?_; (case hd => rfl); (case hg => rfl); (case hr => (go_simp; done)); (case hp => exact (Reps.one (show Kd.M (Kd.int .i64) _ _ _ (rd t983 0) [.int .i64 (rd t983 0)] from rfl) (Reps.one (show Kd.M (Kd.int .i64) _ _ _ (rd t983 2) [.int .i64 (rd t983 2)] from rfl) (Reps.one (show Kd.M (Kd.int .i64) _ _ _ (rd t983 1) [.int .i64 (rd t983 1)] from rfl) (Reps.none _ _)))))
   intro v1003 w58 ho59 hb hg_ hnew_
   have HS2_ := (hb.cell (World.block_lt_of_cell? _ _ (hHeld.2.2.1))).trans (hHeld.2.2.1)
   have HS3_ := (hb.cell (World.block_lt_of_cell? _ _ (hHeld.2.2.2.1))).trans (hHeld.2.2.2.1)
   have HS4_ := (hb.cell (World.block_lt_of_cell? _ _ (hHeld.2.2.2.2))).trans (hHeld.2.2.2.2)
   clear hg_ hnew_
   (rw [← Ny1002.out] at ho59)
   replace HO_6 := ak (Kd.S_elder' (by exact HO_6.out) (Kd.R_base ho59) hb)
   replace HO_987001 := ak (Kd.R_below (rk HO_987001) hb)
   have HO1004 := ak (Kd.R_lower (Kd.R_new' (Kd.R_new' ho59 (Kd.R_lt (rk HO_4))) (Kd.R_lt (rk HO997))) (below_size (bl1 HB GE986)))
   replace HO_4 := ak (Kd.R_elder' (rk HO_4) (Kd.R_base ho59) hb)
   replace HO997 := ak (Kd.R_elder' (rk HO997) (Kd.R_base ho59) hb)
   replace BK986 := ak (blk_below (bk BK986) hb)
   replace HB := ak (below_step (bl1 HB GE986) hb)
   clear hb ho59
   obtain ⟨Ao60, co60, eo60⟩ := Kd.R_slice HO1004.out
   (subst eo60)
   refine hK.out _ _ ⟨(blk_cell BK986.out 0).trans rfl, (blk_cell BK986.out 1).trans rfl, HS2_, HS3_, HS4_⟩ (fun hHeld => ?_)
   clear hK K
   refine norm_ (a' := ?_) ?_ ?_
   rotate_left
   ·show Act.put _ (some 101) _ = _
    simp only [SX]
    rfl
   refine one_ (i := 29) (N := some 102) (ms 35 2147483647) rfl rfl (one_of HT_.out (by kernel_rfl)) (by decide) (fun K hK => ?_)
   refine goes_ Try.func16 (by kernel_rfl) rfl #[.agg #[.int .i64 t979, .slice Ao9 t980.length co9], .slice Ao60 y1002.length co60] (by rfl) rfl rfl (by (try simp only [List.map_toArray, List.map_cons, List.map_nil]); rfl) ?_
   with_reducible refine (impl_TourCost.calls k2 t979 _ _ t980 _ _ y1002 t1005 _ ?side1 ?side2 ?side3 ?side4 A54.out).mono ?_
   (case side1 => repeat (exact (Kd.R_reads' HO_987001.out).2.2))
   (case side2 => exact (Kd.R_reads' HO_987001.out).2.1)
   (case side3 => repeat (exact (Kd.R_reads' HO1004.out).2.2))
   (case side4 => exact (Kd.R_reads' HO1004.out).2.1)
   rintro e w61 ⟨rfl, hb⟩
   have HS2_ := (hb.cell (World.block_lt_of_cell? _ _ (hHeld.2.2.1))).trans (hHeld.2.2.1)
   have HS3_ := (hb.cell (World.block_lt_of_cell? _ _ (hHeld.2.2.2.1))).trans (hHeld.2.2.2.1)
   have HS4_ := (hb.cell (World.block_lt_of_cell? _ _ (hHeld.2.2.2.2))).trans (hHeld.2.2.2.2)
   refine ⟨_, rfl, ?_⟩
   replace HO_4 := ak (Kd.R_below (rk HO_4) hb)
   replace HO_6 := ak (Kd.S_below (by exact HO_6.out) hb)
   replace HO_987001 := ak (Kd.R_below (rk HO_987001) hb)
   replace HO997 := ak (Kd.R_below (rk HO997) hb)
   replace HO1004 := ak (Kd.R_below (rk HO1004) hb)
   replace BK986 := ak (blk_below (bk BK986) hb)
   replace HB := ak (below_step (bl1 HB GE986) hb)
   (try clear hb)
   (try clear hb2)
   (try clear hk)
   (try clear hi)
   refine hK.out _ _ ⟨(blk_cell BK986.out 0).trans rfl, (blk_cell BK986.out 1).trans rfl, HS2_, HS3_, HS4_⟩ (fun hHeld => ?_)
   clear hK K
   refine norm_ (a' := ?_) ?_ ?_
   rotate_left
   ·show Act.put _ (some 102) _ = _
    simp only [SX]
    rfl
   refine pu 31 104 ?_ (ms 35 4294967295) rfl rfl HT_ (by kernel_rfl) (fun _ _ _ h => h) (by rfl) ?_ ?_ ?_ ?_
   rotate_left
   ·intro w'
    go_simp
    with_reducible rfl
   rotate_left
   ·simp only [SX]
    rfl
   refine pu 32 105 ?_ (ms 35 8589934591) rfl rfl HT_ (by kernel_rfl) (fun _ _ _ h => h) (by rfl) ?_ ?_ ?_ ?_
   rotate_left
   ·intro w'
    go_simp
    with_reducible rfl
   rotate_left
   ·simp only [SX]
    rfl
   refine pu 33 106 ?_ (ms 35 17179869183) rfl rfl HT_ (by kernel_rfl) (fun _ _ _ h => h) (by rfl) ?_ ?_ ?_ ?_
   rotate_left
   ·intro w'
    go_simp
    with_reducible rfl
   rotate_left
   ·simp only [SX]
    rfl
   refine pu 34 2 ?_ (ms 35 34359738367) rfl rfl HT_ (by kernel_rfl) (fun _ _ _ h => h) (by rfl) ?_ ?_ ?_ ?_
   rotate_left
   ·intro w'
    go_simp
    with_reducible rfl
   rotate_left
   ·simp only [SX]
    rfl
   refine done_ (done_of HT_.out (by kernel_rfl)) ?_
   try go_wp2
   go_ret
   exact ⟨by rfl, bl1 HB GE986⟩

/-- THE ONE PURE STATEMENT of laws_FnTourTable: yours. -/
def laws_FnTourTable.Pure : Prop := ∀ (l0 : List Int), l0.length ≤ maxLen → l0.length * 1 ≤ 140737488351232 → (∀ x ∈ l0, (Lit.int .u8 x).wf = true) → ∃ k, laws_FnTourTable.f k l0 = some true
theorem laws_FnTourTable.walk (P : laws_FnTourTable.Pure) (a0 : Option Addr) (len0 cap0 : Nat) (z0 : List Int) (w : World) (w0 : (a0 = none ∧ len0 = 0 ∧ cap0 = 0 ∧ z0 = []) ∨ ∃ x, a0 = some x ∧ len0 ≤ cap0 ∧ cap0 ≤ maxLen ∧ z0.length = cap0 ∧ (∀ i, i < z0.length → w.cell? (x.add i) = some (.int .u8 (z0.getD i 0))) ∧ ∀ n ∈ z0, (Lit.int .u8 n).wf = true) (y0 : len0 * 1 ≤ 140737488351232) :
  Calls Try.prog 8 #[.slice a0 len0 cap0] w fun e w' => e = .returned (.bool true) ∧ Below w.heap.size w w' := by
 obtain ⟨l0, rfl, hr0, hm0, hw0, hc0⟩ := ReadsInt.ofRowC w0
 obtain ⟨k, h⟩ := P l0 hm0 y0 hw0
 refine (laws_FnTourTable.calls k _ _ l0 true w (Kd.C_of_reads (d := (0 : Int)) (h1 := fun _ => rfl) hr0) hc0 h rfl).mono ?_
 rintro e w' ⟨rfl, hd⟩
 exact ⟨rfl, hd⟩

end Go.Proofs.Ytgickejeakmenaa.F
