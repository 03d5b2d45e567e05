-- Printed by wip/px/px.py of this claim's repository (the kit's printer, extended there). Lean checks it.
import Derived.Test.YtddkaiegnohkcaaFKinds
import Derived.Test.YtddkaiegnohkcaaFimplNetOk
import Derived.Test.YtddkaiegnohkcaaFimplPairAll
import Derived.Test.YtddkaiegnohkcaaFimplNearAll
import Derived.Test.YtddkaiegnohkcaaFspecPairAll
import Derived.Test.YtddkaiegnohkcaaFspecDrawPairAll
import Derived.Test.YtddkaiegnohkcaaFlawswkPairs
import Derived.Test.YtddkaiegnohkcaaFimplCostNet
import Derived.Test.YtddkaiegnohkcaaFimplCostOf
namespace Go.Proofs.Ytddkaiegnohkcaa.F
open Go.RowKit Go.Proofs.YtddkaiegnohkcaaW.PrintWords Go.Proofs.YtddkaiegnohkcaaW.PrintLast Go.Proofs.YtddkaiegnohkcaaW.PrintMore
attribute [local go_sem] max2_int min2_int max_two min_two max_three min_three max_four min_four   -- for this text's walks alone
set_option linter.unusedVariables false
set_option linter.unusedSimpArgs false

/-! ### laws_FnPairAll: function 9 -/
mutual
def laws_FnPairAll.j0 : Nat → Int → Int → List (S35) → Bool → Int → List (S33) → Option (Bool)
 | 0, _, _, _, _, _, _ => none
 | k + 1, x4, x5, x6, x56, x627000, x627001 => if x56 = true then ((spec_PairAll.f k x627000 x627001 x4 x5).bind fun t635 => ((laws_wkPairs.f k x6 t635).bind fun t638 => (some t638))) else (laws_FnPairAll.l0 k x4 x5 x6 1 x627000 x627001)
def laws_FnPairAll.l0 : Nat → Int → Int → List (S35) → Int → Int → List (S33) → Option (Bool)
 | 0, _, _, _, _, _, _ => none
 | k + 1, x4, x5, x6, x7, x627000, x627001 => if x7 < (x6.length : Int) then (if 0 ≤ x7 then (if 0 ≤ (wrap64 (x7 - 1)) then (if (wrap64 (x7 - 1)) < (x6.length : Int) then (if ((rd_T35 x6 x7).f0) ≤ ((rd_T35 x6 (wrap64 (x7 - 1))).f0) then (some false) else (if ((rd_T35 x6 x7).f1) ≥ ((rd_T35 x6 (wrap64 (x7 - 1))).f1) then (some false) else (laws_FnPairAll.l0 k x4 x5 x6 (wrap64 (x7 + 1)) x627000 x627001))) else (none)) else (none)) else (none)) else ((impl_NearAll.f k x627000 x627001 x4).bind fun t643 => (if 0 ≤ x5 then (if x5 < (t643.length : Int) then ((impl_CostOf.f k x627000 x627001 0 100).bind fun t647 => ((impl_CostNet.f k x627000 x627001 t647).bind fun bt650 => ((impl_NearAll.f k bt650.1 bt650.2.1 x4).bind fun t656 => (if x5 < (t656.length : Int) then (if (x6.length : Int) = 0 then (if (rd t643 x5) = 99999 then (some ((rd t656 x5) == 99999)) else (some false)) else (if 0 < (x6.length : Int) then (if ((rd_T35 x6 0).f0) = (rd t643 x5) then (if 0 ≤ (wrap64 ((x6.length : Int) - 1)) then (if (wrap64 ((x6.length : Int) - 1)) < (x6.length : Int) then (some (((rd_T35 x6 (wrap64 ((x6.length : Int) - 1))).f1) == (rd t656 x5))) else (none)) else (none)) else (some false)) else (none))) else (none))))) else (none)) else (none)))
end
def laws_FnPairAll.f (k : Nat) (l0 : List Int) : Option (Bool) := if (l0.length : Int) > 1048576 then (some true) else ((spec_DrawPairAll.f k l0).bind fun bt620 => ((impl_PairAll.f k bt620.1 bt620.2.1 bt620.2.2.1 bt620.2.2.2).bind fun t627 => ((spec_PairAll.f k bt620.1 bt620.2.1 bt620.2.2.1 bt620.2.2.2).bind fun t630 => ((laws_wkPairs.f k t627 t630).bind fun t633 => (if t633 = true then ((impl_NetOk.f bt620.1 bt620.2.1).bind fun t634 => (if t634 = true then (if bt620.2.2.1 < 0 then (laws_FnPairAll.j0 k bt620.2.2.1 bt620.2.2.2 t627 true bt620.1 bt620.2.1) else (if bt620.2.2.1 ≥ bt620.1 then (laws_FnPairAll.j0 k bt620.2.2.1 bt620.2.2.2 t627 true bt620.1 bt620.2.1) else (if bt620.2.2.2 < 0 then (laws_FnPairAll.j0 k bt620.2.2.1 bt620.2.2.2 t627 true bt620.1 bt620.2.1) else (laws_FnPairAll.j0 k bt620.2.2.1 bt620.2.2.2 t627 (decide (bt620.2.2.2 ≥ bt620.1)) bt620.1 bt620.2.1)))) else (laws_FnPairAll.j0 k bt620.2.2.1 bt620.2.2.2 t627 true bt620.1 bt620.2.1))) else (laws_FnPairAll.j0 k bt620.2.2.1 bt620.2.2.2 t627 true bt620.1 bt620.2.1))))))
theorem laws_FnPairAll.mono_l : ∀ k, (∀ y0 y1 y2 y3 y4 y5, LeO (laws_FnPairAll.j0 k y0 y1 y2 y3 y4 y5) (laws_FnPairAll.j0 (k + 1) y0 y1 y2 y3 y4 y5)) ∧ (∀ y0 y1 y2 y3 y4 y5, LeO (laws_FnPairAll.l0 k y0 y1 y2 y3 y4 y5) (laws_FnPairAll.l0 (k + 1) y0 y1 y2 y3 y4 y5))
 | 0 => ⟨fun _ _ _ _ _ _ r h => by simp [laws_FnPairAll.j0] at h, fun _ _ _ _ _ _ r h => by simp [laws_FnPairAll.l0] at h⟩
 | k + 1 => by
  obtain ⟨ih0, ih1⟩ := laws_FnPairAll.mono_l k
  refine ⟨?_, ?_⟩
  ·intro y0 y1 y2 y3 y4 y5
   unfold laws_FnPairAll.j0
   repeat' first | (with_reducible exact ih1 _ _ _ _ _ _) | (with_reducible exact laws_wkPairs.mono _ _ _) | (with_reducible exact spec_PairAll.mono _ _ _ _ _) | (with_reducible exact LeO.refl _) | (with_reducible refine LeO.ite ?_ ?_) | (with_reducible refine LeO.bind ?_ (fun _ => ?_))
  ·intro y0 y1 y2 y3 y4 y5
   unfold laws_FnPairAll.l0
   repeat' first | (with_reducible exact ih1 _ _ _ _ _ _) | (with_reducible exact impl_CostNet.mono _ _ _ _) | (with_reducible exact impl_CostOf.mono _ _ _ _ _) | (with_reducible exact impl_NearAll.mono _ _ _ _) | (with_reducible exact LeO.refl _) | (with_reducible refine LeO.ite ?_ ?_) | (with_reducible refine LeO.bind ?_ (fun _ => ?_))
theorem laws_FnPairAll.mono : ∀ a0 k, LeO (laws_FnPairAll.f k a0) (laws_FnPairAll.f (k + 1) a0) := by
 intro a0 k
 obtain ⟨ih0, ih1⟩ := laws_FnPairAll.mono_l k
 unfold laws_FnPairAll.f
 repeat' first | (with_reducible exact ih0 _ _ _ _ _ _) | (with_reducible exact impl_PairAll.mono _ _ _ _ _) | (with_reducible exact laws_wkPairs.mono _ _ _) | (with_reducible exact spec_DrawPairAll.mono _ _) | (with_reducible exact spec_PairAll.mono _ _ _ _ _) | (with_reducible exact LeO.refl _) | (with_reducible refine LeO.ite ?_ ?_) | (with_reducible refine LeO.bind ?_ (fun _ => ?_))
def laws_FnPairAll.T10 : Bool × List (List Nat × List Nat) := (true, [([], []), ([], []), ([0, 1], [0, 1]), ([2], [2]), ([3], [3]), ([], []), ([], []), ([6], [6]), ([5, 7], [5, 7]), ([8], [8]), ([9], [9]), ([4, 10], [4, 10]), ([11], [11]), ([12], [12]), ([12], [12]), ([13, 14, 12], [12, 13, 14]), ([15, 12], [12, 15]), ([16, 12], [12, 16]), ([12], [12]), ([12], [12]), ([19, 12], [12, 19]), ([18, 20, 12], [12, 18, 20]), ([21, 12], [12, 21]), ([22, 12], [12, 22]), ([17, 23, 12], [12, 17, 23]), ([12, 24], [12, 24])])
def laws_FnPairAll.B10 : List Nat := [0, 0, 3, 7, 15, 0, 0, 64, 224, 480, 992, 2047, 4095, 8191, 8191, 32767, 65535, 131071, 8191, 8191, 532479, 1843199, 3940351, 8134655, 16777215, 33554431]
theorem laws_FnPairAll.tab10 : rtab .any (opsOf Try.f9 10) = laws_FnPairAll.T10 := by kernel_rfl
theorem laws_FnPairAll.bits10 : waitsOk laws_FnPairAll.T10.2 laws_FnPairAll.B10 = true := by kernel_rfl
def laws_FnPairAll.T13 : Bool × List (List Nat × List Nat) := (true, [([], []), ([], []), ([1], [1]), ([0, 2, 2], [0, 2]), ([3], [3]), ([4], [4]), ([4], [4]), ([], []), ([7, 5, 3, 0, 1, 2, 3, 4, 5, 7], [5, 7]), ([6, 8, 0, 1, 2, 3, 4, 5, 6, 7, 8], [6])])
def laws_FnPairAll.B13 : List Nat := [0, 0, 2, 7, 15, 31, 31, 0, 191, 511]
theorem laws_FnPairAll.tab13 : rtab .any (opsOf Try.f9 13) = laws_FnPairAll.T13 := by kernel_rfl
theorem laws_FnPairAll.bits13 : waitsOk laws_FnPairAll.T13.2 laws_FnPairAll.B13 = true := by kernel_rfl
set_option maxHeartbeats 8000000 in
set_option maxRecDepth 100000 in
theorem laws_FnPairAll.calls (k : Nat) (A0 : Option Addr) (c0 : Nat) (l0 : List Int) (r : Bool) (w : World) (hr0 : Kd.C (Kd.int .u8) w A0 l0.length l0) (hc0 : l0.length ≤ c0) (h : laws_FnPairAll.f k l0 = some r) (hr_ : r = true) :
  Calls Try.prog 9 #[.slice A0 l0.length c0] w fun e w' => e = .returned (.bool r) ∧ Below w.heap.size w w' := by
 have hu25 := Try.underlying25
 have HR0 := ak hr0
 have HC0 := ak hc0
 clear hr0 hc0
 have HB := ak (Below.refl w.heap.size w)
 have H : (if (l0.length : Int) > 1048576 then (some true) else ((spec_DrawPairAll.f k l0).bind fun bt620 => ((impl_PairAll.f k bt620.1 bt620.2.1 bt620.2.2.1 bt620.2.2.2).bind fun t627 => ((spec_PairAll.f k bt620.1 bt620.2.1 bt620.2.2.1 bt620.2.2.2).bind fun t630 => ((laws_wkPairs.f k t627 t630).bind fun t633 => (if t633 = true then ((impl_NetOk.f bt620.1 bt620.2.1).bind fun t634 => (if t634 = true then (if bt620.2.2.1 < 0 then (laws_FnPairAll.j0 k bt620.2.2.1 bt620.2.2.2 t627 true bt620.1 bt620.2.1) else (if bt620.2.2.1 ≥ bt620.1 then (laws_FnPairAll.j0 k bt620.2.2.1 bt620.2.2.2 t627 true bt620.1 bt620.2.1) else (if bt620.2.2.2 < 0 then (laws_FnPairAll.j0 k bt620.2.2.1 bt620.2.2.2 t627 true bt620.1 bt620.2.1) else (laws_FnPairAll.j0 k bt620.2.2.1 bt620.2.2.2 t627 (decide (bt620.2.2.2 ≥ bt620.1)) bt620.1 bt620.2.1)))) else (laws_FnPairAll.j0 k bt620.2.2.1 bt620.2.2.2 t627 true bt620.1 bt620.2.1))) else (laws_FnPairAll.j0 k bt620.2.2.1 bt620.2.2.2 t627 true bt620.1 bt620.2.1))))))) = some r := h
 clear h
 by_cases c2 : (l0.length : Int) > 1048576
 ·rw [if_pos c2] at H
  have c2b0 : decide (1048576 < (l0.length : Int)) = true := decide_eq_true c2
  have c2b1 : decide (1048576 < l0.length) = true := decide_eq_true (by omega)
  clear c2
  obtain rfl := Option.some.inj H
  go_enter Try.func9, Try.ntmps9
  go_wp2
  go_ret
  exact ⟨by rfl, bl HB⟩
 rw [if_neg c2] at H
 have c2b0 : decide (1048576 < (l0.length : Int)) = false := decide_eq_false c2
 have c2b1 : decide (1048576 < l0.length) = false := decide_eq_false (by omega)
 clear c2
 replace H := Option.bind_eq_some_iff.mp H
 obtain ⟨⟨t620, t621, t624, t625⟩, A30, H⟩ := H
 have A3 := ak A30
 clear A30
 replace H := Option.bind_eq_some_iff.mp H
 obtain ⟨t627, A40, H⟩ := H
 have A4 := ak A40
 clear A40
 have HC5 := ak H
 clear H
 go_enter Try.func9, Try.ntmps9
 go_upto_region 5 with (first | ((with_reducible refine gate_callee (f := 27) rfl ?_); refine goesL_ (some 17) rfl rfl Try.func27 (by kernel_rfl) rfl #[.slice A0 l0.length c0] rfl (by (try simp only [List.map_toArray, List.map_cons, List.map_nil]); rfl) ?_; (with_reducible refine (spec_DrawPairAll.calls k _ _ l0 t620 t621 t624 t625 _ ?side1 ?side2 A3.out).mono ?_); (case side1 => repeat (exact HR0.out)); (case side2 => exact HC0.out); rintro e w6 ⟨v622, rfl, ho0, hb⟩; refine ⟨_, rfl, ?_⟩; have HO623 := ak (Kd.R_lower ho0 (below_size (bl HB))); replace HB := ak (below_step (bl HB) hb); (try clear hb); (try clear hb2); (try clear hk); (try clear hi); (try clear ho0)) | ((with_reducible refine gate_dst (N := 3) rfl ?_); refine box_event ?hg (N := 3) ?hd (cs := #[.int .i64 0, .slice none 0 0]) (t := 25) ?hr ?_; (case hd => rfl); (case hg => rfl); (case hr => (go_simp; done)); intro gb626 hg w7 hbox hb; replace HO623 := ak (Kd.R_below (rk HO623) hb); have BK626 := ak (hbox); have GW626 := ak ((by rw [hg]; exact (below_size (bl HB)) : w.heap.size ≤ gb626)); have GE626 := ak ((by rw [hg]; exact (below_size (bl HB)) : w.heap.size ≤ gb626)); replace HB := ak (below_step (bl HB) hb); clear hb hbox hg; have hcz8_0 := bc w7 BK626 0 (.int .i64 0) rfl; have hcz8_1 := bc w7 BK626 1 (.slice none 0 0) rfl; have hfz8_0 := fz BK626 0; have hfz8_1 := fz BK626 1; obtain ⟨Ao9, co9, eo9⟩ := Kd.R_slice HO623.out; subst eo9) | ((with_reducible refine gate_callee (f := 14) rfl ?_); refine goesL_ (some 24) rfl rfl Try.func14 (by kernel_rfl) rfl #[.agg #[.int .i64 t620, .slice Ao9 t621.length co9], .int .i64 t624, .int .i64 t625] rfl (by (try simp only [List.map_toArray, List.map_cons, List.map_nil]); rfl) ?_; (with_reducible refine (impl_PairAll.calls k t620 _ _ t621 t624 t625 t627 _ ?side1 ?side2 A4.out).mono ?_); (case side1 => refine (Kd.R_reads' (e := 33) (base := w.heap.size) (ok := fun k_ => True) (n := t621.length) (c := co9) ?_).2.2; exact (by exact (Kd.R_mono (Kd.R_far (p := ⟨gb626, 1, none⟩) (Kd.R_far (p := ⟨gb626, 0, none⟩) (Kd.R_types HO623.out BK626.out (by decide)) (fun _ hk => hk.2) (.int .i64 t620)) (fun _ hk => hk.2) (.slice Ao9 t621.length co9)) (fun _ h_ => h_.1)))); (case side2 => exact (Kd.R_reads' HO623.out).2.1); rintro e w10 ⟨v628, rfl, ho0, hb⟩; refine ⟨_, rfl, ?_⟩; replace HO623 := ak (Kd.R_below (by exact (Kd.R_mono (Kd.R_far (p := ⟨gb626, 1, none⟩) (Kd.R_far (p := ⟨gb626, 0, none⟩) (Kd.R_types HO623.out BK626.out (by decide)) (fun _ hk => hk.2) (.int .i64 t620)) (fun _ hk => hk.2) (.slice Ao9 t621.length co9)) (fun _ h_ => h_.1))) hb); have HO629 := ak (Kd.R_lower ho0 (below_size (bl1 HB GE626))); replace BK626 := ak (blk_below (g := gb626) (o := .cells #[.int .i64 t620, .slice Ao9 t621.length co9] 25 (0, 0)) (by refine blk_put (cs := #[.int .i64 t620, .slice none 0 0]) ?_ 1 _ rfl; refine blk_put (cs := #[.int .i64 0, .slice none 0 0]) ?_ 0 _ rfl; exact BK626.out) hb); replace HB := ak (below_step (bl1 HB GE626) hb); (try clear hb); (try clear hb2); (try clear hk); (try clear hi); (try clear ho0)))
 (try simp only [Act.put, List.setIfInBounds_toArray, List.set_cons_zero, List.set_cons_succ])
 go_cut [56] (fun v56 wc => ∃ (kq : Nat) (x56_4 : Bool), v56 = .bool x56_4 ∧ Aside0 (laws_FnPairAll.j0 kq t624 t625 t627 x56_4 t620 t621 = some r) ∧ Aside0 (kq ≤ k) ∧ Aside0 (Kd.R k35 35 wc w.heap.size (fun _ => True) v628 t627) ∧ Aside0 (Kd.R k33 33 wc w.heap.size (fun _ => True) (.slice Ao9 t621.length co9) t621) ∧ Aside0 (wc.heap[gb626]? = some (.cells #[.int .i64 t620, (.slice Ao9 t621.length co9)] 25 (0, 0))) ∧ Aside0 (Below w.heap.size w wc))
 case first =>
  have H := HC5.out
  clear HC5
  replace H := Option.bind_eq_some_iff.mp H
  obtain ⟨t630, A110, H⟩ := H
  have A11 := ak A110
  clear A110
  replace H := Option.bind_eq_some_iff.mp H
  obtain ⟨t633, A120, H⟩ := H
  have A12 := ak A120
  clear A120
  by_cases c13 : t633 = true
  rotate_left
  ·replace c13 := Bool.eq_false_iff.mpr c13
   subst c13
   rw [if_neg (show ¬ (false = true) by decide)] at H
   have H' := ak H
   clear H
   have hcz52_0 := bc w10 BK626 0 (.int .i64 t620) rfl
   have hcz52_1 := bc w10 BK626 1 (.slice Ao9 t621.length co9) rfl
   have hfz52_0 := fz BK626 0
   have hfz52_1 := fz BK626 1
   go_wp2_with (first | ((with_reducible refine gate_callee (f := 22) rfl ?_); refine goesL_ (some 29) rfl rfl Try.func22 (by kernel_rfl) rfl #[.agg #[.int .i64 t620, .slice Ao9 t621.length co9], .int .i64 t624, .int .i64 t625] rfl (by (try simp only [List.map_toArray, List.map_cons, List.map_nil]); rfl) ?_; (with_reducible refine (spec_PairAll.calls k t620 _ _ t621 t624 t625 t630 _ ?side1 ?side2 A11.out).mono ?_); (case side1 => repeat (exact (Kd.R_reads' HO623.out).2.2)); (case side2 => exact (Kd.R_reads' HO623.out).2.1); rintro e w53 ⟨v631, rfl, ho0, hb⟩; refine ⟨_, rfl, ?_⟩; replace HO623 := ak (Kd.R_below (rk HO623) hb); have HO632 := ak (Kd.R_lower (Kd.R_new' ho0 (Kd.R_lt (rk HO629))) (below_size (bl1 HB GE626))); replace HO629 := ak (Kd.R_elder' (rk HO629) (Kd.R_base ho0) hb); replace BK626 := ak (blk_below (bk BK626) hb); replace HB := ak (below_step (bl1 HB GE626) hb); (try clear hb); (try clear hb2); (try clear hk); (try clear hi); (try clear ho0); obtain ⟨Ao54, co54, eo54⟩ := Kd.R_slice HO629.out; subst eo54; obtain ⟨Ao55, co55, eo55⟩ := Kd.R_slice HO632.out; subst eo55) | ((with_reducible refine gate_callee (f := 28) rfl ?_); refine goesL_ (some 30) rfl rfl Try.func28 (by kernel_rfl) rfl #[.slice Ao54 t627.length co54, .slice Ao55 t630.length co55] rfl (by (try simp only [List.map_toArray, List.map_cons, List.map_nil]); rfl) ?_; (with_reducible refine (laws_wkPairs.calls k _ _ t627 _ _ t630 false _ ?side1 ?side2 ?side3 ?side4 A12.out).mono ?_); (case side1 => repeat (exact (Kd.R_reads' HO629.out).2.2)); (case side2 => exact (Kd.R_reads' HO629.out).2.1); (case side3 => repeat (exact (Kd.R_reads' HO632.out).2.2)); (case side4 => exact (Kd.R_reads' HO632.out).2.1); rintro e w' ⟨rfl, ⟨nd, rfl⟩⟩; refine ⟨_, rfl, ?_⟩))
   go_meet
   case rel => exact ⟨_, (true), (by rfl), H', ⟨by omega⟩, ⟨by (with_reducible repeat (apply Kd.R_drewN)); exact Kd.R_mono HO629.out (fun _ hk => trivial)⟩, ⟨rk HO623⟩, ⟨bk BK626⟩, ⟨bl1 HB GE626⟩⟩
  subst c13
  rw [if_pos rfl] at H
  replace H := Option.bind_eq_some_iff.mp H
  obtain ⟨t634, A140, H⟩ := H
  have A14 := ak A140
  clear A140
  by_cases c15 : t634 = true
  rotate_left
  ·replace c15 := Bool.eq_false_iff.mpr c15
   subst c15
   rw [if_neg (show ¬ (false = true) by decide)] at H
   have H' := ak H
   clear H
   have hcz46_0 := bc w10 BK626 0 (.int .i64 t620) rfl
   have hcz46_1 := bc w10 BK626 1 (.slice Ao9 t621.length co9) rfl
   have hfz46_0 := fz BK626 0
   have hfz46_1 := fz BK626 1
   go_wp2_with (first | ((with_reducible refine gate_callee (f := 22) rfl ?_); refine goesL_ (some 29) rfl rfl Try.func22 (by kernel_rfl) rfl #[.agg #[.int .i64 t620, .slice Ao9 t621.length co9], .int .i64 t624, .int .i64 t625] rfl (by (try simp only [List.map_toArray, List.map_cons, List.map_nil]); rfl) ?_; (with_reducible refine (spec_PairAll.calls k t620 _ _ t621 t624 t625 t630 _ ?side1 ?side2 A11.out).mono ?_); (case side1 => repeat (exact (Kd.R_reads' HO623.out).2.2)); (case side2 => exact (Kd.R_reads' HO623.out).2.1); rintro e w47 ⟨v631, rfl, ho0, hb⟩; refine ⟨_, rfl, ?_⟩; replace HO623 := ak (Kd.R_below (rk HO623) hb); have HO632 := ak (Kd.R_lower (Kd.R_new' ho0 (Kd.R_lt (rk HO629))) (below_size (bl1 HB GE626))); replace HO629 := ak (Kd.R_elder' (rk HO629) (Kd.R_base ho0) hb); replace BK626 := ak (blk_below (bk BK626) hb); replace HB := ak (below_step (bl1 HB GE626) hb); (try clear hb); (try clear hb2); (try clear hk); (try clear hi); (try clear ho0); obtain ⟨Ao48, co48, eo48⟩ := Kd.R_slice HO629.out; subst eo48; obtain ⟨Ao49, co49, eo49⟩ := Kd.R_slice HO632.out; subst eo49) | ((with_reducible refine gate_callee (f := 28) rfl ?_); refine goesL_ (some 30) rfl rfl Try.func28 (by kernel_rfl) rfl #[.slice Ao48 t627.length co48, .slice Ao49 t630.length co49] rfl (by (try simp only [List.map_toArray, List.map_cons, List.map_nil]); rfl) ?_; (with_reducible refine (laws_wkPairs.calls k _ _ t627 _ _ t630 true _ ?side1 ?side2 ?side3 ?side4 A12.out).mono ?_); (case side1 => repeat (exact (Kd.R_reads' HO629.out).2.2)); (case side2 => exact (Kd.R_reads' HO629.out).2.1); (case side3 => repeat (exact (Kd.R_reads' HO632.out).2.2)); (case side4 => exact (Kd.R_reads' HO632.out).2.1); rintro e w' ⟨rfl, ⟨nd, rfl⟩⟩; refine ⟨_, rfl, ?_⟩; have hcz50_0 := bc w47 BK626 0 (.int .i64 t620) rfl; have hcz50_1 := bc w47 BK626 1 (.slice Ao9 t621.length co9) rfl; have hfz50_0 := fz BK626 0; have hfz50_1 := fz BK626 1) | (go_at_call 35; (with_reducible refine (impl_NetOk.calls t620 _ _ t621 false _ ?side1 ?side2 A14.out).mono ?_); (case side1 => repeat (exact (Kd.R_reads' HO623.out).2.2)); (case side2 => exact (Kd.R_reads' HO623.out).2.1); rintro e w51 ⟨rfl, hb⟩; have n0_ := ak (Kd.R_below (rk HO623) hb); have n1_ := ak (Kd.R_below (rk HO629) hb); have n2_ := ak (Kd.R_below (rk HO632) hb); have n3_ := ak (blk_below (bk BK626) hb); have n4_ := ak (below_step (bl1 HB GE626) hb); clear HO623; clear HO629; clear HO632; clear BK626; clear HB; have HO623 := n0_; have HO629 := n1_; have HO632 := n2_; have BK626 := n3_; have HB := n4_; clear n0_ n1_ n2_ n3_ n4_; (try clear hb); (try clear hb2); (try clear hk); (try clear hi)))
   go_meet
   case rel => exact ⟨_, (true), (by rfl), H', ⟨by omega⟩, ⟨by exact Kd.R_mono HO629.out (fun _ hk => trivial)⟩, ⟨rk HO623⟩, ⟨bk BK626⟩, ⟨bl1 HB GE626⟩⟩
  subst c15
  rw [if_pos rfl] at H
  by_cases c16 : t624 < 0
  ·rw [if_pos c16] at H
   have c16b0 : decide (t624 < 0) = true := decide_eq_true c16
   clear c16
   (skip)
   have H' := ak H
   clear H
   have hcz17_0 := bc w10 BK626 0 (.int .i64 t620) rfl
   have hcz17_1 := bc w10 BK626 1 (.slice Ao9 t621.length co9) rfl
   have hfz17_0 := fz BK626 0
   have hfz17_1 := fz BK626 1
   go_wp2_with (first | ((with_reducible refine gate_callee (f := 22) rfl ?_); refine goesL_ (some 29) rfl rfl Try.func22 (by kernel_rfl) rfl #[.agg #[.int .i64 t620, .slice Ao9 t621.length co9], .int .i64 t624, .int .i64 t625] rfl (by (try simp only [List.map_toArray, List.map_cons, List.map_nil]); rfl) ?_; (with_reducible refine (spec_PairAll.calls k t620 _ _ t621 t624 t625 t630 _ ?side1 ?side2 A11.out).mono ?_); (case side1 => repeat (exact (Kd.R_reads' HO623.out).2.2)); (case side2 => exact (Kd.R_reads' HO623.out).2.1); rintro e w18 ⟨v631, rfl, ho0, hb⟩; refine ⟨_, rfl, ?_⟩; replace HO623 := ak (Kd.R_below (rk HO623) hb); have HO632 := ak (Kd.R_lower (Kd.R_new' ho0 (Kd.R_lt (rk HO629))) (below_size (bl1 HB GE626))); replace HO629 := ak (Kd.R_elder' (rk HO629) (Kd.R_base ho0) hb); replace BK626 := ak (blk_below (bk BK626) hb); replace HB := ak (below_step (bl1 HB GE626) hb); (try clear hb); (try clear hb2); (try clear hk); (try clear hi); (try clear ho0); obtain ⟨Ao19, co19, eo19⟩ := Kd.R_slice HO629.out; subst eo19; obtain ⟨Ao20, co20, eo20⟩ := Kd.R_slice HO632.out; subst eo20) | ((with_reducible refine gate_callee (f := 28) rfl ?_); refine goesL_ (some 30) rfl rfl Try.func28 (by kernel_rfl) rfl #[.slice Ao19 t627.length co19, .slice Ao20 t630.length co20] rfl (by (try simp only [List.map_toArray, List.map_cons, List.map_nil]); rfl) ?_; (with_reducible refine (laws_wkPairs.calls k _ _ t627 _ _ t630 true _ ?side1 ?side2 ?side3 ?side4 A12.out).mono ?_); (case side1 => repeat (exact (Kd.R_reads' HO629.out).2.2)); (case side2 => exact (Kd.R_reads' HO629.out).2.1); (case side3 => repeat (exact (Kd.R_reads' HO632.out).2.2)); (case side4 => exact (Kd.R_reads' HO632.out).2.1); rintro e w' ⟨rfl, ⟨nd, rfl⟩⟩; refine ⟨_, rfl, ?_⟩; have hcz21_0 := bc w18 BK626 0 (.int .i64 t620) rfl; have hcz21_1 := bc w18 BK626 1 (.slice Ao9 t621.length co9) rfl; have hfz21_0 := fz BK626 0; have hfz21_1 := fz BK626 1) | (go_at_call 35; (with_reducible refine (impl_NetOk.calls t620 _ _ t621 true _ ?side1 ?side2 A14.out).mono ?_); (case side1 => repeat (exact (Kd.R_reads' HO623.out).2.2)); (case side2 => exact (Kd.R_reads' HO623.out).2.1); rintro e w22 ⟨rfl, hb⟩; have n0_ := ak (Kd.R_below (rk HO623) hb); have n1_ := ak (Kd.R_below (rk HO629) hb); have n2_ := ak (Kd.R_below (rk HO632) hb); have n3_ := ak (blk_below (bk BK626) hb); have n4_ := ak (below_step (bl1 HB GE626) hb); clear HO623; clear HO629; clear HO632; clear BK626; clear HB; have HO623 := n0_; have HO629 := n1_; have HO632 := n2_; have BK626 := n3_; have HB := n4_; clear n0_ n1_ n2_ n3_ n4_; (try clear hb); (try clear hb2); (try clear hk); (try clear hi)))
   go_meet
   case rel => exact ⟨_, (true), (by rfl), H', ⟨by omega⟩, ⟨by exact Kd.R_mono HO629.out (fun _ hk => trivial)⟩, ⟨rk HO623⟩, ⟨bk BK626⟩, ⟨bl1 HB GE626⟩⟩
  rw [if_neg c16] at H
  have c16b0 : decide (t624 < 0) = false := decide_eq_false c16
  clear c16
  (skip)
  by_cases c23 : t624 ≥ t620
  ·rw [if_pos c23] at H
   have c23b0 : decide (t620 ≤ t624) = true := decide_eq_true c23
   clear c23
   have H' := ak H
   clear H
   have hcz24_0 := bc w10 BK626 0 (.int .i64 t620) rfl
   have hcz24_1 := bc w10 BK626 1 (.slice Ao9 t621.length co9) rfl
   have hfz24_0 := fz BK626 0
   have hfz24_1 := fz BK626 1
   go_wp2_with (first | ((with_reducible refine gate_callee (f := 22) rfl ?_); refine goesL_ (some 29) rfl rfl Try.func22 (by kernel_rfl) rfl #[.agg #[.int .i64 t620, .slice Ao9 t621.length co9], .int .i64 t624, .int .i64 t625] rfl (by (try simp only [List.map_toArray, List.map_cons, List.map_nil]); rfl) ?_; (with_reducible refine (spec_PairAll.calls k t620 _ _ t621 t624 t625 t630 _ ?side1 ?side2 A11.out).mono ?_); (case side1 => repeat (exact (Kd.R_reads' HO623.out).2.2)); (case side2 => exact (Kd.R_reads' HO623.out).2.1); rintro e w25 ⟨v631, rfl, ho0, hb⟩; refine ⟨_, rfl, ?_⟩; replace HO623 := ak (Kd.R_below (rk HO623) hb); have HO632 := ak (Kd.R_lower (Kd.R_new' ho0 (Kd.R_lt (rk HO629))) (below_size (bl1 HB GE626))); replace HO629 := ak (Kd.R_elder' (rk HO629) (Kd.R_base ho0) hb); replace BK626 := ak (blk_below (bk BK626) hb); replace HB := ak (below_step (bl1 HB GE626) hb); (try clear hb); (try clear hb2); (try clear hk); (try clear hi); (try clear ho0); obtain ⟨Ao26, co26, eo26⟩ := Kd.R_slice HO629.out; subst eo26; obtain ⟨Ao27, co27, eo27⟩ := Kd.R_slice HO632.out; subst eo27) | ((with_reducible refine gate_callee (f := 28) rfl ?_); refine goesL_ (some 30) rfl rfl Try.func28 (by kernel_rfl) rfl #[.slice Ao26 t627.length co26, .slice Ao27 t630.length co27] rfl (by (try simp only [List.map_toArray, List.map_cons, List.map_nil]); rfl) ?_; (with_reducible refine (laws_wkPairs.calls k _ _ t627 _ _ t630 true _ ?side1 ?side2 ?side3 ?side4 A12.out).mono ?_); (case side1 => repeat (exact (Kd.R_reads' HO629.out).2.2)); (case side2 => exact (Kd.R_reads' HO629.out).2.1); (case side3 => repeat (exact (Kd.R_reads' HO632.out).2.2)); (case side4 => exact (Kd.R_reads' HO632.out).2.1); rintro e w' ⟨rfl, ⟨nd, rfl⟩⟩; refine ⟨_, rfl, ?_⟩; have hcz28_0 := bc w25 BK626 0 (.int .i64 t620) rfl; have hcz28_1 := bc w25 BK626 1 (.slice Ao9 t621.length co9) rfl; have hfz28_0 := fz BK626 0; have hfz28_1 := fz BK626 1) | (go_at_call 35; (with_reducible refine (impl_NetOk.calls t620 _ _ t621 true _ ?side1 ?side2 A14.out).mono ?_); (case side1 => repeat (exact (Kd.R_reads' HO623.out).2.2)); (case side2 => exact (Kd.R_reads' HO623.out).2.1); rintro e w29 ⟨rfl, hb⟩; have n0_ := ak (Kd.R_below (rk HO623) hb); have n1_ := ak (Kd.R_below (rk HO629) hb); have n2_ := ak (Kd.R_below (rk HO632) hb); have n3_ := ak (blk_below (bk BK626) hb); have n4_ := ak (below_step (bl1 HB GE626) hb); clear HO623; clear HO629; clear HO632; clear BK626; clear HB; have HO623 := n0_; have HO629 := n1_; have HO632 := n2_; have BK626 := n3_; have HB := n4_; clear n0_ n1_ n2_ n3_ n4_; (try clear hb); (try clear hb2); (try clear hk); (try clear hi); have hcz30_0 := bc w29 BK626 0 (.int .i64 t620) rfl; have hcz30_1 := bc w29 BK626 1 (.slice Ao9 t621.length co9) rfl; have hfz30_0 := fz BK626 0; have hfz30_1 := fz BK626 1))
   go_meet
   case rel => exact ⟨_, (true), (by rfl), H', ⟨by omega⟩, ⟨by exact Kd.R_mono HO629.out (fun _ hk => trivial)⟩, ⟨rk HO623⟩, ⟨bk BK626⟩, ⟨bl1 HB GE626⟩⟩
  rw [if_neg c23] at H
  have c23b0 : decide (t620 ≤ t624) = false := decide_eq_false c23
  clear c23
  by_cases c31 : t625 < 0
  ·rw [if_pos c31] at H
   have c31b0 : decide (t625 < 0) = true := decide_eq_true c31
   clear c31
   have H' := ak H
   clear H
   have hcz32_0 := bc w10 BK626 0 (.int .i64 t620) rfl
   have hcz32_1 := bc w10 BK626 1 (.slice Ao9 t621.length co9) rfl
   have hfz32_0 := fz BK626 0
   have hfz32_1 := fz BK626 1
   go_wp2_with (first | ((with_reducible refine gate_callee (f := 22) rfl ?_); refine goesL_ (some 29) rfl rfl Try.func22 (by kernel_rfl) rfl #[.agg #[.int .i64 t620, .slice Ao9 t621.length co9], .int .i64 t624, .int .i64 t625] rfl (by (try simp only [List.map_toArray, List.map_cons, List.map_nil]); rfl) ?_; (with_reducible refine (spec_PairAll.calls k t620 _ _ t621 t624 t625 t630 _ ?side1 ?side2 A11.out).mono ?_); (case side1 => repeat (exact (Kd.R_reads' HO623.out).2.2)); (case side2 => exact (Kd.R_reads' HO623.out).2.1); rintro e w33 ⟨v631, rfl, ho0, hb⟩; refine ⟨_, rfl, ?_⟩; replace HO623 := ak (Kd.R_below (rk HO623) hb); have HO632 := ak (Kd.R_lower (Kd.R_new' ho0 (Kd.R_lt (rk HO629))) (below_size (bl1 HB GE626))); replace HO629 := ak (Kd.R_elder' (rk HO629) (Kd.R_base ho0) hb); replace BK626 := ak (blk_below (bk BK626) hb); replace HB := ak (below_step (bl1 HB GE626) hb); (try clear hb); (try clear hb2); (try clear hk); (try clear hi); (try clear ho0); obtain ⟨Ao34, co34, eo34⟩ := Kd.R_slice HO629.out; subst eo34; obtain ⟨Ao35, co35, eo35⟩ := Kd.R_slice HO632.out; subst eo35) | ((with_reducible refine gate_callee (f := 28) rfl ?_); refine goesL_ (some 30) rfl rfl Try.func28 (by kernel_rfl) rfl #[.slice Ao34 t627.length co34, .slice Ao35 t630.length co35] rfl (by (try simp only [List.map_toArray, List.map_cons, List.map_nil]); rfl) ?_; (with_reducible refine (laws_wkPairs.calls k _ _ t627 _ _ t630 true _ ?side1 ?side2 ?side3 ?side4 A12.out).mono ?_); (case side1 => repeat (exact (Kd.R_reads' HO629.out).2.2)); (case side2 => exact (Kd.R_reads' HO629.out).2.1); (case side3 => repeat (exact (Kd.R_reads' HO632.out).2.2)); (case side4 => exact (Kd.R_reads' HO632.out).2.1); rintro e w' ⟨rfl, ⟨nd, rfl⟩⟩; refine ⟨_, rfl, ?_⟩; have hcz36_0 := bc w33 BK626 0 (.int .i64 t620) rfl; have hcz36_1 := bc w33 BK626 1 (.slice Ao9 t621.length co9) rfl; have hfz36_0 := fz BK626 0; have hfz36_1 := fz BK626 1) | (go_at_call 35; (with_reducible refine (impl_NetOk.calls t620 _ _ t621 true _ ?side1 ?side2 A14.out).mono ?_); (case side1 => repeat (exact (Kd.R_reads' HO623.out).2.2)); (case side2 => exact (Kd.R_reads' HO623.out).2.1); rintro e w37 ⟨rfl, hb⟩; have n0_ := ak (Kd.R_below (rk HO623) hb); have n1_ := ak (Kd.R_below (rk HO629) hb); have n2_ := ak (Kd.R_below (rk HO632) hb); have n3_ := ak (blk_below (bk BK626) hb); have n4_ := ak (below_step (bl1 HB GE626) hb); clear HO623; clear HO629; clear HO632; clear BK626; clear HB; have HO623 := n0_; have HO629 := n1_; have HO632 := n2_; have BK626 := n3_; have HB := n4_; clear n0_ n1_ n2_ n3_ n4_; (try clear hb); (try clear hb2); (try clear hk); (try clear hi); have hcz38_0 := bc w37 BK626 0 (.int .i64 t620) rfl; have hcz38_1 := bc w37 BK626 1 (.slice Ao9 t621.length co9) rfl; have hfz38_0 := fz BK626 0; have hfz38_1 := fz BK626 1))
   go_meet
   case rel => exact ⟨_, (true), (by rfl), H', ⟨by omega⟩, ⟨by exact Kd.R_mono HO629.out (fun _ hk => trivial)⟩, ⟨rk HO623⟩, ⟨bk BK626⟩, ⟨bl1 HB GE626⟩⟩
  rw [if_neg c31] at H
  have c31b0 : decide (t625 < 0) = false := decide_eq_false c31
  clear c31
  have H' := ak H
  clear H
  have hcz39_0 := bc w10 BK626 0 (.int .i64 t620) rfl
  have hcz39_1 := bc w10 BK626 1 (.slice Ao9 t621.length co9) rfl
  have hfz39_0 := fz BK626 0
  have hfz39_1 := fz BK626 1
  go_wp2_with (first | ((with_reducible refine gate_callee (f := 22) rfl ?_); refine goesL_ (some 29) rfl rfl Try.func22 (by kernel_rfl) rfl #[.agg #[.int .i64 t620, .slice Ao9 t621.length co9], .int .i64 t624, .int .i64 t625] rfl (by (try simp only [List.map_toArray, List.map_cons, List.map_nil]); rfl) ?_; (with_reducible refine (spec_PairAll.calls k t620 _ _ t621 t624 t625 t630 _ ?side1 ?side2 A11.out).mono ?_); (case side1 => repeat (exact (Kd.R_reads' HO623.out).2.2)); (case side2 => exact (Kd.R_reads' HO623.out).2.1); rintro e w40 ⟨v631, rfl, ho0, hb⟩; refine ⟨_, rfl, ?_⟩; replace HO623 := ak (Kd.R_below (rk HO623) hb); have HO632 := ak (Kd.R_lower (Kd.R_new' ho0 (Kd.R_lt (rk HO629))) (below_size (bl1 HB GE626))); replace HO629 := ak (Kd.R_elder' (rk HO629) (Kd.R_base ho0) hb); replace BK626 := ak (blk_below (bk BK626) hb); replace HB := ak (below_step (bl1 HB GE626) hb); (try clear hb); (try clear hb2); (try clear hk); (try clear hi); (try clear ho0); obtain ⟨Ao41, co41, eo41⟩ := Kd.R_slice HO629.out; subst eo41; obtain ⟨Ao42, co42, eo42⟩ := Kd.R_slice HO632.out; subst eo42) | ((with_reducible refine gate_callee (f := 28) rfl ?_); refine goesL_ (some 30) rfl rfl Try.func28 (by kernel_rfl) rfl #[.slice Ao41 t627.length co41, .slice Ao42 t630.length co42] rfl (by (try simp only [List.map_toArray, List.map_cons, List.map_nil]); rfl) ?_; (with_reducible refine (laws_wkPairs.calls k _ _ t627 _ _ t630 true _ ?side1 ?side2 ?side3 ?side4 A12.out).mono ?_); (case side1 => repeat (exact (Kd.R_reads' HO629.out).2.2)); (case side2 => exact (Kd.R_reads' HO629.out).2.1); (case side3 => repeat (exact (Kd.R_reads' HO632.out).2.2)); (case side4 => exact (Kd.R_reads' HO632.out).2.1); rintro e w' ⟨rfl, ⟨nd, rfl⟩⟩; refine ⟨_, rfl, ?_⟩; have hcz43_0 := bc w40 BK626 0 (.int .i64 t620) rfl; have hcz43_1 := bc w40 BK626 1 (.slice Ao9 t621.length co9) rfl; have hfz43_0 := fz BK626 0; have hfz43_1 := fz BK626 1) | (go_at_call 35; (with_reducible refine (impl_NetOk.calls t620 _ _ t621 true _ ?side1 ?side2 A14.out).mono ?_); (case side1 => repeat (exact (Kd.R_reads' HO623.out).2.2)); (case side2 => exact (Kd.R_reads' HO623.out).2.1); rintro e w44 ⟨rfl, hb⟩; have n0_ := ak (Kd.R_below (rk HO623) hb); have n1_ := ak (Kd.R_below (rk HO629) hb); have n2_ := ak (Kd.R_below (rk HO632) hb); have n3_ := ak (blk_below (bk BK626) hb); have n4_ := ak (below_step (bl1 HB GE626) hb); clear HO623; clear HO629; clear HO632; clear BK626; clear HB; have HO623 := n0_; have HO629 := n1_; have HO632 := n2_; have BK626 := n3_; have HB := n4_; clear n0_ n1_ n2_ n3_ n4_; (try clear hb); (try clear hb2); (try clear hk); (try clear hi); have hcz45_0 := bc w44 BK626 0 (.int .i64 t620) rfl; have hcz45_1 := bc w44 BK626 1 (.slice Ao9 t621.length co9) rfl; have hfz45_0 := fz BK626 0; have hfz45_1 := fz BK626 1))
  go_meet
  case rel => exact ⟨_, (decide (t625 ≥ t620)), (by rfl), H', ⟨by omega⟩, ⟨by exact Kd.R_mono HO629.out (fun _ hk => trivial)⟩, ⟨rk HO623⟩, ⟨bk BK626⟩, ⟨bl1 HB GE626⟩⟩
 clear HC5
 try clear c1
 try clear c2
 try clear c2b0
 try clear c2b1
 try clear p2
 try clear c3
 try clear c9
 try clear c13
 try clear c14
 try clear c15
 try clear c16
 try clear c16b0
 try clear c22
 try clear c23
 try clear c23b0
 try clear c27
 try clear c28
 try clear c31
 try clear c31b0
 try clear hcz17_0
 try clear hcz17_1
 try clear hcz21_0
 try clear hcz21_1
 try clear hcz24_0
 try clear hcz24_1
 try clear hcz28_0
 try clear hcz28_1
 try clear hcz30_0
 try clear hcz30_1
 try clear hcz32_0
 try clear hcz32_1
 try clear hcz36_0
 try clear hcz36_1
 try clear hcz38_0
 try clear hcz38_1
 try clear hcz39_0
 try clear hcz39_1
 try clear hcz43_0
 try clear hcz43_1
 try clear hcz45_0
 try clear hcz45_1
 try clear hcz46_0
 try clear hcz46_1
 try clear hcz50_0
 try clear hcz50_1
 try clear hcz52_0
 try clear hcz52_1
 try clear hcz8_0
 try clear hcz8_1
 try clear hfz17_0
 try clear hfz17_1
 try clear hfz21_0
 try clear hfz21_1
 try clear hfz24_0
 try clear hfz24_1
 try clear hfz28_0
 try clear hfz28_1
 try clear hfz30_0
 try clear hfz30_1
 try clear hfz32_0
 try clear hfz32_1
 try clear hfz36_0
 try clear hfz36_1
 try clear hfz38_0
 try clear hfz38_1
 try clear hfz39_0
 try clear hfz39_1
 try clear hfz43_0
 try clear hfz43_1
 try clear hfz45_0
 try clear hfz45_1
 try clear hfz46_0
 try clear hfz46_1
 try clear hfz50_0
 try clear hfz50_1
 try clear hfz52_0
 try clear hfz52_1
 try clear hfz8_0
 try clear hfz8_1
 obtain ⟨kq, x56_4, rfl, HA, HJ4, HO_6, HO_627001, BK626, HB⟩ := hcut
 cases kq with
 | zero => exact absurd HA.out (by simp [laws_FnPairAll.j0])
 | succ kj4 =>
  have H := HA.out
  clear HA
  simp only [laws_FnPairAll.j0] at H
  by_cases c56 : x56_4 = true
  ·subst c56
   rw [if_pos rfl] at H
   replace H := Option.bind_eq_some_iff.mp H
   obtain ⟨t635, A570, H⟩ := H
   have A57 := ak A570
   clear A570
   replace H := Option.bind_eq_some_iff.mp H
   obtain ⟨t638, A580, H⟩ := H
   have A58 := ak A580
   clear A580
   obtain rfl := Option.some.inj H
   have hcz59_0 := bc wc BK626 0 (.int .i64 t620) rfl
   have hcz59_1 := bc wc BK626 1 (.slice Ao9 t621.length co9) rfl
   have hfz59_0 := fz BK626 0
   have hfz59_1 := fz BK626 1
   go_wp2_with (first | ((with_reducible refine gate_callee (f := 22) rfl ?_); refine goesL_ (some 61) rfl rfl Try.func22 (by kernel_rfl) rfl #[.agg #[.int .i64 t620, .slice Ao9 t621.length co9], .int .i64 t624, .int .i64 t625] rfl (by (try simp only [List.map_toArray, List.map_cons, List.map_nil]); rfl) ?_; (with_reducible refine (spec_PairAll.calls kj4 t620 _ _ t621 t624 t625 t635 _ ?side1 ?side2 A57.out).mono ?_); (case side1 => repeat (exact (Kd.R_reads' HO_627001.out).2.2)); (case side2 => exact (Kd.R_reads' HO_627001.out).2.1); rintro e w60 ⟨v636, rfl, ho0, hb⟩; refine ⟨_, rfl, ?_⟩; replace HO_627001 := ak (Kd.R_below (rk HO_627001) hb); have HO637 := ak (Kd.R_lower (Kd.R_new' ho0 (Kd.R_lt (rk HO_6))) (below_size (bl1 HB GE626))); replace HO_6 := ak (Kd.R_elder' (rk HO_6) (Kd.R_base ho0) hb); replace BK626 := ak (blk_below (bk BK626) hb); replace HB := ak (below_step (bl1 HB GE626) hb); (try clear hb); (try clear hb2); (try clear hk); (try clear hi); (try clear ho0); obtain ⟨Ao61, co61, eo61⟩ := Kd.R_slice HO_6.out; subst eo61; obtain ⟨Ao62, co62, eo62⟩ := Kd.R_slice HO637.out; subst eo62) | ((with_reducible refine gate_callee (f := 28) rfl ?_); refine goesL_ (some 62) rfl rfl Try.func28 (by kernel_rfl) rfl #[.slice Ao61 t627.length co61, .slice Ao62 t635.length co62] rfl (by (try simp only [List.map_toArray, List.map_cons, List.map_nil]); rfl) ?_; (with_reducible refine (laws_wkPairs.calls kj4 _ _ t627 _ _ t635 t638 _ ?side1 ?side2 ?side3 ?side4 A58.out).mono ?_); (case side1 => repeat (exact (Kd.R_reads' HO_6.out).2.2)); (case side2 => exact (Kd.R_reads' HO_6.out).2.1); (case side3 => repeat (exact (Kd.R_reads' HO637.out).2.2)); (case side4 => exact (Kd.R_reads' HO637.out).2.1); rintro e w' ⟨rfl, ⟨nd, rfl⟩⟩; refine ⟨_, rfl, ?_⟩))
   go_ret
   exact ⟨by rfl, bl1 HB GE626⟩
  replace c56 := Bool.eq_false_iff.mpr c56
  subst c56
  rw [if_neg (show ¬ (false = true) by decide)] at H
  have H' := ak H
  clear H
  go_wp2
  go_loopg [7] kj4 (fun kq v7 w' => ∃ (x7_2 : Int), v7 = .int .i64 x7_2 ∧ Aside0 (laws_FnPairAll.l0 kq t624 t625 t627 x7_2 t620 t621 = some r) ∧ Aside0 (kq ≤ kj4) ∧ Aside0 (Kd.R k35 35 w' w.heap.size (fun _ => True) v628 t627) ∧ Aside0 (Kd.R k33 33 w' w.heap.size (fun _ => True) (.slice Ao9 t621.length co9) t621) ∧ Aside0 (w'.heap[gb626]? = some (.cells #[.int .i64 t620, (.slice Ao9 t621.length co9)] 25 (0, 0))) ∧ Aside0 (Below w.heap.size w w'))
  case atStart => exact ⟨(1), (by rfl), H', ⟨Nat.le_refl _⟩, ⟨rk HO_6⟩, ⟨rk HO_627001⟩, ⟨bk BK626⟩, ⟨bl1 HB GE626⟩⟩
  clear H'
  try clear c1
  try clear c2
  try clear c2b0
  try clear c2b1
  try clear p2
  try clear c3
  try clear c5
  try clear c9
  try clear c13
  try clear c14
  try clear c15
  try clear c16
  try clear c16b0
  try clear c22
  try clear c23
  try clear c23b0
  try clear c27
  try clear c28
  try clear c31
  try clear c31b0
  try clear c56
  try clear hcz17_0
  try clear hcz17_1
  try clear hcz21_0
  try clear hcz21_1
  try clear hcz24_0
  try clear hcz24_1
  try clear hcz28_0
  try clear hcz28_1
  try clear hcz30_0
  try clear hcz30_1
  try clear hcz32_0
  try clear hcz32_1
  try clear hcz36_0
  try clear hcz36_1
  try clear hcz38_0
  try clear hcz38_1
  try clear hcz39_0
  try clear hcz39_1
  try clear hcz43_0
  try clear hcz43_1
  try clear hcz45_0
  try clear hcz45_1
  try clear hcz46_0
  try clear hcz46_1
  try clear hcz50_0
  try clear hcz50_1
  try clear hcz52_0
  try clear hcz52_1
  try clear hcz59_0
  try clear hcz59_1
  try clear hcz8_0
  try clear hcz8_1
  try clear hfz17_0
  try clear hfz17_1
  try clear hfz21_0
  try clear hfz21_1
  try clear hfz24_0
  try clear hfz24_1
  try clear hfz28_0
  try clear hfz28_1
  try clear hfz30_0
  try clear hfz30_1
  try clear hfz32_0
  try clear hfz32_1
  try clear hfz36_0
  try clear hfz36_1
  try clear hfz38_0
  try clear hfz38_1
  try clear hfz39_0
  try clear hfz39_1
  try clear hfz43_0
  try clear hfz43_1
  try clear hfz45_0
  try clear hfz45_1
  try clear hfz46_0
  try clear hfz46_1
  try clear hfz50_0
  try clear hfz50_1
  try clear hfz52_0
  try clear hfz52_1
  try clear hfz59_0
  try clear hfz59_1
  try clear hfz8_0
  try clear hfz8_1
  try clear p2
  obtain ⟨x7_2, rfl, HA, HK2, HO_6, HO_627001, BK626, HB⟩ := hrel
  cases gk with
  | zero => exact absurd HA.out (by simp [laws_FnPairAll.l0])
  | succ k2 =>
   have H := HA.out
   clear HA
   simp only [laws_FnPairAll.l0] at H
   by_cases c63 : x7_2 < (t627.length : Int)
   ·rw [if_pos c63] at H
    have c63b0 : decide (x7_2 < (t627.length : Int)) = true := decide_eq_true c63
    clear c63
    by_cases c64 : 0 ≤ x7_2
    rotate_left
    ·rw [if_neg c64] at H
     exact absurd H (by simp)
    rw [if_pos c64] at H
    have c64b0 : decide (0 ≤ x7_2) = true := decide_eq_true c64
    clear c64
    obtain ⟨ji65, hji65⟩ : ∃ j_ : Int, (wrap64 (x7_2 - 1)) = j_ := ⟨_, rfl⟩
    replace H : (if 0 ≤ (ji65) then (if (ji65) < (t627.length : Int) then (if ((rd_T35 t627 x7_2).f0) ≤ ((rd_T35 t627 (ji65)).f0) then (some false) else (if ((rd_T35 t627 x7_2).f1) ≥ ((rd_T35 t627 (ji65)).f1) then (some false) else (laws_FnPairAll.l0 k2 t624 t625 t627 (wrap64 (x7_2 + 1)) t620 t621))) else (none)) else (none)) = some r := by (rw [hji65] at H; exact H)
    have hji65w : (IntKind.i64.wrap (x7_2 - 1)) = ji65 := (i64_w _).trans hji65
    by_cases c66 : 0 ≤ (ji65)
    rotate_left
    ·rw [if_neg c66] at H
     exact absurd H (by simp)
    rw [if_pos c66] at H
    have c66b0 : decide (0 ≤ (ji65)) = true := decide_eq_true c66
    clear c66
    by_cases c67 : (ji65) < (t627.length : Int)
    rotate_left
    ·rw [if_neg c67] at H
     exact absurd H (by simp)
    rw [if_pos c67] at H
    have c67b0 : decide ((ji65) < (t627.length : Int)) = true := decide_eq_true c67
    clear c67
    by_cases c68 : ((rd_T35 t627 x7_2).f0) ≤ ((rd_T35 t627 (ji65)).f0)
    ·rw [if_pos c68] at H
     have c68b0 : decide (((rd_T35 t627 x7_2).f0) ≤ ((rd_T35 t627 (ji65)).f0)) = true := decide_eq_true c68
     clear c68
     exact absurd ((Option.some.inj H).trans hr_) Bool.false_ne_true
    rw [if_neg c68] at H
    have c68b0 : decide (((rd_T35 t627 x7_2).f0) ≤ ((rd_T35 t627 (ji65)).f0)) = false := decide_eq_false c68
    clear c68
    by_cases c69 : ((rd_T35 t627 x7_2).f1) ≥ ((rd_T35 t627 (ji65)).f1)
    ·rw [if_pos c69] at H
     have c69b0 : decide (((rd_T35 t627 (ji65)).f1) ≤ ((rd_T35 t627 x7_2).f1)) = true := decide_eq_true c69
     clear c69
     exact absurd ((Option.some.inj H).trans hr_) Bool.false_ne_true
    rw [if_neg c69] at H
    have c69b0 : decide (((rd_T35 t627 (ji65)).f1) ≤ ((rd_T35 t627 x7_2).f1)) = false := decide_eq_false c69
    clear c69
    have H' := ak H
    clear H
    obtain ⟨Ao70, co70, eo70⟩ := Kd.R_slice HO_6.out
    subst eo70
    try go_wp2
    replace HO_6 := ak (Kd.R_drew HO_6.out)
    replace HO_627001 := ak (Kd.R_drew HO_627001.out)
    replace BK626 := ak (blk_drew BK626.out)
    replace HB := ak (below_drew1 HB.out)
    have p639 : 0 ≤ (x7_2 : Int) := oT (by (with_reducible assumption))
    have q639 : x7_2 < (t627.length : Int) := oT (by (with_reducible assumption))
    obtain ⟨ad639, e639, hx639_0, hx639_1⟩ := at_T35 (Kd.R_reads' HO_6.out).2.2 x7_2 p639 q639
    cases e639
    replace p639 := eq_true p639
    replace q639 := eq_true q639
    have p640 : 0 ≤ ((ji65) : Int) := oT (by (with_reducible assumption))
    have q640 : (ji65) < (t627.length : Int) := oT (by (with_reducible assumption))
    obtain ⟨ad640, e640, hx640_0, hx640_1⟩ := at_T35 (Kd.R_reads' HO_6.out).2.2 (ji65) p640 q640
    obtain rfl : ad639 = ad640 := (by injection e640)
    replace p640 := eq_true p640
    replace q640 := eq_true q640
    have p641 : 0 ≤ (x7_2 : Int) := oT (by (with_reducible assumption))
    have q641 : x7_2 < (t627.length : Int) := oT (by (with_reducible assumption))
    obtain ⟨ad641, e641, hx641_0, hx641_1⟩ := at_T35 (Kd.R_reads' HO_6.out).2.2 x7_2 p641 q641
    obtain rfl : ad639 = ad641 := (by injection e641)
    replace p641 := eq_true p641
    replace q641 := eq_true q641
    have p642 : 0 ≤ ((ji65) : Int) := oT (by (with_reducible assumption))
    have q642 : (ji65) < (t627.length : Int) := oT (by (with_reducible assumption))
    obtain ⟨ad642, e642, hx642_0, hx642_1⟩ := at_T35 (Kd.R_reads' HO_6.out).2.2 (ji65) p642 q642
    obtain rfl : ad639 = ad642 := (by injection e642)
    replace p642 := eq_true p642
    replace q642 := eq_true q642
    refine start_ (n := 26) (S := fun w' => w'.cell? (ad639.add ((x7_2).toNat * 2)) = some (.int .i64 ((rd_T35 t627 x7_2).f0)) ∧ w'.cell? ⟨(ad639.add ((x7_2).toNat * 2)).block, (ad639.add ((x7_2).toNat * 2)).off + 1, none⟩ = some (.int .i64 ((rd_T35 t627 x7_2).f1)) ∧ w'.cell? (ad639.add (((ji65)).toNat * 2)) = some (.int .i64 ((rd_T35 t627 (ji65)).f0)) ∧ w'.cell? ⟨(ad639.add (((ji65)).toNat * 2)).block, (ad639.add (((ji65)).toNat * 2)).off + 1, none⟩ = some (.int .i64 ((rd_T35 t627 (ji65)).f1)) ∧ w'.cell? (ad639.add ((x7_2).toNat * 2)) = some (.int .i64 ((rd_T35 t627 x7_2).f0)) ∧ w'.cell? ⟨(ad639.add ((x7_2).toNat * 2)).block, (ad639.add ((x7_2).toNat * 2)).off + 1, none⟩ = some (.int .i64 ((rd_T35 t627 x7_2).f1)) ∧ w'.cell? (ad639.add (((ji65)).toNat * 2)) = some (.int .i64 ((rd_T35 t627 (ji65)).f0)) ∧ w'.cell? ⟨(ad639.add (((ji65)).toNat * 2)).block, (ad639.add (((ji65)).toNat * 2)).off + 1, none⟩ = some (.int .i64 ((rd_T35 t627 (ji65)).f1))) (ds := []) (ms 26 0) (by kernel_rfl) rfl (by kernel_rfl) ⟨hx639_0, hx639_1, hx640_0, hx640_1, hx641_0, hx641_1, hx642_0, hx642_1⟩ (fun hHeld => ?_); refine with_tabW laws_FnPairAll.tab10 laws_FnPairAll.bits10 (fun HT_ HW_ => ?_)
    generalize wr.drew = w71 at HO_6 HO_627001 BK626 HB hx639_0 hx639_1 hx640_0 hx640_1 hx641_0 hx641_1 hx642_0 hx642_1 hHeld ⊢
    refine pu 0 69 ?_ (ms 26 1) rfl rfl HT_ (by kernel_rfl) (fun _ _ _ h => h) (by rfl) ?_ ?_ ?_ ?_
    rotate_left
    ·intro w'
     go_simp
     with_reducible rfl
    rotate_left
    ·simp only [SX]
     rfl
    refine pu 1 70 ?_ (ms 26 3) rfl rfl HT_ (by kernel_rfl) (fun _ _ _ h => h) (by rfl) ?_ ?_ ?_ ?_
    rotate_left
    ·intro w'
     go_simp
     with_reducible rfl
    rotate_left
    ·simp only [SX]
     rfl
    refine pu 2 71 ?_ (ms 26 7) rfl rfl HT_ (by kernel_rfl) (fun _ _ _ h => h) (by rfl) ?_ ?_ ?_ ?_
    rotate_left
    ·intro w'
     go_simp
     with_reducible rfl
    rotate_left
    ·simp only [SX]
     rfl
    refine pu 3 72 ?_ (ms 26 15) rfl rfl HT_ (by kernel_rfl) (fun _ _ _ h => h) (by rfl) ?_ ?_ ?_ ?_
    rotate_left
    ·intro w'
     go_simp
     with_reducible rfl
    rotate_left
    ·simp only [SX]
     rfl
    refine pu 5 74 ?_ (ms 26 47) rfl rfl HT_ (by kernel_rfl) (fun _ _ _ h => h) (by rfl) ?_ ?_ ?_ ?_
    rotate_left
    ·intro w'
     go_simp
     with_reducible rfl
    rotate_left
    ·simp only [SX]
     rfl
    refine pu 6 75 ?_ (ms 26 111) rfl rfl HT_ (by kernel_rfl) (fun _ _ _ h => h) (by rfl) ?_ ?_ ?_ ?_
    rotate_left
    ·intro w'
     go_simp
     with_reducible rfl
    rotate_left
    ·simp only [SX]
     rfl
    refine pu 7 76 ?_ (ms 26 239) rfl rfl HT_ (by kernel_rfl) (fun _ _ _ h => h) (by rfl) ?_ ?_ ?_ ?_
    rotate_left
    ·intro w'
     go_simp
     with_reducible rfl
    rotate_left
    ·simp only [SX]
     rfl
    refine pu 8 77 ?_ (ms 26 495) rfl rfl HT_ (by kernel_rfl) (fun _ _ _ h => h) (by rfl) ?_ ?_ ?_ ?_
    rotate_left
    ·intro w'
     go_simp
     with_reducible rfl
    rotate_left
    ·simp only [SX]
     rfl
    refine pu 9 78 ?_ (ms 26 1007) rfl rfl HT_ (by kernel_rfl) (fun _ _ _ h => h) (by rfl) ?_ ?_ ?_ ?_
    rotate_left
    ·intro w'
     go_simp
     with_reducible rfl
    rotate_left
    ·simp only [SX]
     rfl
    refine tk 4 73 ?_ (ms 26 1023) rfl rfl HT_ HW_ (by kernel_rfl) (fun _ _ _ h => h) (by rfl) ?_ hHeld ?_ ?_ ?_
    rotate_left
    ·rintro w' ⟨s0, s1, s2, s3, s4, s5, s6, s7⟩
     go_simp
     with_reducible rfl
    rotate_left
    ·simp only [SX]
     rfl
    refine tk 10 79 ?_ (ms 26 2047) rfl rfl HT_ HW_ (by kernel_rfl) (fun _ _ _ h => h) (by rfl) ?_ hHeld ?_ ?_ ?_
    rotate_left
    ·rintro w' ⟨s0, s1, s2, s3, s4, s5, s6, s7⟩
     go_simp
     with_reducible rfl
    rotate_left
    ·simp only [SX]
     rfl
    refine pu 11 80 ?_ (ms 26 4095) rfl rfl HT_ (by kernel_rfl) (fun _ _ _ h => h) (by rfl) ?_ ?_ ?_ ?_
    rotate_left
    ·intro w'
     go_simp
     with_reducible rfl
    rotate_left
    ·simp only [SX]
     rfl
    refine pu 12 81 ?_ (ms 26 8191) rfl rfl HT_ (by kernel_rfl) (fun _ _ _ h => h) (by rfl) ?_ ?_ ?_ ?_
    rotate_left
    ·intro w'
     go_simp
     with_reducible rfl
    rotate_left
    ·simp only [SX]
     rfl
    refine pu 13 82 ?_ (ms 26 16383) rfl rfl HT_ (by kernel_rfl) (fun _ _ _ h => h) (by rfl) ?_ ?_ ?_ ?_
    rotate_left
    ·intro w'
     go_simp
     with_reducible rfl
    rotate_left
    ·simp only [SX]
     rfl
    refine pu 14 83 ?_ (ms 26 32767) rfl rfl HT_ (by kernel_rfl) (fun _ _ _ h => h) (by rfl) ?_ ?_ ?_ ?_
    rotate_left
    ·intro w'
     go_simp
     with_reducible rfl
    rotate_left
    ·simp only [SX]
     rfl
    refine pu 15 84 ?_ (ms 26 65535) rfl rfl HT_ (by kernel_rfl) (fun _ _ _ h => h) (by rfl) ?_ ?_ ?_ ?_
    rotate_left
    ·intro w'
     go_simp
     with_reducible rfl
    rotate_left
    ·simp only [SX]
     rfl
    refine pu 16 85 ?_ (ms 26 131071) rfl rfl HT_ (by kernel_rfl) (fun _ _ _ h => h) (by rfl) ?_ ?_ ?_ ?_
    rotate_left
    ·intro w'
     go_simp
     with_reducible rfl
    rotate_left
    ·simp only [SX]
     rfl
    refine pu 18 87 ?_ (ms 26 393215) rfl rfl HT_ (by kernel_rfl) (fun _ _ _ h => h) (by rfl) ?_ ?_ ?_ ?_
    rotate_left
    ·intro w'
     go_simp
     with_reducible rfl
    rotate_left
    ·simp only [SX]
     rfl
    refine pu 19 88 ?_ (ms 26 917503) rfl rfl HT_ (by kernel_rfl) (fun _ _ _ h => h) (by rfl) ?_ ?_ ?_ ?_
    rotate_left
    ·intro w'
     go_simp
     with_reducible rfl
    rotate_left
    ·simp only [SX]
     rfl
    refine pu 20 89 ?_ (ms 26 1966079) rfl rfl HT_ (by kernel_rfl) (fun _ _ _ h => h) (by rfl) ?_ ?_ ?_ ?_
    rotate_left
    ·intro w'
     go_simp
     with_reducible rfl
    rotate_left
    ·simp only [SX]
     rfl
    refine pu 21 90 ?_ (ms 26 4063231) rfl rfl HT_ (by kernel_rfl) (fun _ _ _ h => h) (by rfl) ?_ ?_ ?_ ?_
    rotate_left
    ·intro w'
     go_simp
     with_reducible rfl
    rotate_left
    ·simp only [SX]
     rfl
    refine pu 22 91 ?_ (ms 26 8257535) rfl rfl HT_ (by kernel_rfl) (fun _ _ _ h => h) (by rfl) ?_ ?_ ?_ ?_
    rotate_left
    ·intro w'
     go_simp
     with_reducible rfl
    rotate_left
    ·simp only [SX]
     rfl
    refine tk 17 86 ?_ (ms 26 8388607) rfl rfl HT_ HW_ (by kernel_rfl) (fun _ _ _ h => h) (by rfl) ?_ hHeld ?_ ?_ ?_
    rotate_left
    ·rintro w' ⟨s0, s1, s2, s3, s4, s5, s6, s7⟩
     go_simp
     with_reducible rfl
    rotate_left
    ·simp only [SX]
     rfl
    refine tk 23 92 ?_ (ms 26 16777215) rfl rfl HT_ HW_ (by kernel_rfl) (fun _ _ _ h => h) (by rfl) ?_ hHeld ?_ ?_ ?_
    rotate_left
    ·rintro w' ⟨s0, s1, s2, s3, s4, s5, s6, s7⟩
     go_simp
     with_reducible rfl
    rotate_left
    ·simp only [SX]
     rfl
    refine pu 24 93 ?_ (ms 26 33554431) rfl rfl HT_ (by kernel_rfl) (fun _ _ _ h => h) (by rfl) ?_ ?_ ?_ ?_
    rotate_left
    ·intro w'
     go_simp
     with_reducible rfl
    rotate_left
    ·simp only [SX]
     rfl
    refine pu 25 94 ?_ (ms 26 67108863) rfl rfl HT_ (by kernel_rfl) (fun _ _ _ h => h) (by rfl) ?_ ?_ ?_ ?_
    rotate_left
    ·intro w'
     go_simp
     with_reducible rfl
    rotate_left
    ·simp only [SX]
     rfl
    refine done_ (done_of HT_.out (by kernel_rfl)) ?_
    try go_wp2
    go_roundg k2
    case measure => have := HJ4.out; have := HK2.out; omega
    case rel => exact ⟨(wrap64 (x7_2 + 1)), (by rfl), H', ⟨by have := HJ4.out; have := HK2.out; omega⟩, ⟨rk HO_6⟩, ⟨rk HO_627001⟩, ⟨bk BK626⟩, ⟨bl1 HB GE626⟩⟩
   rw [if_neg c63] at H
   have c63b0 : decide (x7_2 < (t627.length : Int)) = false := decide_eq_false c63
   clear c63
   replace H := Option.bind_eq_some_iff.mp H
   obtain ⟨t643, A720, H⟩ := H
   have A72 := ak A720
   clear A720
   by_cases c73 : 0 ≤ t625
   rotate_left
   ·rw [if_neg c73] at H
    exact absurd H (by simp)
   rw [if_pos c73] at H
   have c73b0 : decide (0 ≤ t625) = true := decide_eq_true c73
   clear c73
   by_cases c74 : t625 < (t643.length : Int)
   rotate_left
   ·rw [if_neg c74] at H
    exact absurd H (by simp)
   rw [if_pos c74] at H
   have c74b0 : decide (t625 < (t643.length : Int)) = true := decide_eq_true c74
   clear c74
   replace H := Option.bind_eq_some_iff.mp H
   obtain ⟨t647, A750, H⟩ := H
   have A75 := ak A750
   clear A750
   replace H := Option.bind_eq_some_iff.mp H
   obtain ⟨⟨t650, t651, t654⟩, A760, H⟩ := H
   have A76 := ak A760
   clear A760
   replace H := Option.bind_eq_some_iff.mp H
   obtain ⟨t656, A770, H⟩ := H
   have A77 := ak A770
   clear A770
   by_cases c78 : t625 < (t656.length : Int)
   rotate_left
   ·rw [if_neg c78] at H
    exact absurd H (by simp)
   rw [if_pos c78] at H
   have c78b0 : decide (t625 < (t656.length : Int)) = true := decide_eq_true c78
   clear c78
   by_cases c79 : (t627.length : Int) = 0
   ·rw [if_pos c79] at H
    have c79b0 : ((t627.length : Int) == 0) = true := beq_iff_eq.mpr c79
    have c79b1 : ((t627.length : Int) != 0) = false := bne_eq_false_iff_eq.mpr c79
    clear c79
    by_cases c80 : (rd t643 t625) = 99999
    rotate_left
    ·rw [if_neg c80] at H
     have c80b0 : ((rd t643 t625) == 99999) = false := beq_eq_false_iff_ne.mpr c80
     have c80b1 : ((rd t643 t625) != 99999) = true := bne_iff_ne.mpr c80
     exact absurd ((Option.some.inj H).trans hr_) Bool.false_ne_true
    rw [if_pos c80] at H
    have c80b0 : ((rd t643 t625) == 99999) = true := beq_iff_eq.mpr c80
    have c80b1 : ((rd t643 t625) != 99999) = false := bne_eq_false_iff_eq.mpr c80
    clear c80
    obtain rfl := Option.some.inj H
    obtain ⟨Ao81, co81, eo81⟩ := Kd.R_slice HO_6.out
    subst eo81
    have hcz82_0 := bc wr BK626 0 (.int .i64 t620) rfl
    have hcz82_1 := bc wr BK626 1 (.slice Ao9 t621.length co9) rfl
    have hfz82_0 := fz BK626 0
    have hfz82_1 := fz BK626 1
    try go_wp2_with (((with_reducible refine gate_callee (f := 31) rfl ?_); refine goesL_ (some 97) rfl rfl Try.func31 (by kernel_rfl) rfl #[.agg #[.int .i64 t620, .slice Ao9 t621.length co9], .int .i64 t624] rfl (by (try simp only [List.map_toArray, List.map_cons, List.map_nil]); rfl) ?_; (with_reducible refine (impl_NearAll.calls k2 t620 _ _ t621 t624 t643 _ ?side1 ?side2 A72.out).mono ?_); (case side1 => repeat (exact (Kd.R_reads' HO_627001.out).2.2)); (case side2 => exact (Kd.R_reads' HO_627001.out).2.1); rintro e w83 ⟨v644, rfl, ho0, hb⟩; refine ⟨_, rfl, ?_⟩; replace HO_6 := ak (Kd.R_below (rk HO_6) hb); replace HO_627001 := ak (Kd.R_below (rk HO_627001) hb); have HO645 := ak (Kd.R_lower ho0 (below_size (bl1 HB GE626))); replace BK626 := ak (blk_below (bk BK626) hb); replace HB := ak (below_step (bl1 HB GE626) hb); (try clear hb); (try clear hb2); (try clear hk); (try clear hi); (try clear ho0); obtain ⟨Ao84, co84, eo84⟩ := Kd.R_slice HO645.out; subst eo84; have p646 : 0 ≤ (t625 : Int) := oT (by (with_reducible assumption)); have q646 : t625 < (t643.length : Int) := oT (by (with_reducible assumption)); obtain ⟨ad646, e646, hx646_0⟩ := Kd.at_int (Kd.R_reads' HO645.out).2.2 t625 p646 q646; cases e646; replace p646 := eq_true p646; replace q646 := eq_true q646))
    replace HO_6 := ak (Kd.R_drew HO_6.out)
    replace HO_627001 := ak (Kd.R_drew HO_627001.out)
    replace HO645 := ak (Kd.R_drew HO645.out)
    replace BK626 := ak (blk_drew BK626.out)
    replace HB := ak (below_drew1 HB.out)
    refine start_ (n := 10) (S := fun w' => w'.cell? ⟨gb626, 0, none⟩ = some (.int .i64 t620) ∧ w'.cell? ⟨gb626, 1, none⟩ = some (.slice Ao9 t621.length co9)) (ds := []) (ms 10 0) (by kernel_rfl) rfl (by kernel_rfl) ⟨(blk_cell BK626.out 0).trans rfl, (blk_cell BK626.out 1).trans rfl⟩ (fun hHeld => ?_); refine with_tabW laws_FnPairAll.tab13 laws_FnPairAll.bits13 (fun HT_ HW_ => ?_)
    generalize w83.drew = w85 at HO_6 HO_627001 HO645 BK626 HB hHeld ⊢
    refine tk 0 102 ?_ (ms 10 1) rfl rfl HT_ HW_ (by kernel_rfl) (fun _ _ _ h => h) (by rfl) ?_ hHeld ?_ ?_ ?_
    rotate_left
    ·rintro w' ⟨s0, s1⟩
     go_simp
     with_reducible rfl
    rotate_left
    ·simp only [SX]
     rfl
    refine tk 1 103 ?_ (ms 10 3) rfl rfl HT_ HW_ (by kernel_rfl) (fun _ _ _ h => h) (by rfl) ?_ hHeld ?_ ?_ ?_
    rotate_left
    ·rintro w' ⟨s0, s1⟩
     go_simp
     with_reducible rfl
    rotate_left
    ·simp only [SX]
     rfl
    refine join_ (σ := Value × Value × Nat) 2 (ms 10 255) (fun s_ => [(104, s_.1), (105, .tuple #[.agg #[.int .i64 t650, s_.2.1], .bool t654]), (9, .pointer (some ⟨s_.2.2, 0, none⟩)), (101, .tuple #[.agg #[.int .i64 t650, s_.2.1], .bool t654]), (106, .agg #[.int .i64 t650, s_.2.1]), (107, .bool t654)]) (fun s_ w' => (w'.cell? ⟨gb626, 0, none⟩ = some (.int .i64 t620) ∧ w'.cell? ⟨gb626, 1, none⟩ = some (.slice Ao9 t621.length co9)) ∧ (Kd.R (Kd.int .i64) 3 w' w.heap.size (fun k_ => some k_ ≠ (s_.1 : Value).ownBlock) (.slice (some ad646) t643.length co84) t643) ∧ (Kd.R (Kd.int .i64) 3 w' w.heap.size (fun k_ => some k_ ≠ (.slice (some ad646) t643.length co84 : Value).ownBlock) s_.1 t647) ∧ (Kd.R k33 33 w' w.heap.size (fun k_ => some k_ ≠ (.slice Ao9 t621.length co9 : Value).ownBlock) s_.2.1 t651) ∧ (Kd.R k35 35 w' w.heap.size (fun _ => True) (.slice Ao81 t627.length co81) t627) ∧ (Kd.R k33 33 w' w.heap.size (fun k_ => some k_ ≠ (s_.2.1 : Value).ownBlock) (.slice Ao9 t621.length co9) t621) ∧ (w'.heap[gb626]? = some (.cells #[.int .i64 t620, .slice Ao9 t621.length co9] 25 (0, 0))) ∧ (w'.heap[s_.2.2]? = some (.cells #[.int .i64 0, .slice none 0 0] 25 (0, 0))) ∧ (w.heap.size ≤ s_.2.2) ∧ (w.heap.size ≤ s_.2.2) ∧ (gb626 ≠ s_.2.2) ∧ (s_.2.2 ≠ gb626) ∧ (Below w.heap.size w w')) ?_ ?_
    rotate_left
    ·intro hCont
     refine two_ (i := 2) (j := 7) (Ni := some 104) (Nj := some 9) (ms 10 7) (ms 10 131) rfl rfl rfl rfl (two_of HT_.out (by kernel_rfl)) (by decide) (by decide) (fun K hK => ?_) (fun K hK => ?_)
     rotate_left
     ·skip
      refine box_step ?hg (N := 9) ?hd (cs := #[.int .i64 0, .slice none 0 0]) (t := 25) ?hr ?_; (case hd => rfl); (case hg => rfl); (case hr => (go_simp; done))
      intro gb655 hg w86 hbox hb
      replace HO_6 := ak (Kd.R_below (rk HO_6) hb)
      replace HO_627001 := ak (Kd.R_below (rk HO_627001) hb)
      replace HO645 := ak (Kd.R_below (rk HO645) hb)
      have BK655 := ak (hbox)
      have GW655 := ak ((by rw [hg]; exact (below_size (bl1 HB GE626)) : w.heap.size ≤ gb655))
      have GE655 := ak ((by rw [hg]; exact (below_size (bl1 HB GE626)) : w.heap.size ≤ gb655))
      replace HB := ak (below_step (bl1 HB GE626) hb)
      have NB626_655 := ak ((by rw [hg]; exact Nat.ne_of_lt (blk_lt (bk BK626)) : gb626 ≠ gb655))
      have NB655_626 := ak ((by rw [hg]; exact Nat.ne_of_gt (blk_lt (bk BK626)) : gb655 ≠ gb626))
      replace BK626 := ak (blk_below (bk BK626) hb)
      clear hb hbox hg
      refine hK.out _ _ ⟨(blk_cell BK626.out 0).trans rfl, (blk_cell BK626.out 1).trans rfl⟩ (fun hHeld => ?_)
      clear hK K
      refine norm_ (a' := ?_) ?_ ?_
      rotate_left
      ·show Act.put _ (some 9) _ = _
       simp only [SX]
       rfl
      refine one_ (i := 2) (N := some 104) (ms 10 135) rfl rfl (one_of HT_.out (by kernel_rfl)) (by decide) (fun K hK => ?_)
      refine goes_ Try.func37 (by kernel_rfl) rfl #[.agg #[.int .i64 t620, .slice Ao9 t621.length co9], .int .i64 0, .int .i64 100] (by rfl) rfl rfl (by (try simp only [List.map_toArray, List.map_cons, List.map_nil]); rfl) ?_
      with_reducible refine (impl_CostOf.calls k2 t620 _ _ t621 0 100 t647 _ ?side1 ?side2 A75.out).mono ?_
      (case side1 => repeat (exact (Kd.R_reads' HO_627001.out).2.2))
      (case side2 => exact (Kd.R_reads' HO_627001.out).2.1)
      rintro e w87 ⟨v648, rfl, ho0, hb⟩
      refine ⟨_, rfl, ?_⟩
      replace HO_6 := ak (Kd.R_below (rk HO_6) hb)
      replace HO_627001 := ak (Kd.R_below (rk HO_627001) hb)
      have HO649 := ak (Kd.R_lower (Kd.R_new' ho0 (Kd.R_lt (rk HO645))) (below_size (bl2 HB GE626 GE655)))
      replace HO645 := ak (Kd.R_elder' (rk HO645) (Kd.R_base ho0) hb)
      replace BK626 := ak (blk_below (bk BK626) hb)
      replace BK655 := ak (blk_below (bk BK655) hb)
      replace HB := ak (below_step (bl2 HB GE626 GE655) hb)
      (try clear hb)
      (try clear hb2)
      (try clear hk)
      (try clear hi)
      (try clear ho0)
      obtain ⟨Ao88, co88, eo88⟩ := Kd.R_slice HO649.out
      (subst eo88)
      refine hK.out _ _ ⟨(blk_cell BK626.out 0).trans rfl, (blk_cell BK626.out 1).trans rfl⟩ (fun hHeld => ?_)
      clear hK K
      refine norm_ (a' := ?_) ?_ ?_
      rotate_left
      ·show Act.put _ (some 104) _ = _
       simp only [SX]
       rfl
      refine one_ (i := 3) (N := some 105) (ms 10 143) rfl rfl (one_of HT_.out (by kernel_rfl)) (by decide) (fun K hK => ?_)
      refine goes_ Try.func36 (by kernel_rfl) rfl #[.agg #[.int .i64 t620, .slice Ao9 t621.length co9], .slice Ao88 t647.length co88] (by rfl) rfl rfl (by (try simp only [List.map_toArray, List.map_cons, List.map_nil]); rfl) ?_
      with_reducible refine (impl_CostNet.calls k2 t620 _ _ t621 _ _ t647 t650 t651 t654 _ ?side1 ?side2 ?side3 ?side4 A76.out).mono ?_
      (case side1 => repeat (exact (Kd.R_reads' HO_627001.out).2.2))
      (case side2 => exact (Kd.R_reads' HO_627001.out).2.1)
      (case side3 => repeat (exact (Kd.R_reads' HO649.out).2.2))
      (case side4 => exact (Kd.R_reads' HO649.out).2.1)
      rintro e w89 ⟨v652, rfl, ho0, hb⟩
      refine ⟨_, rfl, ?_⟩
      replace HO_6 := ak (Kd.R_below (rk HO_6) hb)
      replace HO645 := ak (Kd.R_below (rk HO645) hb)
      replace HO649 := ak (Kd.R_below (rk HO649) hb)
      have HO653 := ak (Kd.R_lower (Kd.R_new' ho0 (Kd.R_lt (rk HO_627001))) (below_size (bl2 HB GE626 GE655)))
      replace HO_627001 := ak (Kd.R_elder' (rk HO_627001) (Kd.R_base ho0) hb)
      replace BK626 := ak (blk_below (bk BK626) hb)
      replace BK655 := ak (blk_below (bk BK655) hb)
      replace HB := ak (below_step (bl2 HB GE626 GE655) hb)
      (try clear hb)
      (try clear hb2)
      (try clear hk)
      (try clear hi)
      (try clear ho0)
      refine hK.out _ _ ⟨(blk_cell BK626.out 0).trans rfl, (blk_cell BK626.out 1).trans rfl⟩ (fun hHeld => ?_)
      clear hK K
      refine norm_ (a' := ?_) ?_ ?_
      rotate_left
      ·show Act.put _ (some 105) _ = _
       simp only [SX]
       rfl
      refine pu 4 101 ?_ (ms 10 159) rfl rfl HT_ (by kernel_rfl) (fun _ _ _ h => h) (by rfl) ?_ ?_ ?_ ?_
      rotate_left
      ·intro w'
       go_simp
       with_reducible rfl
      rotate_left
      ·simp only [SX]
       rfl
      refine pu 5 106 ?_ (ms 10 191) rfl rfl HT_ (by kernel_rfl) (fun _ _ _ h => h) (by rfl) ?_ ?_ ?_ ?_
      rotate_left
      ·intro w'
       go_simp
       with_reducible rfl
      rotate_left
      ·simp only [SX]
       rfl
      refine pu 6 107 ?_ (ms 10 255) rfl rfl HT_ (by kernel_rfl) (fun _ _ _ h => h) (by rfl) ?_ ?_ ?_ ?_
      rotate_left
      ·intro w'
       go_simp
       with_reducible rfl
      rotate_left
      ·simp only [SX]
       rfl
      exact norm_ (by simp only [putAll, Act.put, List.setIfInBounds_toArray, List.set_cons_zero, List.set_cons_succ]) (hCont (.slice Ao88 t647.length co88, v652, gb655) _ ⟨hHeld, (by exact Kd.R_mono HO645.out (fun _ hk => hk.2)), (by exact Kd.R_mono HO649.out (fun _ hk => hk.2)), (by exact Kd.R_mono HO653.out (fun _ hk => hk.2)), (rk HO_6), (by exact Kd.R_mono HO_627001.out (fun _ hk => hk.2)), (bk BK626), (bk BK655), GW655.out, GE655.out, NB626_655.out, NB655_626.out, (bl2 HB GE626 GE655)⟩)
     skip
     refine goes_ Try.func37 (by kernel_rfl) rfl #[.agg #[.int .i64 t620, .slice Ao9 t621.length co9], .int .i64 0, .int .i64 100] (by rfl) rfl rfl (by (try simp only [List.map_toArray, List.map_cons, List.map_nil]); rfl) ?_
     with_reducible refine (impl_CostOf.calls k2 t620 _ _ t621 0 100 t647 _ ?side1 ?side2 A75.out).mono ?_
     (case side1 => repeat (exact (Kd.R_reads' HO_627001.out).2.2))
     (case side2 => exact (Kd.R_reads' HO_627001.out).2.1)
     rintro e w86 ⟨v648, rfl, ho0, hb⟩
     refine ⟨_, rfl, ?_⟩
     replace HO_6 := ak (Kd.R_below (rk HO_6) hb)
     replace HO_627001 := ak (Kd.R_below (rk HO_627001) hb)
     have HO649 := ak (Kd.R_lower (Kd.R_new' ho0 (Kd.R_lt (rk HO645))) (below_size (bl1 HB GE626)))
     replace HO645 := ak (Kd.R_elder' (rk HO645) (Kd.R_base ho0) hb)
     replace BK626 := ak (blk_below (bk BK626) hb)
     replace HB := ak (below_step (bl1 HB GE626) hb)
     (try clear hb)
     (try clear hb2)
     (try clear hk)
     (try clear hi)
     (try clear ho0)
     obtain ⟨Ao87, co87, eo87⟩ := Kd.R_slice HO649.out
     (subst eo87)
     refine hK.out _ _ ⟨(blk_cell BK626.out 0).trans rfl, (blk_cell BK626.out 1).trans rfl⟩ (fun hHeld => ?_)
     clear hK K
     refine norm_ (a' := ?_) ?_ ?_
     rotate_left
     ·show Act.put _ (some 104) _ = _
      simp only [SX]
      rfl
     refine two_ (i := 3) (j := 7) (Ni := some 105) (Nj := some 9) (ms 10 15) (ms 10 135) rfl rfl rfl rfl (two_of HT_.out (by kernel_rfl)) (by decide) (by decide) (fun K hK => ?_) (fun K hK => ?_)
     ·skip
      refine goes_ Try.func36 (by kernel_rfl) rfl #[.agg #[.int .i64 t620, .slice Ao9 t621.length co9], .slice Ao87 t647.length co87] (by rfl) rfl rfl (by (try simp only [List.map_toArray, List.map_cons, List.map_nil]); rfl) ?_
      with_reducible refine (impl_CostNet.calls k2 t620 _ _ t621 _ _ t647 t650 t651 t654 _ ?side1 ?side2 ?side3 ?side4 A76.out).mono ?_
      (case side1 => repeat (exact (Kd.R_reads' HO_627001.out).2.2))
      (case side2 => exact (Kd.R_reads' HO_627001.out).2.1)
      (case side3 => repeat (exact (Kd.R_reads' HO649.out).2.2))
      (case side4 => exact (Kd.R_reads' HO649.out).2.1)
      rintro e w88 ⟨v652, rfl, ho0, hb⟩
      refine ⟨_, rfl, ?_⟩
      replace HO_6 := ak (Kd.R_below (rk HO_6) hb)
      replace HO645 := ak (Kd.R_below (rk HO645) hb)
      replace HO649 := ak (Kd.R_below (rk HO649) hb)
      have HO653 := ak (Kd.R_lower (Kd.R_new' ho0 (Kd.R_lt (rk HO_627001))) (below_size (bl1 HB GE626)))
      replace HO_627001 := ak (Kd.R_elder' (rk HO_627001) (Kd.R_base ho0) hb)
      replace BK626 := ak (blk_below (bk BK626) hb)
      replace HB := ak (below_step (bl1 HB GE626) hb)
      (try clear hb)
      (try clear hb2)
      (try clear hk)
      (try clear hi)
      (try clear ho0)
      refine hK.out _ _ ⟨(blk_cell BK626.out 0).trans rfl, (blk_cell BK626.out 1).trans rfl⟩ (fun hHeld => ?_)
      clear hK K
      refine norm_ (a' := ?_) ?_ ?_
      rotate_left
      ·show Act.put _ (some 105) _ = _
       simp only [SX]
       rfl
      refine pu 4 101 ?_ (ms 10 31) rfl rfl HT_ (by kernel_rfl) (fun _ _ _ h => h) (by rfl) ?_ ?_ ?_ ?_
      rotate_left
      ·intro w'
       go_simp
       with_reducible rfl
      rotate_left
      ·simp only [SX]
       rfl
      refine pu 5 106 ?_ (ms 10 63) rfl rfl HT_ (by kernel_rfl) (fun _ _ _ h => h) (by rfl) ?_ ?_ ?_ ?_
      rotate_left
      ·intro w'
       go_simp
       with_reducible rfl
      rotate_left
      ·simp only [SX]
       rfl
      refine pu 6 107 ?_ (ms 10 127) rfl rfl HT_ (by kernel_rfl) (fun _ _ _ h => h) (by rfl) ?_ ?_ ?_ ?_
      rotate_left
      ·intro w'
       go_simp
       with_reducible rfl
      rotate_left
      ·simp only [SX]
       rfl
      refine one_ (i := 7) (N := some 9) (ms 10 255) rfl rfl (one_of HT_.out (by kernel_rfl)) (by decide) (fun K hK => ?_)
      refine box_step ?hg (N := 9) ?hd (cs := #[.int .i64 0, .slice none 0 0]) (t := 25) ?hr ?_; (case hd => rfl); (case hg => rfl); (case hr => (go_simp; done))
      intro gb655 hg w89 hbox hb
      replace HO_6 := ak (Kd.R_below (rk HO_6) hb)
      replace HO_627001 := ak (Kd.R_below (rk HO_627001) hb)
      replace HO645 := ak (Kd.R_below (rk HO645) hb)
      replace HO649 := ak (Kd.R_below (rk HO649) hb)
      replace HO653 := ak (Kd.R_below (rk HO653) hb)
      have BK655 := ak (hbox)
      have GW655 := ak ((by rw [hg]; exact (below_size (bl1 HB GE626)) : w.heap.size ≤ gb655))
      have GE655 := ak ((by rw [hg]; exact (below_size (bl1 HB GE626)) : w.heap.size ≤ gb655))
      replace HB := ak (below_step (bl1 HB GE626) hb)
      have NB626_655 := ak ((by rw [hg]; exact Nat.ne_of_lt (blk_lt (bk BK626)) : gb626 ≠ gb655))
      have NB655_626 := ak ((by rw [hg]; exact Nat.ne_of_gt (blk_lt (bk BK626)) : gb655 ≠ gb626))
      replace BK626 := ak (blk_below (bk BK626) hb)
      clear hb hbox hg
      refine hK.out _ _ ⟨(blk_cell BK626.out 0).trans rfl, (blk_cell BK626.out 1).trans rfl⟩ (fun hHeld => ?_)
      clear hK K
      refine norm_ (a' := ?_) ?_ ?_
      rotate_left
      ·show Act.put _ (some 9) _ = _
       simp only [SX]
       rfl
      exact norm_ (by simp only [putAll, Act.put, List.setIfInBounds_toArray, List.set_cons_zero, List.set_cons_succ]) (hCont (.slice Ao87 t647.length co87, v652, gb655) _ ⟨hHeld, (by exact Kd.R_mono HO645.out (fun _ hk => hk.2)), (by exact Kd.R_mono HO649.out (fun _ hk => hk.2)), (by exact Kd.R_mono HO653.out (fun _ hk => hk.2)), (rk HO_6), (by exact Kd.R_mono HO_627001.out (fun _ hk => hk.2)), (bk BK626), (bk BK655), GW655.out, GE655.out, NB626_655.out, NB655_626.out, (bl2 HB GE626 GE655)⟩)
     skip
     refine box_step ?hg (N := 9) ?hd (cs := #[.int .i64 0, .slice none 0 0]) (t := 25) ?hr ?_; (case hd => rfl); (case hg => rfl); (case hr => (go_simp; done))
     intro gb655 hg w87 hbox hb
     replace HO_6 := ak (Kd.R_below (rk HO_6) hb)
     replace HO_627001 := ak (Kd.R_below (rk HO_627001) hb)
     replace HO645 := ak (Kd.R_below (rk HO645) hb)
     replace HO649 := ak (Kd.R_below (rk HO649) hb)
     have BK655 := ak (hbox)
     have GW655 := ak ((by rw [hg]; exact (below_size (bl1 HB GE626)) : w.heap.size ≤ gb655))
     have GE655 := ak ((by rw [hg]; exact (below_size (bl1 HB GE626)) : w.heap.size ≤ gb655))
     replace HB := ak (below_step (bl1 HB GE626) hb)
     have NB626_655 := ak ((by rw [hg]; exact Nat.ne_of_lt (blk_lt (bk BK626)) : gb626 ≠ gb655))
     have NB655_626 := ak ((by rw [hg]; exact Nat.ne_of_gt (blk_lt (bk BK626)) : gb655 ≠ gb626))
     replace BK626 := ak (blk_below (bk BK626) hb)
     clear hb hbox hg
     obtain ⟨Ao88, co88, eo88⟩ := Kd.R_slice HO649.out
     ((injection eo88 with f1_ f2_ f3_; have f4_ := f1_.symm; have f5_ := f3_.symm; clear f1_ f2_ f3_; subst f4_; subst f5_))
     refine hK.out _ _ ⟨(blk_cell BK626.out 0).trans rfl, (blk_cell BK626.out 1).trans rfl⟩ (fun hHeld => ?_)
     clear hK K
     refine norm_ (a' := ?_) ?_ ?_
     rotate_left
     ·show Act.put _ (some 9) _ = _
      simp only [SX]
      rfl
     refine one_ (i := 3) (N := some 105) (ms 10 143) rfl rfl (one_of HT_.out (by kernel_rfl)) (by decide) (fun K hK => ?_)
     refine goes_ Try.func36 (by kernel_rfl) rfl #[.agg #[.int .i64 t620, .slice Ao9 t621.length co9], .slice Ao88 t647.length co88] (by rfl) rfl rfl (by (try simp only [List.map_toArray, List.map_cons, List.map_nil]); rfl) ?_
     with_reducible refine (impl_CostNet.calls k2 t620 _ _ t621 _ _ t647 t650 t651 t654 _ ?side1 ?side2 ?side3 ?side4 A76.out).mono ?_
     (case side1 => repeat (exact (Kd.R_reads' HO_627001.out).2.2))
     (case side2 => exact (Kd.R_reads' HO_627001.out).2.1)
     (case side3 => repeat (exact (Kd.R_reads' HO649.out).2.2))
     (case side4 => exact (Kd.R_reads' HO649.out).2.1)
     rintro e w89 ⟨v652, rfl, ho0, hb⟩
     refine ⟨_, rfl, ?_⟩
     replace HO_6 := ak (Kd.R_below (rk HO_6) hb)
     replace HO645 := ak (Kd.R_below (rk HO645) hb)
     replace HO649 := ak (Kd.R_below (rk HO649) hb)
     have HO653 := ak (Kd.R_lower (Kd.R_new' ho0 (Kd.R_lt (rk HO_627001))) (below_size (bl2 HB GE626 GE655)))
     replace HO_627001 := ak (Kd.R_elder' (rk HO_627001) (Kd.R_base ho0) hb)
     replace BK626 := ak (blk_below (bk BK626) hb)
     replace BK655 := ak (blk_below (bk BK655) hb)
     replace HB := ak (below_step (bl2 HB GE626 GE655) hb)
     (try clear hb)
     (try clear hb2)
     (try clear hk)
     (try clear hi)
     (try clear ho0)
     refine hK.out _ _ ⟨(blk_cell BK626.out 0).trans rfl, (blk_cell BK626.out 1).trans rfl⟩ (fun hHeld => ?_)
     clear hK K
     refine norm_ (a' := ?_) ?_ ?_
     rotate_left
     ·show Act.put _ (some 105) _ = _
      simp only [SX]
      rfl
     refine pu 4 101 ?_ (ms 10 159) rfl rfl HT_ (by kernel_rfl) (fun _ _ _ h => h) (by rfl) ?_ ?_ ?_ ?_
     rotate_left
     ·intro w'
      go_simp
      with_reducible rfl
     rotate_left
     ·simp only [SX]
      rfl
     refine pu 5 106 ?_ (ms 10 191) rfl rfl HT_ (by kernel_rfl) (fun _ _ _ h => h) (by rfl) ?_ ?_ ?_ ?_
     rotate_left
     ·intro w'
      go_simp
      with_reducible rfl
     rotate_left
     ·simp only [SX]
      rfl
     refine pu 6 107 ?_ (ms 10 255) rfl rfl HT_ (by kernel_rfl) (fun _ _ _ h => h) (by rfl) ?_ ?_ ?_ ?_
     rotate_left
     ·intro w'
      go_simp
      with_reducible rfl
     rotate_left
     ·simp only [SX]
      rfl
     exact norm_ (by simp only [putAll, Act.put, List.setIfInBounds_toArray, List.set_cons_zero, List.set_cons_succ]) (hCont (.slice Ao88 t647.length co88, v652, gb655) _ ⟨hHeld, (by exact Kd.R_mono HO645.out (fun _ hk => hk.2)), (by exact Kd.R_mono HO649.out (fun _ hk => hk.2)), (by exact Kd.R_mono HO653.out (fun _ hk => hk.2)), (rk HO_6), (by exact Kd.R_mono HO_627001.out (fun _ hk => hk.2)), (bk BK626), (bk BK655), GW655.out, GE655.out, NB626_655.out, NB655_626.out, (bl2 HB GE626 GE655)⟩)
    rintro ⟨v648, v652, gb655⟩ w90 ⟨hS_, h0_, h1_, h2_, h3_, h4_, h5_, h6_, h7_, h8_, h9_, h10_, h11_⟩
    replace HO645 : Aside0 (Kd.R (Kd.int .i64) 3 w90 w.heap.size (fun k_ => some k_ ≠ (v648 : Value).ownBlock) (.slice (some ad646) t643.length co84) t643) := ⟨h0_⟩
    have HO649 : Aside0 (Kd.R (Kd.int .i64) 3 w90 w.heap.size (fun k_ => some k_ ≠ (.slice (some ad646) t643.length co84 : Value).ownBlock) v648 t647) := ⟨h1_⟩
    have HO653 : Aside0 (Kd.R k33 33 w90 w.heap.size (fun k_ => some k_ ≠ (.slice Ao9 t621.length co9 : Value).ownBlock) v652 t651) := ⟨h2_⟩
    replace HO_6 : Aside0 (Kd.R k35 35 w90 w.heap.size (fun _ => True) (.slice Ao81 t627.length co81) t627) := ⟨h3_⟩
    replace HO_627001 : Aside0 (Kd.R k33 33 w90 w.heap.size (fun k_ => some k_ ≠ (v652 : Value).ownBlock) (.slice Ao9 t621.length co9) t621) := ⟨h4_⟩
    replace BK626 : Aside0 (w90.heap[gb626]? = some (.cells #[.int .i64 t620, .slice Ao9 t621.length co9] 25 (0, 0))) := ⟨h5_⟩
    have BK655 : Aside0 (w90.heap[gb655]? = some (.cells #[.int .i64 0, .slice none 0 0] 25 (0, 0))) := ⟨h6_⟩
    have GW655 : Aside0 (w.heap.size ≤ gb655) := ⟨h7_⟩
    have GE655 : Aside0 (w.heap.size ≤ gb655) := ⟨h8_⟩
    have NB626_655 : Aside0 (gb626 ≠ gb655) := ⟨h9_⟩
    have NB655_626 : Aside0 (gb655 ≠ gb626) := ⟨h10_⟩
    replace HB : Aside0 (Below w.heap.size w w90) := ⟨h11_⟩
    clear h0_ h1_ h2_ h3_ h4_ h5_ h6_ h7_ h8_ h9_ h10_ h11_
    have hHeld : w90.cell? ⟨gb626, 0, none⟩ = some (.int .i64 t620) ∧ w90.cell? ⟨gb626, 1, none⟩ = some (.slice Ao9 t621.length co9) := hS_
    obtain ⟨Ao92, co92, eo92⟩ := Kd.R_slice HO653.out
    (subst eo92)
    refine norm_ (a' := ?_) ?_ ?_
    rotate_left
    ·simp only [putAll, Act.put, List.setIfInBounds_toArray, List.set_cons_zero, List.set_cons_succ]
     rfl
    refine one_ (i := 8) (N := none) (ms 10 511) rfl rfl (one_of HT_.out (by kernel_rfl)) (by decide) (fun K hK => ?_)
    have hs91 : w90.cell? ⟨gb655, 0, none⟩ = some (.int .i64 0) := (blk_cell BK655.out 0).trans rfl
    have hfs91 := blk_frozen BK655.out 0
    have hns91_0 := NB626_655.out
    have hms91_0 := NB655_626.out
    have hs93 : w90.cell? ⟨gb655, 1, none⟩ = some (.slice none 0 0) := (blk_cell BK655.out 1).trans rfl
    have hfs93 := blk_frozen BK655.out 1
    have hns93_0 := NB626_655.out
    have hms93_0 := NB655_626.out
    refine skip_ (w1 := ?_) (by rfl) rfl ?_ ?_
    rotate_left
    ·go_simp
     rfl
    refine hK.out _ _ ⟨((cell_far (p := ⟨gb655, _, none⟩) NB626_655.out _).trans (((cell_far (p := ⟨gb655, _, none⟩) NB626_655.out _).trans (hHeld.1)))), ((cell_far (p := ⟨gb655, _, none⟩) NB626_655.out _).trans (((cell_far (p := ⟨gb655, _, none⟩) NB626_655.out _).trans (hHeld.2))))⟩ (fun hHeld => ?_)
    clear hK K
    refine pu 9 10 ?_ (ms 10 1023) rfl rfl HT_ (by kernel_rfl) (fun _ _ _ h => h) (by rfl) ?_ ?_ ?_ ?_
    rotate_left
    ·intro w'
     go_simp
     with_reducible rfl
    rotate_left
    ·simp only [SX]
     rfl
    refine done_ (done_of HT_.out (by kernel_rfl)) ?_
    have hnb94 := NB655_626.out
    have hnc94 := NB626_655.out
    have hcz95_0 := bc w90 BK655 0 (.int .i64 0) rfl
    have hcz95_1 := bc w90 BK655 1 (.slice none 0 0) rfl
    have hfz95_0 := fz BK655 0
    have hfz95_1 := fz BK655 1
    try go_wp2_with (((with_reducible refine gate_callee (f := 31) rfl ?_); refine goesL_ (some 110) rfl rfl Try.func31 (by kernel_rfl) rfl #[.agg #[.int .i64 t650, .slice Ao92 t651.length co92], .int .i64 t624] rfl (by (try simp only [List.map_toArray, List.map_cons, List.map_nil]); rfl) ?_; (with_reducible refine (impl_NearAll.calls k2 t650 _ _ t651 t624 t656 _ ?side1 ?side2 A77.out).mono ?_); (case side1 => refine (Kd.R_reads' (e := 33) (base := w.heap.size) (ok := fun k_ => some k_ ≠ (.slice Ao9 t621.length co9 : Value).ownBlock) (n := t651.length) (c := co92) ?_).2.2; exact (by exact (Kd.R_mono (Kd.R_far (p := ⟨gb655, 1, none⟩) (Kd.R_far (p := ⟨gb655, 0, none⟩) (Kd.R_types HO653.out BK655.out (by decide)) (fun _ hk => hk.2) (.int .i64 t650)) (fun _ hk => hk.2) (.slice Ao92 t651.length co92)) (fun _ h_ => h_.1)))); (case side2 => exact (Kd.R_reads' HO653.out).2.1); rintro e w96 ⟨v657, rfl, ho0, hb⟩; refine ⟨_, rfl, ?_⟩; replace HO_6 := ak (Kd.R_below (by exact (Kd.R_mono (Kd.R_far (p := ⟨gb655, 1, none⟩) (Kd.R_far (p := ⟨gb655, 0, none⟩) (Kd.R_types HO_6.out BK655.out (by decide)) (fun _ hk => hk.2) (.int .i64 t650)) (fun _ hk => hk.2) (.slice Ao92 t651.length co92)) (fun _ h_ => h_.1))) hb); replace HO_627001 := ak (Kd.R_below (by exact (Kd.R_mono (Kd.R_far (p := ⟨gb655, 1, none⟩) (Kd.R_far (p := ⟨gb655, 0, none⟩) (Kd.R_types HO_627001.out BK655.out (by decide)) (fun _ hk => hk.2) (.int .i64 t650)) (fun _ hk => hk.2) (.slice Ao92 t651.length co92)) (fun _ h_ => h_.1))) hb); replace HO653 := ak (Kd.R_below (by exact (Kd.R_mono (Kd.R_far (p := ⟨gb655, 1, none⟩) (Kd.R_far (p := ⟨gb655, 0, none⟩) (Kd.R_types HO653.out BK655.out (by decide)) (fun _ hk => hk.2) (.int .i64 t650)) (fun _ hk => hk.2) (.slice Ao92 t651.length co92)) (fun _ h_ => h_.1))) hb); have HO658 := ak (Kd.R_lower (Kd.R_new' (Kd.R_new' ho0 (Kd.R_lt (by exact (Kd.R_mono (Kd.R_far (p := ⟨gb655, 1, none⟩) (Kd.R_far (p := ⟨gb655, 0, none⟩) (Kd.R_types HO645.out BK655.out (by decide)) (fun _ hk => hk.2) (.int .i64 t650)) (fun _ hk => hk.2) (.slice Ao92 t651.length co92)) (fun _ h_ => h_.1))))) (Kd.R_lt (by exact (Kd.R_mono (Kd.R_far (p := ⟨gb655, 1, none⟩) (Kd.R_far (p := ⟨gb655, 0, none⟩) (Kd.R_types HO649.out BK655.out (by decide)) (fun _ hk => hk.2) (.int .i64 t650)) (fun _ hk => hk.2) (.slice Ao92 t651.length co92)) (fun _ h_ => h_.1))))) (below_size (bl2 HB GE626 GE655))); replace HO645 := ak (Kd.R_elder' (by exact (Kd.R_mono (Kd.R_far (p := ⟨gb655, 1, none⟩) (Kd.R_far (p := ⟨gb655, 0, none⟩) (Kd.R_types HO645.out BK655.out (by decide)) (fun _ hk => hk.2) (.int .i64 t650)) (fun _ hk => hk.2) (.slice Ao92 t651.length co92)) (fun _ h_ => h_.1))) (Kd.R_base ho0) hb); replace HO649 := ak (Kd.R_elder' (by exact (Kd.R_mono (Kd.R_far (p := ⟨gb655, 1, none⟩) (Kd.R_far (p := ⟨gb655, 0, none⟩) (Kd.R_types HO649.out BK655.out (by decide)) (fun _ hk => hk.2) (.int .i64 t650)) (fun _ hk => hk.2) (.slice Ao92 t651.length co92)) (fun _ h_ => h_.1))) (Kd.R_base ho0) hb); replace BK626 := ak (blk_below (g := gb626) (o := .cells #[.int .i64 t620, .slice Ao9 t621.length co9] 25 (0, 0)) (by refine blk_far ?_ NB626_655.out _; refine blk_far ?_ NB626_655.out _; exact BK626.out) hb); replace BK655 := ak (blk_below (g := gb655) (o := .cells #[.int .i64 t650, .slice Ao92 t651.length co92] 25 (0, 0)) (by refine blk_put (cs := #[.int .i64 t650, .slice none 0 0]) ?_ 1 _ rfl; refine blk_put (cs := #[.int .i64 0, .slice none 0 0]) ?_ 0 _ rfl; exact BK655.out) hb); replace HB := ak (below_step (bl2 HB GE626 GE655) hb); (try clear hb); (try clear hb2); (try clear hk); (try clear hi); (try clear ho0); obtain ⟨Ao97, co97, eo97⟩ := Kd.R_slice HO658.out; subst eo97; have p659 : 0 ≤ (t625 : Int) := oT (by (with_reducible assumption)); have q659 : t625 < (t656.length : Int) := oT (by (with_reducible assumption)); obtain ⟨ad659, e659, hx659_0⟩ := Kd.at_int (Kd.R_reads' HO658.out).2.2 t625 p659 q659; cases e659; replace p659 := eq_true p659; replace q659 := eq_true q659))
    go_ret
    exact ⟨by (simp [*, errW_none, errW_some] <;> rfl), bl2 HB GE626 GE655⟩
   rw [if_neg c79] at H
   have c79b0 : ((t627.length : Int) == 0) = false := beq_eq_false_iff_ne.mpr c79
   have c79b1 : ((t627.length : Int) != 0) = true := bne_iff_ne.mpr c79
   have c79b2 : ¬ (t627 = []) := fun h_ => c79 (by rw [h_]; rfl)
   by_cases c98 : 0 < (t627.length : Int)
   rotate_left
   ·rw [if_neg c98] at H
    exact absurd H (by simp)
   rw [if_pos c98] at H
   have c98b0 : decide (0 < (t627.length : Int)) = true := decide_eq_true c98
   have c98b1 : decide (0 < t627.length) = true := decide_eq_true (by omega)
   clear c98
   by_cases c99 : ((rd_T35 t627 0).f0) = (rd t643 t625)
   rotate_left
   ·rw [if_neg c99] at H
    have c99b0 : (((rd_T35 t627 0).f0) == (rd t643 t625)) = false := beq_eq_false_iff_ne.mpr c99
    have c99b1 : (((rd_T35 t627 0).f0) != (rd t643 t625)) = true := bne_iff_ne.mpr c99
    exact absurd ((Option.some.inj H).trans hr_) Bool.false_ne_true
   rw [if_pos c99] at H
   have c99b0 : (((rd_T35 t627 0).f0) == (rd t643 t625)) = true := beq_iff_eq.mpr c99
   have c99b1 : (((rd_T35 t627 0).f0) != (rd t643 t625)) = false := bne_eq_false_iff_eq.mpr c99
   clear c99
   obtain ⟨ji100, hji100⟩ : ∃ j_ : Int, (wrap64 ((t627.length : Int) - 1)) = j_ := ⟨_, rfl⟩
   replace H : (if 0 ≤ (ji100) then (if (ji100) < (t627.length : Int) then (some (((rd_T35 t627 (ji100)).f1) == (rd t656 t625))) else (none)) else (none)) = some r := by (rw [hji100] at H; exact H)
   (try rw [hji100] at A72)
   (try rw [hji100] at A75)
   (try rw [hji100] at A76)
   (try rw [hji100] at A77)
   have hji100w : (IntKind.i64.wrap ((t627.length : Int) - 1)) = ji100 := (i64_w _).trans hji100
   by_cases c101 : 0 ≤ (ji100)
   rotate_left
   ·rw [if_neg c101] at H
    exact absurd H (by simp)
   rw [if_pos c101] at H
   have c101b0 : decide (0 ≤ (ji100)) = true := decide_eq_true c101
   clear c101
   by_cases c102 : (ji100) < (t627.length : Int)
   rotate_left
   ·rw [if_neg c102] at H
    exact absurd H (by simp)
   rw [if_pos c102] at H
   have c102b0 : decide ((ji100) < (t627.length : Int)) = true := decide_eq_true c102
   clear c102
   obtain rfl := Option.some.inj H
   obtain ⟨Ao103, co103, eo103⟩ := Kd.R_slice HO_6.out
   subst eo103
   have hcz104_0 := bc wr BK626 0 (.int .i64 t620) rfl
   have hcz104_1 := bc wr BK626 1 (.slice Ao9 t621.length co9) rfl
   have hfz104_0 := fz BK626 0
   have hfz104_1 := fz BK626 1
   try go_wp2_with (((with_reducible refine gate_callee (f := 31) rfl ?_); refine goesL_ (some 97) rfl rfl Try.func31 (by kernel_rfl) rfl #[.agg #[.int .i64 t620, .slice Ao9 t621.length co9], .int .i64 t624] rfl (by (try simp only [List.map_toArray, List.map_cons, List.map_nil]); rfl) ?_; (with_reducible refine (impl_NearAll.calls k2 t620 _ _ t621 t624 t643 _ ?side1 ?side2 A72.out).mono ?_); (case side1 => repeat (exact (Kd.R_reads' HO_627001.out).2.2)); (case side2 => exact (Kd.R_reads' HO_627001.out).2.1); rintro e w105 ⟨v644, rfl, ho0, hb⟩; refine ⟨_, rfl, ?_⟩; replace HO_6 := ak (Kd.R_below (rk HO_6) hb); replace HO_627001 := ak (Kd.R_below (rk HO_627001) hb); have HO645 := ak (Kd.R_lower ho0 (below_size (bl1 HB GE626))); replace BK626 := ak (blk_below (bk BK626) hb); replace HB := ak (below_step (bl1 HB GE626) hb); (try clear hb); (try clear hb2); (try clear hk); (try clear hi); (try clear ho0); obtain ⟨Ao106, co106, eo106⟩ := Kd.R_slice HO645.out; subst eo106; have p646 : 0 ≤ (t625 : Int) := oT (by (with_reducible assumption)); have q646 : t625 < (t643.length : Int) := oT (by (with_reducible assumption)); obtain ⟨ad646, e646, hx646_0⟩ := Kd.at_int (Kd.R_reads' HO645.out).2.2 t625 p646 q646; cases e646; replace p646 := eq_true p646; replace q646 := eq_true q646))
   replace HO_6 := ak (Kd.R_drew HO_6.out)
   replace HO_627001 := ak (Kd.R_drew HO_627001.out)
   replace HO645 := ak (Kd.R_drew HO645.out)
   replace BK626 := ak (blk_drew BK626.out)
   replace HB := ak (below_drew1 HB.out)
   refine start_ (n := 10) (S := fun w' => w'.cell? ⟨gb626, 0, none⟩ = some (.int .i64 t620) ∧ w'.cell? ⟨gb626, 1, none⟩ = some (.slice Ao9 t621.length co9)) (ds := []) (ms 10 0) (by kernel_rfl) rfl (by kernel_rfl) ⟨(blk_cell BK626.out 0).trans rfl, (blk_cell BK626.out 1).trans rfl⟩ (fun hHeld => ?_); refine with_tabW laws_FnPairAll.tab13 laws_FnPairAll.bits13 (fun HT_ HW_ => ?_)
   generalize w105.drew = w107 at HO_6 HO_627001 HO645 BK626 HB hHeld ⊢
   refine tk 0 102 ?_ (ms 10 1) rfl rfl HT_ HW_ (by kernel_rfl) (fun _ _ _ h => h) (by rfl) ?_ hHeld ?_ ?_ ?_
   rotate_left
   ·rintro w' ⟨s0, s1⟩
    go_simp
    with_reducible rfl
   rotate_left
   ·simp only [SX]
    rfl
   refine tk 1 103 ?_ (ms 10 3) rfl rfl HT_ HW_ (by kernel_rfl) (fun _ _ _ h => h) (by rfl) ?_ hHeld ?_ ?_ ?_
   rotate_left
   ·rintro w' ⟨s0, s1⟩
    go_simp
    with_reducible rfl
   rotate_left
   ·simp only [SX]
    rfl
   refine join_ (σ := Value × Value × Nat) 2 (ms 10 255) (fun s_ => [(104, s_.1), (105, .tuple #[.agg #[.int .i64 t650, s_.2.1], .bool t654]), (9, .pointer (some ⟨s_.2.2, 0, none⟩)), (101, .tuple #[.agg #[.int .i64 t650, s_.2.1], .bool t654]), (106, .agg #[.int .i64 t650, s_.2.1]), (107, .bool t654)]) (fun s_ w' => (w'.cell? ⟨gb626, 0, none⟩ = some (.int .i64 t620) ∧ w'.cell? ⟨gb626, 1, none⟩ = some (.slice Ao9 t621.length co9)) ∧ (Kd.R (Kd.int .i64) 3 w' w.heap.size (fun k_ => some k_ ≠ (s_.1 : Value).ownBlock) (.slice (some ad646) t643.length co106) t643) ∧ (Kd.R (Kd.int .i64) 3 w' w.heap.size (fun k_ => some k_ ≠ (.slice (some ad646) t643.length co106 : Value).ownBlock) s_.1 t647) ∧ (Kd.R k33 33 w' w.heap.size (fun k_ => some k_ ≠ (.slice Ao9 t621.length co9 : Value).ownBlock) s_.2.1 t651) ∧ (Kd.R k35 35 w' w.heap.size (fun _ => True) (.slice Ao103 t627.length co103) t627) ∧ (Kd.R k33 33 w' w.heap.size (fun k_ => some k_ ≠ (s_.2.1 : Value).ownBlock) (.slice Ao9 t621.length co9) t621) ∧ (w'.heap[gb626]? = some (.cells #[.int .i64 t620, .slice Ao9 t621.length co9] 25 (0, 0))) ∧ (w'.heap[s_.2.2]? = some (.cells #[.int .i64 0, .slice none 0 0] 25 (0, 0))) ∧ (w.heap.size ≤ s_.2.2) ∧ (w.heap.size ≤ s_.2.2) ∧ (gb626 ≠ s_.2.2) ∧ (s_.2.2 ≠ gb626) ∧ (Below w.heap.size w w')) ?_ ?_
   rotate_left
   ·intro hCont
    refine two_ (i := 2) (j := 7) (Ni := some 104) (Nj := some 9) (ms 10 7) (ms 10 131) rfl rfl rfl rfl (two_of HT_.out (by kernel_rfl)) (by decide) (by decide) (fun K hK => ?_) (fun K hK => ?_)
    rotate_left
    ·skip
     refine box_step ?hg (N := 9) ?hd (cs := #[.int .i64 0, .slice none 0 0]) (t := 25) ?hr ?_; (case hd => rfl); (case hg => rfl); (case hr => (go_simp; done))
     intro gb655 hg w108 hbox hb
     replace HO_6 := ak (Kd.R_below (rk HO_6) hb)
     replace HO_627001 := ak (Kd.R_below (rk HO_627001) hb)
     replace HO645 := ak (Kd.R_below (rk HO645) hb)
     have BK655 := ak (hbox)
     have GW655 := ak ((by rw [hg]; exact (below_size (bl1 HB GE626)) : w.heap.size ≤ gb655))
     have GE655 := ak ((by rw [hg]; exact (below_size (bl1 HB GE626)) : w.heap.size ≤ gb655))
     replace HB := ak (below_step (bl1 HB GE626) hb)
     have NB626_655 := ak ((by rw [hg]; exact Nat.ne_of_lt (blk_lt (bk BK626)) : gb626 ≠ gb655))
     have NB655_626 := ak ((by rw [hg]; exact Nat.ne_of_gt (blk_lt (bk BK626)) : gb655 ≠ gb626))
     replace BK626 := ak (blk_below (bk BK626) hb)
     clear hb hbox hg
     refine hK.out _ _ ⟨(blk_cell BK626.out 0).trans rfl, (blk_cell BK626.out 1).trans rfl⟩ (fun hHeld => ?_)
     clear hK K
     refine norm_ (a' := ?_) ?_ ?_
     rotate_left
     ·show Act.put _ (some 9) _ = _
      simp only [SX]
      rfl
     refine one_ (i := 2) (N := some 104) (ms 10 135) rfl rfl (one_of HT_.out (by kernel_rfl)) (by decide) (fun K hK => ?_)
     refine goes_ Try.func37 (by kernel_rfl) rfl #[.agg #[.int .i64 t620, .slice Ao9 t621.length co9], .int .i64 0, .int .i64 100] (by rfl) rfl rfl (by (try simp only [List.map_toArray, List.map_cons, List.map_nil]); rfl) ?_
     with_reducible refine (impl_CostOf.calls k2 t620 _ _ t621 0 100 t647 _ ?side1 ?side2 A75.out).mono ?_
     (case side1 => repeat (exact (Kd.R_reads' HO_627001.out).2.2))
     (case side2 => exact (Kd.R_reads' HO_627001.out).2.1)
     rintro e w109 ⟨v648, rfl, ho0, hb⟩
     refine ⟨_, rfl, ?_⟩
     replace HO_6 := ak (Kd.R_below (rk HO_6) hb)
     replace HO_627001 := ak (Kd.R_below (rk HO_627001) hb)
     have HO649 := ak (Kd.R_lower (Kd.R_new' ho0 (Kd.R_lt (rk HO645))) (below_size (bl2 HB GE626 GE655)))
     replace HO645 := ak (Kd.R_elder' (rk HO645) (Kd.R_base ho0) hb)
     replace BK626 := ak (blk_below (bk BK626) hb)
     replace BK655 := ak (blk_below (bk BK655) hb)
     replace HB := ak (below_step (bl2 HB GE626 GE655) hb)
     (try clear hb)
     (try clear hb2)
     (try clear hk)
     (try clear hi)
     (try clear ho0)
     obtain ⟨Ao110, co110, eo110⟩ := Kd.R_slice HO649.out
     (subst eo110)
     refine hK.out _ _ ⟨(blk_cell BK626.out 0).trans rfl, (blk_cell BK626.out 1).trans rfl⟩ (fun hHeld => ?_)
     clear hK K
     refine norm_ (a' := ?_) ?_ ?_
     rotate_left
     ·show Act.put _ (some 104) _ = _
      simp only [SX]
      rfl
     refine one_ (i := 3) (N := some 105) (ms 10 143) rfl rfl (one_of HT_.out (by kernel_rfl)) (by decide) (fun K hK => ?_)
     refine goes_ Try.func36 (by kernel_rfl) rfl #[.agg #[.int .i64 t620, .slice Ao9 t621.length co9], .slice Ao110 t647.length co110] (by rfl) rfl rfl (by (try simp only [List.map_toArray, List.map_cons, List.map_nil]); rfl) ?_
     with_reducible refine (impl_CostNet.calls k2 t620 _ _ t621 _ _ t647 t650 t651 t654 _ ?side1 ?side2 ?side3 ?side4 A76.out).mono ?_
     (case side1 => repeat (exact (Kd.R_reads' HO_627001.out).2.2))
     (case side2 => exact (Kd.R_reads' HO_627001.out).2.1)
     (case side3 => repeat (exact (Kd.R_reads' HO649.out).2.2))
     (case side4 => exact (Kd.R_reads' HO649.out).2.1)
     rintro e w111 ⟨v652, rfl, ho0, hb⟩
     refine ⟨_, rfl, ?_⟩
     replace HO_6 := ak (Kd.R_below (rk HO_6) hb)
     replace HO645 := ak (Kd.R_below (rk HO645) hb)
     replace HO649 := ak (Kd.R_below (rk HO649) hb)
     have HO653 := ak (Kd.R_lower (Kd.R_new' ho0 (Kd.R_lt (rk HO_627001))) (below_size (bl2 HB GE626 GE655)))
     replace HO_627001 := ak (Kd.R_elder' (rk HO_627001) (Kd.R_base ho0) hb)
     replace BK626 := ak (blk_below (bk BK626) hb)
     replace BK655 := ak (blk_below (bk BK655) hb)
     replace HB := ak (below_step (bl2 HB GE626 GE655) hb)
     (try clear hb)
     (try clear hb2)
     (try clear hk)
     (try clear hi)
     (try clear ho0)
     refine hK.out _ _ ⟨(blk_cell BK626.out 0).trans rfl, (blk_cell BK626.out 1).trans rfl⟩ (fun hHeld => ?_)
     clear hK K
     refine norm_ (a' := ?_) ?_ ?_
     rotate_left
     ·show Act.put _ (some 105) _ = _
      simp only [SX]
      rfl
     refine pu 4 101 ?_ (ms 10 159) rfl rfl HT_ (by kernel_rfl) (fun _ _ _ h => h) (by rfl) ?_ ?_ ?_ ?_
     rotate_left
     ·intro w'
      go_simp
      with_reducible rfl
     rotate_left
     ·simp only [SX]
      rfl
     refine pu 5 106 ?_ (ms 10 191) rfl rfl HT_ (by kernel_rfl) (fun _ _ _ h => h) (by rfl) ?_ ?_ ?_ ?_
     rotate_left
     ·intro w'
      go_simp
      with_reducible rfl
     rotate_left
     ·simp only [SX]
      rfl
     refine pu 6 107 ?_ (ms 10 255) rfl rfl HT_ (by kernel_rfl) (fun _ _ _ h => h) (by rfl) ?_ ?_ ?_ ?_
     rotate_left
     ·intro w'
      go_simp
      with_reducible rfl
     rotate_left
     ·simp only [SX]
      rfl
     exact norm_ (by simp only [putAll, Act.put, List.setIfInBounds_toArray, List.set_cons_zero, List.set_cons_succ]) (hCont (.slice Ao110 t647.length co110, v652, gb655) _ ⟨hHeld, (by exact Kd.R_mono HO645.out (fun _ hk => hk.2)), (by exact Kd.R_mono HO649.out (fun _ hk => hk.2)), (by exact Kd.R_mono HO653.out (fun _ hk => hk.2)), (rk HO_6), (by exact Kd.R_mono HO_627001.out (fun _ hk => hk.2)), (bk BK626), (bk BK655), GW655.out, GE655.out, NB626_655.out, NB655_626.out, (bl2 HB GE626 GE655)⟩)
    skip
    refine goes_ Try.func37 (by kernel_rfl) rfl #[.agg #[.int .i64 t620, .slice Ao9 t621.length co9], .int .i64 0, .int .i64 100] (by rfl) rfl rfl (by (try simp only [List.map_toArray, List.map_cons, List.map_nil]); rfl) ?_
    with_reducible refine (impl_CostOf.calls k2 t620 _ _ t621 0 100 t647 _ ?side1 ?side2 A75.out).mono ?_
    (case side1 => repeat (exact (Kd.R_reads' HO_627001.out).2.2))
    (case side2 => exact (Kd.R_reads' HO_627001.out).2.1)
    rintro e w108 ⟨v648, rfl, ho0, hb⟩
    refine ⟨_, rfl, ?_⟩
    replace HO_6 := ak (Kd.R_below (rk HO_6) hb)
    replace HO_627001 := ak (Kd.R_below (rk HO_627001) hb)
    have HO649 := ak (Kd.R_lower (Kd.R_new' ho0 (Kd.R_lt (rk HO645))) (below_size (bl1 HB GE626)))
    replace HO645 := ak (Kd.R_elder' (rk HO645) (Kd.R_base ho0) hb)
    replace BK626 := ak (blk_below (bk BK626) hb)
    replace HB := ak (below_step (bl1 HB GE626) hb)
    (try clear hb)
    (try clear hb2)
    (try clear hk)
    (try clear hi)
    (try clear ho0)
    obtain ⟨Ao109, co109, eo109⟩ := Kd.R_slice HO649.out
    (subst eo109)
    refine hK.out _ _ ⟨(blk_cell BK626.out 0).trans rfl, (blk_cell BK626.out 1).trans rfl⟩ (fun hHeld => ?_)
    clear hK K
    refine norm_ (a' := ?_) ?_ ?_
    rotate_left
    ·show Act.put _ (some 104) _ = _
     simp only [SX]
     rfl
    refine two_ (i := 3) (j := 7) (Ni := some 105) (Nj := some 9) (ms 10 15) (ms 10 135) rfl rfl rfl rfl (two_of HT_.out (by kernel_rfl)) (by decide) (by decide) (fun K hK => ?_) (fun K hK => ?_)
    ·skip
     refine goes_ Try.func36 (by kernel_rfl) rfl #[.agg #[.int .i64 t620, .slice Ao9 t621.length co9], .slice Ao109 t647.length co109] (by rfl) rfl rfl (by (try simp only [List.map_toArray, List.map_cons, List.map_nil]); rfl) ?_
     with_reducible refine (impl_CostNet.calls k2 t620 _ _ t621 _ _ t647 t650 t651 t654 _ ?side1 ?side2 ?side3 ?side4 A76.out).mono ?_
     (case side1 => repeat (exact (Kd.R_reads' HO_627001.out).2.2))
     (case side2 => exact (Kd.R_reads' HO_627001.out).2.1)
     (case side3 => repeat (exact (Kd.R_reads' HO649.out).2.2))
     (case side4 => exact (Kd.R_reads' HO649.out).2.1)
     rintro e w110 ⟨v652, rfl, ho0, hb⟩
     refine ⟨_, rfl, ?_⟩
     replace HO_6 := ak (Kd.R_below (rk HO_6) hb)
     replace HO645 := ak (Kd.R_below (rk HO645) hb)
     replace HO649 := ak (Kd.R_below (rk HO649) hb)
     have HO653 := ak (Kd.R_lower (Kd.R_new' ho0 (Kd.R_lt (rk HO_627001))) (below_size (bl1 HB GE626)))
     replace HO_627001 := ak (Kd.R_elder' (rk HO_627001) (Kd.R_base ho0) hb)
     replace BK626 := ak (blk_below (bk BK626) hb)
     replace HB := ak (below_step (bl1 HB GE626) hb)
     (try clear hb)
     (try clear hb2)
     (try clear hk)
     (try clear hi)
     (try clear ho0)
     refine hK.out _ _ ⟨(blk_cell BK626.out 0).trans rfl, (blk_cell BK626.out 1).trans rfl⟩ (fun hHeld => ?_)
     clear hK K
     refine norm_ (a' := ?_) ?_ ?_
     rotate_left
     ·show Act.put _ (some 105) _ = _
      simp only [SX]
      rfl
     refine pu 4 101 ?_ (ms 10 31) rfl rfl HT_ (by kernel_rfl) (fun _ _ _ h => h) (by rfl) ?_ ?_ ?_ ?_
     rotate_left
     ·intro w'
      go_simp
      with_reducible rfl
     rotate_left
     ·simp only [SX]
      rfl
     refine pu 5 106 ?_ (ms 10 63) rfl rfl HT_ (by kernel_rfl) (fun _ _ _ h => h) (by rfl) ?_ ?_ ?_ ?_
     rotate_left
     ·intro w'
      go_simp
      with_reducible rfl
     rotate_left
     ·simp only [SX]
      rfl
     refine pu 6 107 ?_ (ms 10 127) rfl rfl HT_ (by kernel_rfl) (fun _ _ _ h => h) (by rfl) ?_ ?_ ?_ ?_
     rotate_left
     ·intro w'
      go_simp
      with_reducible rfl
     rotate_left
     ·simp only [SX]
      rfl
     refine one_ (i := 7) (N := some 9) (ms 10 255) rfl rfl (one_of HT_.out (by kernel_rfl)) (by decide) (fun K hK => ?_)
     refine box_step ?hg (N := 9) ?hd (cs := #[.int .i64 0, .slice none 0 0]) (t := 25) ?hr ?_; (case hd => rfl); (case hg => rfl); (case hr => (go_simp; done))
     intro gb655 hg w111 hbox hb
     replace HO_6 := ak (Kd.R_below (rk HO_6) hb)
     replace HO_627001 := ak (Kd.R_below (rk HO_627001) hb)
     replace HO645 := ak (Kd.R_below (rk HO645) hb)
     replace HO649 := ak (Kd.R_below (rk HO649) hb)
     replace HO653 := ak (Kd.R_below (rk HO653) hb)
     have BK655 := ak (hbox)
     have GW655 := ak ((by rw [hg]; exact (below_size (bl1 HB GE626)) : w.heap.size ≤ gb655))
     have GE655 := ak ((by rw [hg]; exact (below_size (bl1 HB GE626)) : w.heap.size ≤ gb655))
     replace HB := ak (below_step (bl1 HB GE626) hb)
     have NB626_655 := ak ((by rw [hg]; exact Nat.ne_of_lt (blk_lt (bk BK626)) : gb626 ≠ gb655))
     have NB655_626 := ak ((by rw [hg]; exact Nat.ne_of_gt (blk_lt (bk BK626)) : gb655 ≠ gb626))
     replace BK626 := ak (blk_below (bk BK626) hb)
     clear hb hbox hg
     refine hK.out _ _ ⟨(blk_cell BK626.out 0).trans rfl, (blk_cell BK626.out 1).trans rfl⟩ (fun hHeld => ?_)
     clear hK K
     refine norm_ (a' := ?_) ?_ ?_
     rotate_left
     ·show Act.put _ (some 9) _ = _
      simp only [SX]
      rfl
     exact norm_ (by simp only [putAll, Act.put, List.setIfInBounds_toArray, List.set_cons_zero, List.set_cons_succ]) (hCont (.slice Ao109 t647.length co109, v652, gb655) _ ⟨hHeld, (by exact Kd.R_mono HO645.out (fun _ hk => hk.2)), (by exact Kd.R_mono HO649.out (fun _ hk => hk.2)), (by exact Kd.R_mono HO653.out (fun _ hk => hk.2)), (rk HO_6), (by exact Kd.R_mono HO_627001.out (fun _ hk => hk.2)), (bk BK626), (bk BK655), GW655.out, GE655.out, NB626_655.out, NB655_626.out, (bl2 HB GE626 GE655)⟩)
    skip
    refine box_step ?hg (N := 9) ?hd (cs := #[.int .i64 0, .slice none 0 0]) (t := 25) ?hr ?_; (case hd => rfl); (case hg => rfl); (case hr => (go_simp; done))
    intro gb655 hg w109 hbox hb
    replace HO_6 := ak (Kd.R_below (rk HO_6) hb)
    replace HO_627001 := ak (Kd.R_below (rk HO_627001) hb)
    replace HO645 := ak (Kd.R_below (rk HO645) hb)
    replace HO649 := ak (Kd.R_below (rk HO649) hb)
    have BK655 := ak (hbox)
    have GW655 := ak ((by rw [hg]; exact (below_size (bl1 HB GE626)) : w.heap.size ≤ gb655))
    have GE655 := ak ((by rw [hg]; exact (below_size (bl1 HB GE626)) : w.heap.size ≤ gb655))
    replace HB := ak (below_step (bl1 HB GE626) hb)
    have NB626_655 := ak ((by rw [hg]; exact Nat.ne_of_lt (blk_lt (bk BK626)) : gb626 ≠ gb655))
    have NB655_626 := ak ((by rw [hg]; exact Nat.ne_of_gt (blk_lt (bk BK626)) : gb655 ≠ gb626))
    replace BK626 := ak (blk_below (bk BK626) hb)
    clear hb hbox hg
    obtain ⟨Ao110, co110, eo110⟩ := Kd.R_slice HO649.out
    ((injection eo110 with f1_ f2_ f3_; have f4_ := f1_.symm; have f5_ := f3_.symm; clear f1_ f2_ f3_; subst f4_; subst f5_))
    refine hK.out _ _ ⟨(blk_cell BK626.out 0).trans rfl, (blk_cell BK626.out 1).trans rfl⟩ (fun hHeld => ?_)
    clear hK K
    refine norm_ (a' := ?_) ?_ ?_
    rotate_left
    ·show Act.put _ (some 9) _ = _
     simp only [SX]
     rfl
    refine one_ (i := 3) (N := some 105) (ms 10 143) rfl rfl (one_of HT_.out (by kernel_rfl)) (by decide) (fun K hK => ?_)
    refine goes_ Try.func36 (by kernel_rfl) rfl #[.agg #[.int .i64 t620, .slice Ao9 t621.length co9], .slice Ao110 t647.length co110] (by rfl) rfl rfl (by (try simp only [List.map_toArray, List.map_cons, List.map_nil]); rfl) ?_
    with_reducible refine (impl_CostNet.calls k2 t620 _ _ t621 _ _ t647 t650 t651 t654 _ ?side1 ?side2 ?side3 ?side4 A76.out).mono ?_
    (case side1 => repeat (exact (Kd.R_reads' HO_627001.out).2.2))
    (case side2 => exact (Kd.R_reads' HO_627001.out).2.1)
    (case side3 => repeat (exact (Kd.R_reads' HO649.out).2.2))
    (case side4 => exact (Kd.R_reads' HO649.out).2.1)
    rintro e w111 ⟨v652, rfl, ho0, hb⟩
    refine ⟨_, rfl, ?_⟩
    replace HO_6 := ak (Kd.R_below (rk HO_6) hb)
    replace HO645 := ak (Kd.R_below (rk HO645) hb)
    replace HO649 := ak (Kd.R_below (rk HO649) hb)
    have HO653 := ak (Kd.R_lower (Kd.R_new' ho0 (Kd.R_lt (rk HO_627001))) (below_size (bl2 HB GE626 GE655)))
    replace HO_627001 := ak (Kd.R_elder' (rk HO_627001) (Kd.R_base ho0) hb)
    replace BK626 := ak (blk_below (bk BK626) hb)
    replace BK655 := ak (blk_below (bk BK655) hb)
    replace HB := ak (below_step (bl2 HB GE626 GE655) hb)
    (try clear hb)
    (try clear hb2)
    (try clear hk)
    (try clear hi)
    (try clear ho0)
    refine hK.out _ _ ⟨(blk_cell BK626.out 0).trans rfl, (blk_cell BK626.out 1).trans rfl⟩ (fun hHeld => ?_)
    clear hK K
    refine norm_ (a' := ?_) ?_ ?_
    rotate_left
    ·show Act.put _ (some 105) _ = _
     simp only [SX]
     rfl
    refine pu 4 101 ?_ (ms 10 159) rfl rfl HT_ (by kernel_rfl) (fun _ _ _ h => h) (by rfl) ?_ ?_ ?_ ?_
    rotate_left
    ·intro w'
     go_simp
     with_reducible rfl
    rotate_left
    ·simp only [SX]
     rfl
    refine pu 5 106 ?_ (ms 10 191) rfl rfl HT_ (by kernel_rfl) (fun _ _ _ h => h) (by rfl) ?_ ?_ ?_ ?_
    rotate_left
    ·intro w'
     go_simp
     with_reducible rfl
    rotate_left
    ·simp only [SX]
     rfl
    refine pu 6 107 ?_ (ms 10 255) rfl rfl HT_ (by kernel_rfl) (fun _ _ _ h => h) (by rfl) ?_ ?_ ?_ ?_
    rotate_left
    ·intro w'
     go_simp
     with_reducible rfl
    rotate_left
    ·simp only [SX]
     rfl
    exact norm_ (by simp only [putAll, Act.put, List.setIfInBounds_toArray, List.set_cons_zero, List.set_cons_succ]) (hCont (.slice Ao110 t647.length co110, v652, gb655) _ ⟨hHeld, (by exact Kd.R_mono HO645.out (fun _ hk => hk.2)), (by exact Kd.R_mono HO649.out (fun _ hk => hk.2)), (by exact Kd.R_mono HO653.out (fun _ hk => hk.2)), (rk HO_6), (by exact Kd.R_mono HO_627001.out (fun _ hk => hk.2)), (bk BK626), (bk BK655), GW655.out, GE655.out, NB626_655.out, NB655_626.out, (bl2 HB GE626 GE655)⟩)
   rintro ⟨v648, v652, gb655⟩ w112 ⟨hS_, h0_, h1_, h2_, h3_, h4_, h5_, h6_, h7_, h8_, h9_, h10_, h11_⟩
   replace HO645 : Aside0 (Kd.R (Kd.int .i64) 3 w112 w.heap.size (fun k_ => some k_ ≠ (v648 : Value).ownBlock) (.slice (some ad646) t643.length co106) t643) := ⟨h0_⟩
   have HO649 : Aside0 (Kd.R (Kd.int .i64) 3 w112 w.heap.size (fun k_ => some k_ ≠ (.slice (some ad646) t643.length co106 : Value).ownBlock) v648 t647) := ⟨h1_⟩
   have HO653 : Aside0 (Kd.R k33 33 w112 w.heap.size (fun k_ => some k_ ≠ (.slice Ao9 t621.length co9 : Value).ownBlock) v652 t651) := ⟨h2_⟩
   replace HO_6 : Aside0 (Kd.R k35 35 w112 w.heap.size (fun _ => True) (.slice Ao103 t627.length co103) t627) := ⟨h3_⟩
   replace HO_627001 : Aside0 (Kd.R k33 33 w112 w.heap.size (fun k_ => some k_ ≠ (v652 : Value).ownBlock) (.slice Ao9 t621.length co9) t621) := ⟨h4_⟩
   replace BK626 : Aside0 (w112.heap[gb626]? = some (.cells #[.int .i64 t620, .slice Ao9 t621.length co9] 25 (0, 0))) := ⟨h5_⟩
   have BK655 : Aside0 (w112.heap[gb655]? = some (.cells #[.int .i64 0, .slice none 0 0] 25 (0, 0))) := ⟨h6_⟩
   have GW655 : Aside0 (w.heap.size ≤ gb655) := ⟨h7_⟩
   have GE655 : Aside0 (w.heap.size ≤ gb655) := ⟨h8_⟩
   have NB626_655 : Aside0 (gb626 ≠ gb655) := ⟨h9_⟩
   have NB655_626 : Aside0 (gb655 ≠ gb626) := ⟨h10_⟩
   replace HB : Aside0 (Below w.heap.size w w112) := ⟨h11_⟩
   clear h0_ h1_ h2_ h3_ h4_ h5_ h6_ h7_ h8_ h9_ h10_ h11_
   have hHeld : w112.cell? ⟨gb626, 0, none⟩ = some (.int .i64 t620) ∧ w112.cell? ⟨gb626, 1, none⟩ = some (.slice Ao9 t621.length co9) := hS_
   obtain ⟨Ao114, co114, eo114⟩ := Kd.R_slice HO653.out
   (subst eo114)
   refine norm_ (a' := ?_) ?_ ?_
   rotate_left
   ·simp only [putAll, Act.put, List.setIfInBounds_toArray, List.set_cons_zero, List.set_cons_succ]
    rfl
   refine one_ (i := 8) (N := none) (ms 10 511) rfl rfl (one_of HT_.out (by kernel_rfl)) (by decide) (fun K hK => ?_)
   have hs113 : w112.cell? ⟨gb655, 0, none⟩ = some (.int .i64 0) := (blk_cell BK655.out 0).trans rfl
   have hfs113 := blk_frozen BK655.out 0
   have hns113_0 := NB626_655.out
   have hms113_0 := NB655_626.out
   have hs115 : w112.cell? ⟨gb655, 1, none⟩ = some (.slice none 0 0) := (blk_cell BK655.out 1).trans rfl
   have hfs115 := blk_frozen BK655.out 1
   have hns115_0 := NB626_655.out
   have hms115_0 := NB655_626.out
   refine skip_ (w1 := ?_) (by rfl) rfl ?_ ?_
   rotate_left
   ·go_simp
    rfl
   refine hK.out _ _ ⟨((cell_far (p := ⟨gb655, _, none⟩) NB626_655.out _).trans (((cell_far (p := ⟨gb655, _, none⟩) NB626_655.out _).trans (hHeld.1)))), ((cell_far (p := ⟨gb655, _, none⟩) NB626_655.out _).trans (((cell_far (p := ⟨gb655, _, none⟩) NB626_655.out _).trans (hHeld.2))))⟩ (fun hHeld => ?_)
   clear hK K
   refine pu 9 10 ?_ (ms 10 1023) rfl rfl HT_ (by kernel_rfl) (fun _ _ _ h => h) (by rfl) ?_ ?_ ?_ ?_
   rotate_left
   ·intro w'
    go_simp
    with_reducible rfl
   rotate_left
   ·simp only [SX]
    rfl
   refine done_ (done_of HT_.out (by kernel_rfl)) ?_
   have hnb116 := NB655_626.out
   have hnc116 := NB626_655.out
   have hcz117_0 := bc w112 BK655 0 (.int .i64 0) rfl
   have hcz117_1 := bc w112 BK655 1 (.slice none 0 0) rfl
   have hfz117_0 := fz BK655 0
   have hfz117_1 := fz BK655 1
   try go_wp2_with (((with_reducible refine gate_callee (f := 31) rfl ?_); refine goesL_ (some 110) rfl rfl Try.func31 (by kernel_rfl) rfl #[.agg #[.int .i64 t650, .slice Ao114 t651.length co114], .int .i64 t624] rfl (by (try simp only [List.map_toArray, List.map_cons, List.map_nil]); rfl) ?_; (with_reducible refine (impl_NearAll.calls k2 t650 _ _ t651 t624 t656 _ ?side1 ?side2 A77.out).mono ?_); (case side1 => refine (Kd.R_reads' (e := 33) (base := w.heap.size) (ok := fun k_ => some k_ ≠ (.slice Ao9 t621.length co9 : Value).ownBlock) (n := t651.length) (c := co114) ?_).2.2; exact (by exact (Kd.R_mono (Kd.R_far (p := ⟨gb655, 1, none⟩) (Kd.R_far (p := ⟨gb655, 0, none⟩) (Kd.R_types HO653.out BK655.out (by decide)) (fun _ hk => hk.2) (.int .i64 t650)) (fun _ hk => hk.2) (.slice Ao114 t651.length co114)) (fun _ h_ => h_.1)))); (case side2 => exact (Kd.R_reads' HO653.out).2.1); rintro e w118 ⟨v657, rfl, ho0, hb⟩; refine ⟨_, rfl, ?_⟩; replace HO_6 := ak (Kd.R_below (by exact (Kd.R_mono (Kd.R_far (p := ⟨gb655, 1, none⟩) (Kd.R_far (p := ⟨gb655, 0, none⟩) (Kd.R_types HO_6.out BK655.out (by decide)) (fun _ hk => hk.2) (.int .i64 t650)) (fun _ hk => hk.2) (.slice Ao114 t651.length co114)) (fun _ h_ => h_.1))) hb); replace HO_627001 := ak (Kd.R_below (by exact (Kd.R_mono (Kd.R_far (p := ⟨gb655, 1, none⟩) (Kd.R_far (p := ⟨gb655, 0, none⟩) (Kd.R_types HO_627001.out BK655.out (by decide)) (fun _ hk => hk.2) (.int .i64 t650)) (fun _ hk => hk.2) (.slice Ao114 t651.length co114)) (fun _ h_ => h_.1))) hb); replace HO653 := ak (Kd.R_below (by exact (Kd.R_mono (Kd.R_far (p := ⟨gb655, 1, none⟩) (Kd.R_far (p := ⟨gb655, 0, none⟩) (Kd.R_types HO653.out BK655.out (by decide)) (fun _ hk => hk.2) (.int .i64 t650)) (fun _ hk => hk.2) (.slice Ao114 t651.length co114)) (fun _ h_ => h_.1))) hb); have HO658 := ak (Kd.R_lower (Kd.R_new' (Kd.R_new' ho0 (Kd.R_lt (by exact (Kd.R_mono (Kd.R_far (p := ⟨gb655, 1, none⟩) (Kd.R_far (p := ⟨gb655, 0, none⟩) (Kd.R_types HO645.out BK655.out (by decide)) (fun _ hk => hk.2) (.int .i64 t650)) (fun _ hk => hk.2) (.slice Ao114 t651.length co114)) (fun _ h_ => h_.1))))) (Kd.R_lt (by exact (Kd.R_mono (Kd.R_far (p := ⟨gb655, 1, none⟩) (Kd.R_far (p := ⟨gb655, 0, none⟩) (Kd.R_types HO649.out BK655.out (by decide)) (fun _ hk => hk.2) (.int .i64 t650)) (fun _ hk => hk.2) (.slice Ao114 t651.length co114)) (fun _ h_ => h_.1))))) (below_size (bl2 HB GE626 GE655))); replace HO645 := ak (Kd.R_elder' (by exact (Kd.R_mono (Kd.R_far (p := ⟨gb655, 1, none⟩) (Kd.R_far (p := ⟨gb655, 0, none⟩) (Kd.R_types HO645.out BK655.out (by decide)) (fun _ hk => hk.2) (.int .i64 t650)) (fun _ hk => hk.2) (.slice Ao114 t651.length co114)) (fun _ h_ => h_.1))) (Kd.R_base ho0) hb); replace HO649 := ak (Kd.R_elder' (by exact (Kd.R_mono (Kd.R_far (p := ⟨gb655, 1, none⟩) (Kd.R_far (p := ⟨gb655, 0, none⟩) (Kd.R_types HO649.out BK655.out (by decide)) (fun _ hk => hk.2) (.int .i64 t650)) (fun _ hk => hk.2) (.slice Ao114 t651.length co114)) (fun _ h_ => h_.1))) (Kd.R_base ho0) hb); replace BK626 := ak (blk_below (g := gb626) (o := .cells #[.int .i64 t620, .slice Ao9 t621.length co9] 25 (0, 0)) (by refine blk_far ?_ NB626_655.out _; refine blk_far ?_ NB626_655.out _; exact BK626.out) hb); replace BK655 := ak (blk_below (g := gb655) (o := .cells #[.int .i64 t650, .slice Ao114 t651.length co114] 25 (0, 0)) (by refine blk_put (cs := #[.int .i64 t650, .slice none 0 0]) ?_ 1 _ rfl; refine blk_put (cs := #[.int .i64 0, .slice none 0 0]) ?_ 0 _ rfl; exact BK655.out) hb); replace HB := ak (below_step (bl2 HB GE626 GE655) hb); (try clear hb); (try clear hb2); (try clear hk); (try clear hi); (try clear ho0); obtain ⟨Ao119, co119, eo119⟩ := Kd.R_slice HO658.out; subst eo119; have p659 : 0 ≤ (t625 : Int) := oT (by (with_reducible assumption)); have q659 : t625 < (t656.length : Int) := oT (by (with_reducible assumption)); obtain ⟨ad659, e659, hx659_0⟩ := Kd.at_int (Kd.R_reads' HO658.out).2.2 t625 p659 q659; cases e659; replace p659 := eq_true p659; replace q659 := eq_true q659; have p660 : 0 ≤ (0 : Int) := (by omega); have q660 : 0 < (t627.length : Int) := oT (by (with_reducible assumption)); obtain ⟨ad660, e660, hx660_0, hx660_1⟩ := at_T35 (Kd.R_reads' HO_6.out).2.2 0 p660 q660; cases e660; have qi660 : (0 < t627.length) = True := eq_true (by omega); (try rw [show ((0 : Int)).toNat = 0 from rfl] at hx660_0); (try rw [show 0 * 2 = 0 from rfl] at hx660_0); (try rw [Addr.add_zero'] at hx660_0); (try rw [show ((0 : Int)).toNat = 0 from rfl] at hx660_1); (try rw [show 0 * 2 = 0 from rfl] at hx660_1); (try rw [Addr.add_zero'] at hx660_1); replace p660 := eq_true p660; replace q660 := eq_true q660; have p661 : 0 ≤ ((ji100) : Int) := oT (by (with_reducible assumption)); have q661 : (ji100) < (t627.length : Int) := oT (by (with_reducible assumption)); obtain ⟨ad661, e661, hx661_0, hx661_1⟩ := at_T35 (Kd.R_reads' HO_6.out).2.2 (ji100) p661 q661; obtain rfl : ad660 = ad661 := (by injection e661); replace p661 := eq_true p661; replace q661 := eq_true q661))
   go_ret
   exact ⟨by rfl, bl2 HB GE626 GE655⟩

/-- THE ONE PURE STATEMENT of laws_FnPairAll: yours. -/
def laws_FnPairAll.Pure : Prop := ∀ (l0 : List Int), l0.length ≤ maxLen → l0.length * 1 ≤ 140737488351232 → (∀ x ∈ l0, (Lit.int .u8 x).wf = true) → ∃ k, laws_FnPairAll.f k l0 = some true
theorem laws_FnPairAll.walk (P : laws_FnPairAll.Pure) (a0 : Option Addr) (len0 cap0 : Nat) (z0 : List Int) (w : World) (w0 : (a0 = none ∧ len0 = 0 ∧ cap0 = 0 ∧ z0 = []) ∨ ∃ x, a0 = some x ∧ len0 ≤ cap0 ∧ cap0 ≤ maxLen ∧ z0.length = cap0 ∧ (∀ i, i < z0.length → w.cell? (x.add i) = some (.int .u8 (z0.getD i 0))) ∧ ∀ n ∈ z0, (Lit.int .u8 n).wf = true) (y0 : len0 * 1 ≤ 140737488351232) :
  Calls Try.prog 9 #[.slice a0 len0 cap0] w fun e w' => e = .returned (.bool true) ∧ Below w.heap.size w w' := by
 obtain ⟨l0, rfl, hr0, hm0, hw0, hc0⟩ := ReadsInt.ofRowC w0
 obtain ⟨k, h⟩ := P l0 hm0 y0 hw0
 refine (laws_FnPairAll.calls k _ _ l0 true w (Kd.C_of_reads (d := (0 : Int)) (h1 := fun _ => rfl) hr0) hc0 h rfl).mono ?_
 rintro e w' ⟨rfl, hd⟩
 exact ⟨rfl, hd⟩

end Go.Proofs.Ytddkaiegnohkcaa.F
