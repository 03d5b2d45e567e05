-- Printed by wip/px/px.py of this claim's repository (the kit's printer, extended there). Lean checks it.
import Derived.Test.YtgickejeakmenaaFKinds
import Derived.Test.YtgickejeakmenaaFimplNearAll
import Derived.Test.YtgickejeakmenaaFspecDrawLiveNear
import Derived.Test.YtgickejeakmenaaFimplLiveNear
import Derived.Test.YtgickejeakmenaaFspecLiveNear
import Derived.Test.YtgickejeakmenaaFimplLiveNow
namespace Go.Proofs.Ytgickejeakmenaa.F
open Go.RowKit Go.Proofs.YtgickejeakmenaaW.PrintWords Go.Proofs.YtgickejeakmenaaW.PrintLast Go.Proofs.YtgickejeakmenaaW.PrintMore
attribute [local go_sem] max2_int min2_int max_two min_two max_three min_three max_four min_four   -- for this text's walks alone
set_option linter.unusedVariables false
set_option linter.unusedSimpArgs false

/-! ### laws_FnLiveNear: function 6 -/
def laws_FnLiveNear.j0 : Nat → Int → Int → Int → Bool → Int → List (S41) → List (S113) → Option (Bool)
 | 0, _, _, _, _, _, _, _ => none
 | k + 1, x4, x5, x6, x29, x861000, x861001, x861002 => if x29 = true then ((spec_LiveNear.f k x861000 x861001 x861002 x4 x5).bind fun t863 => (some (x6 == t863))) else ((impl_LiveNow.f k x861000 x861001 x861002).bind fun bt864 => ((impl_NearAll.f k bt864.1 bt864.2 x4).bind fun t868 => (if 0 ≤ x5 then (if x5 < (t868.length : Int) then (if x6 = (rd t868 x5) then ((impl_NearAll.f k x861000 x861001 x4).bind fun t872 => (if x5 < (t872.length : Int) then (some (decide (x6 ≥ (rd t872 x5)))) else (none))) else (some false)) else (none)) else (none))))
def laws_FnLiveNear.f (k : Nat) (l0 : List Int) : Option (Bool) := if (l0.length : Int) > 1048576 then (some true) else ((spec_DrawLiveNear.f k l0).bind fun bt851 => ((impl_LiveNear.f k bt851.1 bt851.2.1 bt851.2.2.1 bt851.2.2.2.1 bt851.2.2.2.2).bind fun t861 => ((spec_LiveNear.f k bt851.1 bt851.2.1 bt851.2.2.1 bt851.2.2.2.1 bt851.2.2.2.2).bind fun t862 => (if t861 = t862 then (laws_FnLiveNear.j0 k bt851.2.2.2.1 bt851.2.2.2.2 t861 (decide (t861 < 0)) bt851.1 bt851.2.1 bt851.2.2.1) else (laws_FnLiveNear.j0 k bt851.2.2.2.1 bt851.2.2.2.2 t861 true bt851.1 bt851.2.1 bt851.2.2.1)))))
theorem laws_FnLiveNear.mono_l : ∀ k, (∀ y0 y1 y2 y3 y4 y5 y6, LeO (laws_FnLiveNear.j0 k y0 y1 y2 y3 y4 y5 y6) (laws_FnLiveNear.j0 (k + 1) y0 y1 y2 y3 y4 y5 y6))
 | 0 => fun _ _ _ _ _ _ _ r h => by simp [laws_FnLiveNear.j0] at h
 | k + 1 => by
  have ih0 := laws_FnLiveNear.mono_l k
  ·intro y0 y1 y2 y3 y4 y5 y6
   unfold laws_FnLiveNear.j0
   repeat' first | (with_reducible exact impl_LiveNow.mono _ _ _ _) | (with_reducible exact impl_NearAll.mono _ _ _ _) | (with_reducible exact spec_LiveNear.mono _ _ _ _ _ _) | (with_reducible exact LeO.refl _) | (with_reducible refine LeO.ite ?_ ?_) | (with_reducible refine LeO.bind ?_ (fun _ => ?_))
theorem laws_FnLiveNear.mono : ∀ a0 k, LeO (laws_FnLiveNear.f k a0) (laws_FnLiveNear.f (k + 1) a0) := by
 intro a0 k
 have ih0 := laws_FnLiveNear.mono_l k
 unfold laws_FnLiveNear.f
 repeat' first | (with_reducible exact ih0 _ _ _ _ _ _ _) | (with_reducible exact impl_LiveNear.mono _ _ _ _ _ _) | (with_reducible exact spec_DrawLiveNear.mono _ _) | (with_reducible exact spec_LiveNear.mono _ _ _ _ _ _) | (with_reducible exact LeO.refl _) | (with_reducible refine LeO.ite ?_ ?_) | (with_reducible refine LeO.bind ?_ (fun _ => ?_))
set_option maxHeartbeats 8000000 in
set_option maxRecDepth 100000 in
theorem laws_FnLiveNear.calls (k : Nat) (A0 : Option Addr) (c0 : Nat) (l0 : List Int) (r : Bool) (w : World) (hr0 : Kd.C (Kd.int .u8) w A0 l0.length l0) (hc0 : l0.length ≤ c0) (h : laws_FnLiveNear.f k l0 = some r) (hr_ : r = true) :
  Calls Try.prog 6 #[.slice A0 l0.length c0] w fun e w' => e = .returned (.bool r) ∧ Below w.heap.size w w' := by
 have hu44 := Try.underlying44
 have hu25 := Try.underlying25
 have HR0 := ak hr0
 have HC0 := ak hc0
 clear hr0 hc0
 have HB := ak (Below.refl w.heap.size w)
 have H : (if (l0.length : Int) > 1048576 then (some true) else ((spec_DrawLiveNear.f k l0).bind fun bt851 => ((impl_LiveNear.f k bt851.1 bt851.2.1 bt851.2.2.1 bt851.2.2.2.1 bt851.2.2.2.2).bind fun t861 => ((spec_LiveNear.f k bt851.1 bt851.2.1 bt851.2.2.1 bt851.2.2.2.1 bt851.2.2.2.2).bind fun t862 => (if t861 = t862 then (laws_FnLiveNear.j0 k bt851.2.2.2.1 bt851.2.2.2.2 t861 (decide (t861 < 0)) bt851.1 bt851.2.1 bt851.2.2.1) else (laws_FnLiveNear.j0 k bt851.2.2.2.1 bt851.2.2.2.2 t861 true bt851.1 bt851.2.1 bt851.2.2.1)))))) = some r := h
 clear h
 by_cases c2 : (l0.length : Int) > 1048576
 ·rw [if_pos c2] at H
  have c2b0 : decide (1048576 < (l0.length : Int)) = true := decide_eq_true c2
  have c2b1 : decide (1048576 < l0.length) = true := decide_eq_true (by omega)
  clear c2
  obtain rfl := Option.some.inj H
  go_enter Try.func6, Try.ntmps6
  go_wp2
  go_ret
  exact ⟨by rfl, bl HB⟩
 rw [if_neg c2] at H
 have c2b0 : decide (1048576 < (l0.length : Int)) = false := decide_eq_false c2
 have c2b1 : decide (1048576 < l0.length) = false := decide_eq_false (by omega)
 clear c2
 replace H := Option.bind_eq_some_iff.mp H
 obtain ⟨⟨t851, t852, t855, t858, t859⟩, A30, H⟩ := H
 have A3 := ak A30
 clear A30
 replace H := Option.bind_eq_some_iff.mp H
 obtain ⟨t861, A40, H⟩ := H
 have A4 := ak A40
 clear A40
 have HC5 := ak H
 clear H
 go_enter Try.func6, Try.ntmps6
 go_upto_region 5 with (first | ((with_reducible refine gate_callee (f := 27) rfl ?_); refine goesL_ (some 12) rfl rfl Try.func27 (by kernel_rfl) rfl #[.slice A0 l0.length c0] rfl (by (try simp only [List.map_toArray, List.map_cons, List.map_nil]); rfl) ?_; (with_reducible refine (spec_DrawLiveNear.calls k _ _ l0 t851 t852 t855 t858 t859 _ ?side1 ?side2 A3.out).mono ?_); (case side1 => repeat (exact HR0.out)); (case side2 => exact HC0.out); rintro e w6 ⟨v853, v856, rfl, ho0, ho1, hb⟩; refine ⟨_, rfl, ?_⟩; have HO854 := ak (Kd.R_lower ho0 (below_size (bl HB))); have HO857 := ak (Kd.R_lower ho1 (below_size (bl HB))); replace HB := ak (below_step (bl HB) hb); (try clear hb); (try clear hb2); (try clear hk); (try clear hi); (try clear ho0); (try clear ho1)) | ((with_reducible refine gate_dst (N := 3) rfl ?_); refine box_event ?hg (N := 3) ?hd (cs := #[.int .i64 0, .slice none 0 0, .slice none 0 0]) (t := 44) ?hr ?_; (case hd => rfl); (case hg => rfl); (case hr => (go_simp; done)); intro gb860 hg w7 hbox hb; replace HO854 := ak (Kd.R_below (rk HO854) hb); replace HO857 := ak (Kd.R_below (rk HO857) hb); have BK860 := ak (hbox); have GW860 := ak ((by rw [hg]; exact (below_size (bl HB)) : w.heap.size ≤ gb860)); have GE860 := ak ((by rw [hg]; exact (below_size (bl HB)) : w.heap.size ≤ gb860)); replace HB := ak (below_step (bl HB) hb); clear hb hbox hg; have hcz8_0 := bc w7 BK860 0 (.int .i64 0) rfl; have hcz8_1 := bc w7 BK860 1 (.slice none 0 0) rfl; have hcz8_2 := bc w7 BK860 2 (.slice none 0 0) rfl; have hfz8_0 := fz BK860 0; have hfz8_1 := fz BK860 1; have hfz8_2 := fz BK860 2; obtain ⟨Ao9, co9, eo9⟩ := Kd.R_slice HO854.out; subst eo9; obtain ⟨Ao10, co10, eo10⟩ := Kd.R_slice HO857.out; subst eo10) | ((with_reducible refine gate_callee (f := 28) rfl ?_); refine goesL_ (some 19) rfl rfl Try.func28 (by kernel_rfl) rfl #[.agg #[.int .i64 t851, .slice Ao9 t852.length co9, .slice Ao10 t855.length co10], .int .i64 t858, .int .i64 t859] rfl (by (try simp only [List.map_toArray, List.map_cons, List.map_nil]); rfl) ?_; (with_reducible refine (impl_LiveNear.calls k t851 _ _ t852 _ _ t855 t858 t859 t861 _ ?side1 ?side2 ?side3 ?side4 A4.out).mono ?_); (case side1 => refine (Kd.R_reads' (e := 41) (base := w.heap.size) (ok := fun k_ => True) (n := t852.length) (c := co9) ?_).2.2; exact (by exact (Kd.R_mono (Kd.R_far (p := ⟨gb860, 2, none⟩) (Kd.R_far (p := ⟨gb860, 1, none⟩) (Kd.R_far (p := ⟨gb860, 0, none⟩) (Kd.R_types HO854.out BK860.out (by decide)) (fun _ hk => hk.2) (.int .i64 t851)) (fun _ hk => hk.2) (.slice Ao9 t852.length co9)) (fun _ hk => hk.2) (.slice Ao10 t855.length co10)) (fun _ h_ => h_.1)))); (case side2 => exact (Kd.R_reads' HO854.out).2.1); (case side3 => refine (Kd.R_reads' (e := 113) (base := w.heap.size) (ok := fun k_ => True) (n := t855.length) (c := co10) ?_).2.2; exact (by exact (Kd.R_mono (Kd.R_far (p := ⟨gb860, 2, none⟩) (Kd.R_far (p := ⟨gb860, 1, none⟩) (Kd.R_far (p := ⟨gb860, 0, none⟩) (Kd.R_types HO857.out BK860.out (by decide)) (fun _ hk => hk.2) (.int .i64 t851)) (fun _ hk => hk.2) (.slice Ao9 t852.length co9)) (fun _ hk => hk.2) (.slice Ao10 t855.length co10)) (fun _ h_ => h_.1)))); (case side4 => exact (Kd.R_reads' HO857.out).2.1); rintro e w11 ⟨rfl, hb⟩; refine ⟨_, rfl, ?_⟩; replace HO854 := ak (Kd.R_below (by exact (Kd.R_mono (Kd.R_far (p := ⟨gb860, 2, none⟩) (Kd.R_far (p := ⟨gb860, 1, none⟩) (Kd.R_far (p := ⟨gb860, 0, none⟩) (Kd.R_types HO854.out BK860.out (by decide)) (fun _ hk => hk.2) (.int .i64 t851)) (fun _ hk => hk.2) (.slice Ao9 t852.length co9)) (fun _ hk => hk.2) (.slice Ao10 t855.length co10)) (fun _ h_ => h_.1))) hb); replace HO857 := ak (Kd.R_below (by exact (Kd.R_mono (Kd.R_far (p := ⟨gb860, 2, none⟩) (Kd.R_far (p := ⟨gb860, 1, none⟩) (Kd.R_far (p := ⟨gb860, 0, none⟩) (Kd.R_types HO857.out BK860.out (by decide)) (fun _ hk => hk.2) (.int .i64 t851)) (fun _ hk => hk.2) (.slice Ao9 t852.length co9)) (fun _ hk => hk.2) (.slice Ao10 t855.length co10)) (fun _ h_ => h_.1))) hb); replace BK860 := ak (blk_below (g := gb860) (o := .cells #[.int .i64 t851, .slice Ao9 t852.length co9, .slice Ao10 t855.length co10] 44 (0, 0)) (by refine blk_put (cs := #[.int .i64 t851, .slice Ao9 t852.length co9, .slice none 0 0]) ?_ 2 _ rfl; refine blk_put (cs := #[.int .i64 t851, .slice none 0 0, .slice none 0 0]) ?_ 1 _ rfl; refine blk_put (cs := #[.int .i64 0, .slice none 0 0, .slice none 0 0]) ?_ 0 _ rfl; exact BK860.out) hb); replace HB := ak (below_step (bl1 HB GE860) hb); (try clear hb); (try clear hb2); (try clear hk); (try clear hi)))
 (try simp only [Act.put, List.setIfInBounds_toArray, List.set_cons_zero, List.set_cons_succ])
 go_cut [29] (fun v29 wc => ∃ (kq : Nat) (x29_4 : Bool), v29 = .bool x29_4 ∧ Aside0 (laws_FnLiveNear.j0 kq t858 t859 t861 x29_4 t851 t852 t855 = some r) ∧ Aside0 (kq ≤ k) ∧ Aside0 (Kd.R k41 41 wc w.heap.size (fun _ => True) (.slice Ao9 t852.length co9) t852) ∧ Aside0 (Kd.R k113 113 wc w.heap.size (fun _ => True) (.slice Ao10 t855.length co10) t855) ∧ Aside0 (wc.heap[gb860]? = some (.cells #[.int .i64 t851, (.slice Ao9 t852.length co9), (.slice Ao10 t855.length co10)] 44 (0, 0))) ∧ Aside0 (Below w.heap.size w wc))
 case first =>
  have H := HC5.out
  clear HC5
  replace H := Option.bind_eq_some_iff.mp H
  obtain ⟨t862, A120, H⟩ := H
  have A12 := ak A120
  clear A120
  by_cases c13 : t861 = t862
  rotate_left
  ·rw [if_neg c13] at H
   have c13b0 : (t861 == t862) = false := beq_eq_false_iff_ne.mpr c13
   have c13b1 : (t861 != t862) = true := bne_iff_ne.mpr c13
   (skip)
   have H' := ak H
   clear H
   have hcz16_0 := bc w11 BK860 0 (.int .i64 t851) rfl
   have hcz16_1 := bc w11 BK860 1 (.slice Ao9 t852.length co9) rfl
   have hcz16_2 := bc w11 BK860 2 (.slice Ao10 t855.length co10) rfl
   have hfz16_0 := fz BK860 0
   have hfz16_1 := fz BK860 1
   have hfz16_2 := fz BK860 2
   go_wp2_with (((with_reducible refine gate_callee (f := 29) rfl ?_); refine goesL_ (some 24) rfl rfl Try.func29 (by kernel_rfl) rfl #[.agg #[.int .i64 t851, .slice Ao9 t852.length co9, .slice Ao10 t855.length co10], .int .i64 t858, .int .i64 t859] rfl (by (try simp only [List.map_toArray, List.map_cons, List.map_nil]); rfl) ?_; (with_reducible refine (spec_LiveNear.calls k t851 _ _ t852 _ _ t855 t858 t859 t862 _ ?side1 ?side2 ?side3 ?side4 A12.out).mono ?_); (case side1 => repeat (exact (Kd.R_reads' HO854.out).2.2)); (case side2 => exact (Kd.R_reads' HO854.out).2.1); (case side3 => repeat (exact (Kd.R_reads' HO857.out).2.2)); (case side4 => exact (Kd.R_reads' HO857.out).2.1); rintro e w17 ⟨rfl, hb⟩; refine ⟨_, rfl, ?_⟩; replace HO854 := ak (Kd.R_below (rk HO854) hb); replace HO857 := ak (Kd.R_below (rk HO857) hb); replace BK860 := ak (blk_below (bk BK860) hb); replace HB := ak (below_step (bl1 HB GE860) hb); (try clear hb); (try clear hb2); (try clear hk); (try clear hi)))
   go_meet
   case rel => exact ⟨_, (true), (by rfl), H', ⟨by omega⟩, ⟨rk HO854⟩, ⟨rk HO857⟩, ⟨bk BK860⟩, ⟨bl1 HB GE860⟩⟩
  rw [if_pos c13] at H
  have c13b0 : (t861 == t862) = true := beq_iff_eq.mpr c13
  have c13b1 : (t861 != t862) = false := bne_eq_false_iff_eq.mpr c13
  clear c13
  (skip)
  have H' := ak H
  clear H
  have hcz14_0 := bc w11 BK860 0 (.int .i64 t851) rfl
  have hcz14_1 := bc w11 BK860 1 (.slice Ao9 t852.length co9) rfl
  have hcz14_2 := bc w11 BK860 2 (.slice Ao10 t855.length co10) rfl
  have hfz14_0 := fz BK860 0
  have hfz14_1 := fz BK860 1
  have hfz14_2 := fz BK860 2
  go_wp2_with (((with_reducible refine gate_callee (f := 29) rfl ?_); refine goesL_ (some 24) rfl rfl Try.func29 (by kernel_rfl) rfl #[.agg #[.int .i64 t851, .slice Ao9 t852.length co9, .slice Ao10 t855.length co10], .int .i64 t858, .int .i64 t859] rfl (by (try simp only [List.map_toArray, List.map_cons, List.map_nil]); rfl) ?_; (with_reducible refine (spec_LiveNear.calls k t851 _ _ t852 _ _ t855 t858 t859 t862 _ ?side1 ?side2 ?side3 ?side4 A12.out).mono ?_); (case side1 => repeat (exact (Kd.R_reads' HO854.out).2.2)); (case side2 => exact (Kd.R_reads' HO854.out).2.1); (case side3 => repeat (exact (Kd.R_reads' HO857.out).2.2)); (case side4 => exact (Kd.R_reads' HO857.out).2.1); rintro e w15 ⟨rfl, hb⟩; refine ⟨_, rfl, ?_⟩; replace HO854 := ak (Kd.R_below (rk HO854) hb); replace HO857 := ak (Kd.R_below (rk HO857) hb); replace BK860 := ak (blk_below (bk BK860) hb); replace HB := ak (below_step (bl1 HB GE860) hb); (try clear hb); (try clear hb2); (try clear hk); (try clear hi)))
  go_meet
  case rel => exact ⟨_, (decide (t861 < 0)), (by rfl), H', ⟨by omega⟩, ⟨rk HO854⟩, ⟨rk HO857⟩, ⟨bk BK860⟩, ⟨bl1 HB GE860⟩⟩
 clear HC5
 try clear c1
 try clear c2
 try clear c2b0
 try clear c2b1
 try clear p2
 try clear c6
 try clear c13
 try clear c13b0
 try clear c13b1
 try clear hcz14_0
 try clear hcz14_1
 try clear hcz14_2
 try clear hcz16_0
 try clear hcz16_1
 try clear hcz16_2
 try clear hcz8_0
 try clear hcz8_1
 try clear hcz8_2
 try clear hfz14_0
 try clear hfz14_1
 try clear hfz14_2
 try clear hfz16_0
 try clear hfz16_1
 try clear hfz16_2
 try clear hfz8_0
 try clear hfz8_1
 try clear hfz8_2
 obtain ⟨kq, x29_4, rfl, HA, HJ4, HO_861001, HO_861002, BK860, HB⟩ := hcut
 cases kq with
 | zero => exact absurd HA.out (by simp [laws_FnLiveNear.j0])
 | succ kj4 =>
  have H := HA.out
  clear HA
  simp only [laws_FnLiveNear.j0] at H
  by_cases c18 : x29_4 = true
  ·subst c18
   rw [if_pos rfl] at H
   replace H := Option.bind_eq_some_iff.mp H
   obtain ⟨t863, A190, H⟩ := H
   have A19 := ak A190
   clear A190
   obtain rfl := Option.some.inj H
   have hcz20_0 := bc wc BK860 0 (.int .i64 t851) rfl
   have hcz20_1 := bc wc BK860 1 (.slice Ao9 t852.length co9) rfl
   have hcz20_2 := bc wc BK860 2 (.slice Ao10 t855.length co10) rfl
   have hfz20_0 := fz BK860 0
   have hfz20_1 := fz BK860 1
   have hfz20_2 := fz BK860 2
   go_wp2_with (((with_reducible refine gate_callee (f := 29) rfl ?_); refine goesL_ (some 34) rfl rfl Try.func29 (by kernel_rfl) rfl #[.agg #[.int .i64 t851, .slice Ao9 t852.length co9, .slice Ao10 t855.length co10], .int .i64 t858, .int .i64 t859] rfl (by (try simp only [List.map_toArray, List.map_cons, List.map_nil]); rfl) ?_; (with_reducible refine (spec_LiveNear.calls kj4 t851 _ _ t852 _ _ t855 t858 t859 t863 _ ?side1 ?side2 ?side3 ?side4 A19.out).mono ?_); (case side1 => repeat (exact (Kd.R_reads' HO_861001.out).2.2)); (case side2 => exact (Kd.R_reads' HO_861001.out).2.1); (case side3 => repeat (exact (Kd.R_reads' HO_861002.out).2.2)); (case side4 => exact (Kd.R_reads' HO_861002.out).2.1); rintro e w21 ⟨rfl, hb⟩; refine ⟨_, rfl, ?_⟩; replace HO_861001 := ak (Kd.R_below (rk HO_861001) hb); replace HO_861002 := ak (Kd.R_below (rk HO_861002) hb); replace BK860 := ak (blk_below (bk BK860) hb); replace HB := ak (below_step (bl1 HB GE860) hb); (try clear hb); (try clear hb2); (try clear hk); (try clear hi)))
   go_ret
   exact ⟨by rfl, bl1 HB GE860⟩
  replace c18 := Bool.eq_false_iff.mpr c18
  subst c18
  rw [if_neg (show ¬ (false = true) by decide)] at H
  replace H := Option.bind_eq_some_iff.mp H
  obtain ⟨⟨t864, t865⟩, A220, H⟩ := H
  have A22 := ak A220
  clear A220
  replace H := Option.bind_eq_some_iff.mp H
  obtain ⟨t868, A230, H⟩ := H
  have A23 := ak A230
  clear A230
  by_cases c24 : 0 ≤ t859
  rotate_left
  ·rw [if_neg c24] at H
   exact absurd H (by simp)
  rw [if_pos c24] at H
  have c24b0 : decide (0 ≤ t859) = true := decide_eq_true c24
  clear c24
  by_cases c25 : t859 < (t868.length : Int)
  rotate_left
  ·rw [if_neg c25] at H
   exact absurd H (by simp)
  rw [if_pos c25] at H
  have c25b0 : decide (t859 < (t868.length : Int)) = true := decide_eq_true c25
  clear c25
  by_cases c26 : t861 = (rd t868 t859)
  rotate_left
  ·rw [if_neg c26] at H
   have c26b0 : (t861 == (rd t868 t859)) = false := beq_eq_false_iff_ne.mpr c26
   have c26b1 : (t861 != (rd t868 t859)) = true := bne_iff_ne.mpr c26
   exact absurd ((Option.some.inj H).trans hr_) Bool.false_ne_true
  rw [if_pos c26] at H
  have c26b0 : (t861 == (rd t868 t859)) = true := beq_iff_eq.mpr c26
  have c26b1 : (t861 != (rd t868 t859)) = false := bne_eq_false_iff_eq.mpr c26
  clear c26
  replace H := Option.bind_eq_some_iff.mp H
  obtain ⟨t872, A270, H⟩ := H
  have A27 := ak A270
  clear A270
  by_cases c28 : t859 < (t872.length : Int)
  rotate_left
  ·rw [if_neg c28] at H
   exact absurd H (by simp)
  rw [if_pos c28] at H
  have c28b0 : decide (t859 < (t872.length : Int)) = true := decide_eq_true c28
  clear c28
  obtain rfl := Option.some.inj H
  have hcz29_0 := bc wc BK860 0 (.int .i64 t851) rfl
  have hcz29_1 := bc wc BK860 1 (.slice Ao9 t852.length co9) rfl
  have hcz29_2 := bc wc BK860 2 (.slice Ao10 t855.length co10) rfl
  have hfz29_0 := fz BK860 0
  have hfz29_1 := fz BK860 1
  have hfz29_2 := fz BK860 2
  go_wp2_with (first | ((with_reducible refine gate_callee (f := 30) rfl ?_); refine goesL_ (some 38) rfl rfl Try.func30 (by kernel_rfl) rfl #[.agg #[.int .i64 t851, .slice Ao9 t852.length co9, .slice Ao10 t855.length co10]] rfl (by (try simp only [List.map_toArray, List.map_cons, List.map_nil]); rfl) ?_; (with_reducible refine (impl_LiveNow.calls kj4 t851 _ _ t852 _ _ t855 t864 t865 _ ?side1 ?side2 ?side3 ?side4 A22.out).mono ?_); (case side1 => repeat (exact (Kd.R_reads' HO_861001.out).2.2)); (case side2 => exact (Kd.R_reads' HO_861001.out).2.1); (case side3 => repeat (exact (Kd.R_reads' HO_861002.out).2.2)); (case side4 => exact (Kd.R_reads' HO_861002.out).2.1); rintro e w30 ⟨v866, rfl, ho0, hb⟩; refine ⟨_, rfl, ?_⟩; replace HO_861002 := ak (Kd.R_below (rk HO_861002) hb); have HO867 := ak (Kd.R_lower (Kd.R_new' ho0 (Kd.R_lt (rk HO_861001))) (below_size (bl1 HB GE860))); replace HO_861001 := ak (Kd.R_elder' (rk HO_861001) (Kd.R_base ho0) hb); replace BK860 := ak (blk_below (bk BK860) hb); replace HB := ak (below_step (bl1 HB GE860) hb); (try clear hb); (try clear hb2); (try clear hk); (try clear hi); (try clear ho0); obtain ⟨Ao31, co31, eo31⟩ := Kd.R_slice HO867.out; subst eo31) | ((with_reducible refine gate_callee (f := 18) rfl ?_); refine goesL_ (some 40) rfl rfl Try.func18 (by kernel_rfl) rfl #[.agg #[.int .i64 t864, .slice Ao31 t865.length co31], .int .i64 t858] rfl (by (try simp only [List.map_toArray, List.map_cons, List.map_nil]); rfl) ?_; (with_reducible refine (impl_NearAll.calls kj4 t864 _ _ t865 t858 t868 _ ?side1 ?side2 A23.out).mono ?_); (case side1 => repeat (exact (Kd.R_reads' HO867.out).2.2)); (case side2 => exact (Kd.R_reads' HO867.out).2.1); rintro e w32 ⟨v869, rfl, ho0, hb⟩; refine ⟨_, rfl, ?_⟩; replace HO_861001 := ak (Kd.R_below (rk HO_861001) hb); replace HO_861002 := ak (Kd.R_below (rk HO_861002) hb); replace HO867 := ak (Kd.R_below (rk HO867) hb); have HO870 := ak (Kd.R_lower ho0 (below_size (bl1 HB GE860))); replace BK860 := ak (blk_below (bk BK860) hb); replace HB := ak (below_step (bl1 HB GE860) hb); (try clear hb); (try clear hb2); (try clear hk); (try clear hi); (try clear ho0); obtain ⟨Ao33, co33, eo33⟩ := Kd.R_slice HO870.out; subst eo33; have p871 : 0 ≤ (t859 : Int) := oT (by (with_reducible assumption)); have q871 : t859 < (t868.length : Int) := oT (by (with_reducible assumption)); obtain ⟨ad871, e871, hx871_0⟩ := Kd.at_int (Kd.R_reads' HO870.out).2.2 t859 p871 q871; cases e871; replace p871 := eq_true p871; replace q871 := eq_true q871; have hcz34_0 := bc w32 BK860 0 (.int .i64 t851) rfl; have hcz34_1 := bc w32 BK860 1 (.slice Ao9 t852.length co9) rfl; have hcz34_2 := bc w32 BK860 2 (.slice Ao10 t855.length co10) rfl; have hfz34_0 := fz BK860 0; have hfz34_1 := fz BK860 1; have hfz34_2 := fz BK860 2) | (go_at_call 18; (with_reducible refine (impl_NearAll.calls kj4 t851 _ _ t852 t858 t872 _ ?side1 ?side2 A27.out).mono ?_); (case side1 => repeat (exact (Kd.R_reads' HO_861001.out).2.2)); (case side2 => exact (Kd.R_reads' HO_861001.out).2.1); rintro e w35 ⟨v873, rfl, ho0, hb⟩; have n0_ := ak (Kd.R_below (rk HO_861001) hb); have n1_ := ak (Kd.R_below (rk HO_861002) hb); have n2_ := ak (Kd.R_below (rk HO867) hb); have n3_ := ak (Kd.R_elder' (rk HO870) (Kd.R_base ho0) hb); have n4_ := ak (Kd.R_lower (Kd.R_new' ho0 (Kd.R_lt (rk HO870))) (below_size (bl1 HB GE860))); have n5_ := ak (blk_below (bk BK860) hb); have n6_ := ak (below_step (bl1 HB GE860) hb); clear HO_861001; clear HO_861002; clear HO867; clear HO870; clear BK860; clear HB; have HO_861001 := n0_; have HO_861002 := n1_; have HO867 := n2_; have HO870 := n3_; have HO874 := n4_; have BK860 := n5_; have HB := n6_; clear n0_ n1_ n2_ n3_ n4_ n5_ n6_; (try clear hb); (try clear hb2); (try clear hk); (try clear hi); (try clear ho0); obtain ⟨Ao36, co36, eo36⟩ := Kd.R_slice HO874.out; subst eo36; have p875 : 0 ≤ (t859 : Int) := oT (by (with_reducible assumption)); have q875 : t859 < (t872.length : Int) := oT (by (with_reducible assumption)); obtain ⟨ad875, e875, hx875_0⟩ := Kd.at_int (Kd.R_reads' HO874.out).2.2 t859 p875 q875; cases e875; replace p875 := eq_true p875; replace q875 := eq_true q875))
  go_ret
  exact ⟨by (simp [*, errW_none, errW_some] <;> rfl), bl1 HB GE860⟩

/-- THE ONE PURE STATEMENT of laws_FnLiveNear: yours. -/
def laws_FnLiveNear.Pure : Prop := ∀ (l0 : List Int), l0.length ≤ maxLen → l0.length * 1 ≤ 140737488351232 → (∀ x ∈ l0, (Lit.int .u8 x).wf = true) → ∃ k, laws_FnLiveNear.f k l0 = some true
theorem laws_FnLiveNear.walk (P : laws_FnLiveNear.Pure) (a0 : Option Addr) (len0 cap0 : Nat) (z0 : List Int) (w : World) (w0 : (a0 = none ∧ len0 = 0 ∧ cap0 = 0 ∧ z0 = []) ∨ ∃ x, a0 = some x ∧ len0 ≤ cap0 ∧ cap0 ≤ maxLen ∧ z0.length = cap0 ∧ (∀ i, i < z0.length → w.cell? (x.add i) = some (.int .u8 (z0.getD i 0))) ∧ ∀ n ∈ z0, (Lit.int .u8 n).wf = true) (y0 : len0 * 1 ≤ 140737488351232) :
  Calls Try.prog 6 #[.slice a0 len0 cap0] w fun e w' => e = .returned (.bool true) ∧ Below w.heap.size w w' := by
 obtain ⟨l0, rfl, hr0, hm0, hw0, hc0⟩ := ReadsInt.ofRowC w0
 obtain ⟨k, h⟩ := P l0 hm0 y0 hw0
 refine (laws_FnLiveNear.calls k _ _ l0 true w (Kd.C_of_reads (d := (0 : Int)) (h1 := fun _ => rfl) hr0) hc0 h rfl).mono ?_
 rintro e w' ⟨rfl, hd⟩
 exact ⟨rfl, hd⟩

end Go.Proofs.Ytgickejeakmenaa.F
