-- Printed by wip/px/px.py of this claim's repository (the kit's printer, extended there). Lean checks it.
import Derived.Test.YthgihpbpebbebaaFKinds
import Derived.Test.YthgihpbpebbebaaFspecDrawReachParts
import Derived.Test.YthgihpbpebbebaaFimplReachParts
import Derived.Test.YthgihpbpebbebaaFwkNet
import Derived.Test.YthgihpbpebbebaaFspecReachParts
import Derived.Test.YthgihpbpebbebaaFimplNearAll
import Derived.Test.YthgihpbpebbebaaFimplNearTo
import Derived.Test.YthgihpbpebbebaaFimplNetBack
namespace Go.Proofs.Ythgihpbpebbebaa.F
open Go.RowKit Go.Proofs.YthgihpbpebbebaaW.PrintWords Go.Proofs.YthgihpbpebbebaaW.PrintLast Go.Proofs.YthgihpbpebbebaaW.PrintMore
attribute [local go_sem] max2_int min2_int max_two min_two max_three min_three max_four min_four   -- for this text's walks alone
set_option linter.unusedVariables false
set_option linter.unusedSimpArgs false

/-! ### laws_FnReachParts: function 11 -/
mutual
def laws_FnReachParts.j0 : Nat → List Int → Bool → Int → List (S31) → Option (Bool)
 | 0, _, _, _, _ => none
 | k + 1, x4, x25, x828000, x828001 => if x25 = true then ((spec_ReachParts.f k x828000 x828001).bind fun t835 => ((laws_wkInts.f k x4 t835).bind fun t838 => (some t838))) else (laws_FnReachParts.l0 k x4 0 x828000 x828001)
def laws_FnReachParts.l0 : Nat → List Int → Int → Int → List (S31) → Option (Bool)
 | 0, _, _, _, _ => none
 | k + 1, x4, x5, x828000, x828001 => if x5 < x828000 then ((impl_NearAll.f k x828000 x828001 x5).bind fun t847 => ((impl_NearTo.f k x828000 x828001 x5).bind fun t850 => (laws_FnReachParts.l1 k x4 x5 t847 t850 0 x828000 x828001))) else ((impl_NetBack.f k x828000 x828001).bind fun bt839 => ((impl_ReachParts.f k bt839.1 bt839.2).bind fun t843 => ((laws_wkInts.f k t843 x4).bind fun t846 => (some t846))))
def laws_FnReachParts.l1 : Nat → List Int → Int → List Int → List Int → Int → Int → List (S31) → Option (Bool)
 | 0, _, _, _, _, _, _, _ => none
 | k + 1, x4, x5, x6, x7, x8, x828000, x828001 => if x8 < x828000 then (if 0 ≤ x5 then (if x5 < (x4.length : Int) then (if 0 ≤ x8 then (if x8 < (x4.length : Int) then (if x8 < (x6.length : Int) then (if (rd x6 x8) < 99999 then (if x8 < (x7.length : Int) then (if (((rd x4 x5) == (rd x4 x8)) != (decide ((rd x7 x8) < 99999))) = true then (some false) else (laws_FnReachParts.l1 k x4 x5 x6 x7 (wrap64 (x8 + 1)) x828000 x828001)) else (none)) else (if (((rd x4 x5) == (rd x4 x8)) != false) = true then (some false) else (laws_FnReachParts.l1 k x4 x5 x6 x7 (wrap64 (x8 + 1)) x828000 x828001))) else (none)) else (none)) else (none)) else (none)) else (none)) else (if 0 ≤ x5 then (if x5 < (x4.length : Int) then (if (rd x4 x5) > x5 then (some false) else (if 0 ≤ (rd x4 x5) then (if (rd x4 x5) < (x4.length : Int) then (if (rd x4 (rd x4 x5)) = (rd x4 x5) then (laws_FnReachParts.l0 k x4 (wrap64 (x5 + 1)) x828000 x828001) else (some false)) else (none)) else (none))) else (none)) else (none))
end
def laws_FnReachParts.f (k : Nat) (l0 : List Int) : Option (Bool) := if (l0.length : Int) > 1048576 then (some true) else ((spec_DrawReachParts.f k l0).bind fun bt823 => ((impl_ReachParts.f k bt823.1 bt823.2).bind fun t828 => ((spec_ReachParts.f k bt823.1 bt823.2).bind fun t831 => ((laws_wkInts.f k t828 t831).bind fun t834 => (if t834 = true then (laws_FnReachParts.j0 k t828 ((t828.length : Int) == 0) bt823.1 bt823.2) else (laws_FnReachParts.j0 k t828 true bt823.1 bt823.2))))))
theorem laws_FnReachParts.mono_l : ∀ k, (∀ y0 y1 y2 y3, LeO (laws_FnReachParts.j0 k y0 y1 y2 y3) (laws_FnReachParts.j0 (k + 1) y0 y1 y2 y3)) ∧ (∀ y0 y1 y2 y3, LeO (laws_FnReachParts.l0 k y0 y1 y2 y3) (laws_FnReachParts.l0 (k + 1) y0 y1 y2 y3)) ∧ (∀ y0 y1 y2 y3 y4 y5 y6, LeO (laws_FnReachParts.l1 k y0 y1 y2 y3 y4 y5 y6) (laws_FnReachParts.l1 (k + 1) y0 y1 y2 y3 y4 y5 y6))
 | 0 => ⟨fun _ _ _ _ r h => by simp [laws_FnReachParts.j0] at h, fun _ _ _ _ r h => by simp [laws_FnReachParts.l0] at h, fun _ _ _ _ _ _ _ r h => by simp [laws_FnReachParts.l1] at h⟩
 | k + 1 => by
  obtain ⟨ih0, ih1, ih2⟩ := laws_FnReachParts.mono_l k
  refine ⟨?_, ?_, ?_⟩
  ·intro y0 y1 y2 y3
   unfold laws_FnReachParts.j0
   repeat' first
   | (with_reducible exact ih0 _ _ _ _)
   | (with_reducible exact ih1 _ _ _ _)
   | (with_reducible exact ih2 _ _ _ _ _ _ _)
   | (with_reducible exact impl_NearAll.mono _ _ _ _)
   | (with_reducible exact impl_NearTo.mono _ _ _ _)
   | (with_reducible exact impl_NetBack.mono _ _ _)
   | (with_reducible exact impl_ReachParts.mono _ _ _)
   | (with_reducible exact laws_wkInts.mono _ _ _)
   | (with_reducible exact spec_DrawReachParts.mono _ _)
   | (with_reducible exact spec_ReachParts.mono _ _ _)
   | (with_reducible exact LeO.refl _)
   | (with_reducible exact LeO.none _)
   | (with_reducible refine LeO.ite ?_ ?_)
   | (with_reducible refine LeO.bind ?_ (fun _ => ?_))
   | exact ih0 _ _ _ _
   | exact ih1 _ _ _ _
   | exact ih2 _ _ _ _ _ _ _
   | exact impl_NearAll.mono _ _ _ _
   | exact impl_NearTo.mono _ _ _ _
   | exact impl_NetBack.mono _ _ _
   | exact impl_ReachParts.mono _ _ _
   | exact laws_wkInts.mono _ _ _
   | exact spec_DrawReachParts.mono _ _
   | exact spec_ReachParts.mono _ _ _
   | exact LeO.none _
   | refine LeO.ite ?_ ?_
   | refine LeO.bind ?_ (fun _ => ?_)
  ·intro y0 y1 y2 y3
   unfold laws_FnReachParts.l0
   repeat' first
   | (with_reducible exact ih0 _ _ _ _)
   | (with_reducible exact ih1 _ _ _ _)
   | (with_reducible exact ih2 _ _ _ _ _ _ _)
   | (with_reducible exact impl_NearAll.mono _ _ _ _)
   | (with_reducible exact impl_NearTo.mono _ _ _ _)
   | (with_reducible exact impl_NetBack.mono _ _ _)
   | (with_reducible exact impl_ReachParts.mono _ _ _)
   | (with_reducible exact laws_wkInts.mono _ _ _)
   | (with_reducible exact spec_DrawReachParts.mono _ _)
   | (with_reducible exact spec_ReachParts.mono _ _ _)
   | (with_reducible exact LeO.refl _)
   | (with_reducible exact LeO.none _)
   | (with_reducible refine LeO.ite ?_ ?_)
   | (with_reducible refine LeO.bind ?_ (fun _ => ?_))
   | exact ih0 _ _ _ _
   | exact ih1 _ _ _ _
   | exact ih2 _ _ _ _ _ _ _
   | exact impl_NearAll.mono _ _ _ _
   | exact impl_NearTo.mono _ _ _ _
   | exact impl_NetBack.mono _ _ _
   | exact impl_ReachParts.mono _ _ _
   | exact laws_wkInts.mono _ _ _
   | exact spec_DrawReachParts.mono _ _
   | exact spec_ReachParts.mono _ _ _
   | exact LeO.none _
   | refine LeO.ite ?_ ?_
   | refine LeO.bind ?_ (fun _ => ?_)
  ·intro y0 y1 y2 y3 y4 y5 y6
   unfold laws_FnReachParts.l1
   repeat' first
   | (with_reducible exact ih0 _ _ _ _)
   | (with_reducible exact ih1 _ _ _ _)
   | (with_reducible exact ih2 _ _ _ _ _ _ _)
   | (with_reducible exact impl_NearAll.mono _ _ _ _)
   | (with_reducible exact impl_NearTo.mono _ _ _ _)
   | (with_reducible exact impl_NetBack.mono _ _ _)
   | (with_reducible exact impl_ReachParts.mono _ _ _)
   | (with_reducible exact laws_wkInts.mono _ _ _)
   | (with_reducible exact spec_DrawReachParts.mono _ _)
   | (with_reducible exact spec_ReachParts.mono _ _ _)
   | (with_reducible exact LeO.refl _)
   | (with_reducible exact LeO.none _)
   | (with_reducible refine LeO.ite ?_ ?_)
   | (with_reducible refine LeO.bind ?_ (fun _ => ?_))
   | exact ih0 _ _ _ _
   | exact ih1 _ _ _ _
   | exact ih2 _ _ _ _ _ _ _
   | exact impl_NearAll.mono _ _ _ _
   | exact impl_NearTo.mono _ _ _ _
   | exact impl_NetBack.mono _ _ _
   | exact impl_ReachParts.mono _ _ _
   | exact laws_wkInts.mono _ _ _
   | exact spec_DrawReachParts.mono _ _
   | exact spec_ReachParts.mono _ _ _
   | exact LeO.none _
   | refine LeO.ite ?_ ?_
   | refine LeO.bind ?_ (fun _ => ?_)
theorem laws_FnReachParts.mono : ∀ a0 k, LeO (laws_FnReachParts.f k a0) (laws_FnReachParts.f (k + 1) a0) := by
 intro a0 k
 obtain ⟨ih0, ih1, ih2⟩ := laws_FnReachParts.mono_l k
 unfold laws_FnReachParts.f
 repeat' first
   | (with_reducible exact ih0 _ _ _ _)
   | (with_reducible exact ih1 _ _ _ _)
   | (with_reducible exact ih2 _ _ _ _ _ _ _)
   | (with_reducible exact impl_NearAll.mono _ _ _ _)
   | (with_reducible exact impl_NearTo.mono _ _ _ _)
   | (with_reducible exact impl_NetBack.mono _ _ _)
   | (with_reducible exact impl_ReachParts.mono _ _ _)
   | (with_reducible exact laws_wkInts.mono _ _ _)
   | (with_reducible exact spec_DrawReachParts.mono _ _)
   | (with_reducible exact spec_ReachParts.mono _ _ _)
   | (with_reducible exact LeO.refl _)
   | (with_reducible exact LeO.none _)
   | (with_reducible refine LeO.ite ?_ ?_)
   | (with_reducible refine LeO.bind ?_ (fun _ => ?_))
   | exact ih0 _ _ _ _
   | exact ih1 _ _ _ _
   | exact ih2 _ _ _ _ _ _ _
   | exact impl_NearAll.mono _ _ _ _
   | exact impl_NearTo.mono _ _ _ _
   | exact impl_NetBack.mono _ _ _
   | exact impl_ReachParts.mono _ _ _
   | exact laws_wkInts.mono _ _ _
   | exact spec_DrawReachParts.mono _ _
   | exact spec_ReachParts.mono _ _ _
   | exact LeO.none _
   | refine LeO.ite ?_ ?_
   | refine LeO.bind ?_ (fun _ => ?_)
set_option maxHeartbeats 8000000 in
set_option maxRecDepth 100000 in
theorem laws_FnReachParts.calls (k : Nat) (A0 : Option Addr) (c0 : Nat) (l0 : List Int) (r : Bool) (w : World) (hr0 : Kd.C (Kd.int .u8) w A0 l0.length l0) (hc0 : l0.length ≤ c0) (h : laws_FnReachParts.f k l0 = some r) (hr_ : r = true) :
  Calls Try.prog 11 #[.slice A0 l0.length c0] w fun e w' => e = .returned (.bool r) ∧ Below w.heap.size w w' := by
 have hu25 := Try.underlying25
 have HR0 := Aside0.mk hr0
 have HC0 := Aside0.mk hc0
 clear hr0 hc0
 have HB := Aside0.mk (Below.refl w.heap.size w)
 have H : (if (l0.length : Int) > 1048576 then (some true) else ((spec_DrawReachParts.f k l0).bind fun bt823 => ((impl_ReachParts.f k bt823.1 bt823.2).bind fun t828 => ((spec_ReachParts.f k bt823.1 bt823.2).bind fun t831 => ((laws_wkInts.f k t828 t831).bind fun t834 => (if t834 = true then (laws_FnReachParts.j0 k t828 ((t828.length : Int) == 0) bt823.1 bt823.2) else (laws_FnReachParts.j0 k t828 true bt823.1 bt823.2))))))) = some r := h
 clear h
 by_cases c2 : (l0.length : Int) > 1048576
 ·rw [if_pos c2] at H
  have c2b0 : decide (1048576 < (l0.length : Int)) = true := decide_eq_true c2
  have c2b1 : decide (1048576 < l0.length) = true := decide_eq_true (by omega)
  clear c2
  obtain rfl := Option.some.inj H
  go_enter Try.func11, Try.ntmps11
  go_wp2
  repeat (go_quiet (fail); try go_wp2)
  go_ret
  exact ⟨by first | rfl | (simp [errW_none, errW_some] <;> rfl) | (simp [*, errW_none, errW_some] <;> rfl), bl HB⟩
 ·rw [if_neg c2] at H
  have c2b0 : decide (1048576 < (l0.length : Int)) = false := decide_eq_false c2
  have c2b1 : decide (1048576 < l0.length) = false := decide_eq_false (by omega)
  clear c2
  replace H := Option.bind_eq_some_iff.mp H
  obtain ⟨⟨t823, t824⟩, A30, H⟩ := H
  have A3 := Aside0.mk A30
  clear A30
  replace H := Option.bind_eq_some_iff.mp H
  obtain ⟨t828, A40, H⟩ := H
  have A4 := Aside0.mk A40
  clear A40
  have HC5 := Aside0.mk H
  clear H
  go_enter Try.func11, Try.ntmps11
  go_upto_region 5 with (first | (go_at_call 42; (with_reducible refine (spec_DrawReachParts.calls k _ _ l0 t823 t824 _ ?side1 ?side2 A3.out).mono ?_); (case side1 => repeat (first | exact HR0.out | (with_reducible refine Kd.C_alloc ?_ _) | (with_reducible refine Kd.C_drewN ?_ _) | (with_reducible refine Kd.C_drew ?_))); (case side2 => exact HC0.out); rintro e w6 ⟨v825, rfl, ho0, hb⟩; have n0_ := Aside0.mk (Kd.R_lower ho0 (below_size (bl HB))); have n1_ := Aside0.mk (below_step (bl HB) hb); clear HB; have HO826 := n0_; have HB := n1_; clear n0_ n1_; (try clear hb); (try clear hb2); (try clear hk); (try clear hi); (try clear ho0)) | ((with_reducible refine gate_dst (N := 3) rfl ?_); refine box_event ?hg (N := 3) ?hd (cs := #[.int .i64 0, .slice none 0 0]) (t := 25) ?hr ?_; (case hd => rfl); (case hg => rfl); (case hr => first | (go_simp; done) | (go_simp; rfl)); intro gb827 hg w7 hbox hb; have n0_ := Aside0.mk (Kd.R_below (rk HO826) hb); have n1_ := Aside0.mk (below_step (bl HB) hb); have n2_ := Aside0.mk (hbox); have n3_ := Aside0.mk ((by rw [hg]; exact (below_size (bl HB)) : w.heap.size ≤ gb827)); have n4_ := Aside0.mk ((by rw [hg]; exact (below_size (bl HB)) : w.heap.size ≤ gb827)); clear HO826; clear HB; have HO826 := n0_; have HB := n1_; have BK827 := n2_; have GW827 := n3_; have GE827 := n4_; clear n0_ n1_ n2_ n3_ n4_; clear hb hbox hg; have hcz8_0 : w7.cell? ⟨gb827, 0, none⟩ = some (.int .i64 0) := (blk_cell BK827.out 0).trans rfl; have hcz8_1 : w7.cell? ⟨gb827, 1, none⟩ = some (.slice none 0 0) := (blk_cell BK827.out 1).trans rfl; have hfz8_0 := blk_frozen BK827.out 0; have hfz8_1 := blk_frozen BK827.out 1; obtain ⟨Ao9, co9, eo9⟩ := Kd.R_slice HO826.out; subst eo9) | (go_at_call 43; (with_reducible refine (impl_ReachParts.calls k t823 _ _ t824 t828 _ ?side1 ?side2 A4.out).mono ?_); (case side1 => refine (Kd.R_reads' (e := 31) (base := w.heap.size) (ok := fun k_ => True) (n := t824.length) (c := co9) ?_).2.2; exact (by (with_reducible repeat (first | apply Kd.R_alloc | apply Kd.R_drewN | apply Kd.R_drew)); exact (Kd.R_mono (Kd.R_far (p := ⟨gb827, 1, none⟩) (Kd.R_far (p := ⟨gb827, 0, none⟩) (Kd.R_types HO826.out BK827.out (by decide)) (fun _ hk => hk.2) (.int .i64 t823)) (fun _ hk => hk.2) (.slice Ao9 t824.length co9)) (fun _ h_ => h_.1)))); (case side2 => exact (Kd.R_reads' HO826.out).2.1); rintro e w10 ⟨v829, rfl, ho0, hb⟩; have n0_ := Aside0.mk (Kd.R_below (by (with_reducible repeat (first | apply Kd.R_alloc | apply Kd.R_drewN | apply Kd.R_drew)); exact (Kd.R_mono (Kd.R_far (p := ⟨gb827, 1, none⟩) (Kd.R_far (p := ⟨gb827, 0, none⟩) (Kd.R_types HO826.out BK827.out (by decide)) (fun _ hk => hk.2) (.int .i64 t823)) (fun _ hk => hk.2) (.slice Ao9 t824.length co9)) (fun _ h_ => h_.1))) hb); have n1_ := Aside0.mk (Kd.R_lower ho0 (below_size (bl1 HB GE827))); have n2_ := Aside0.mk (blk_below (g := gb827) (o := .cells #[.int .i64 t823, .slice Ao9 t824.length co9] 25 (0, 0)) (by (with_reducible repeat (first | refine blk_drewN ?_ _ | refine blk_drew ?_ | refine blk_alloc ?_ _)); refine blk_put (cs := #[.int .i64 t823, .slice none 0 0]) ?_ 1 _ rfl; (with_reducible repeat (first | refine blk_drewN ?_ _ | refine blk_drew ?_ | refine blk_alloc ?_ _)); refine blk_put (cs := #[.int .i64 0, .slice none 0 0]) ?_ 0 _ rfl; (with_reducible repeat (first | refine blk_drewN ?_ _ | refine blk_drew ?_ | refine blk_alloc ?_ _)); exact BK827.out) hb); have n3_ := Aside0.mk (below_step (bl1 HB GE827) hb); clear HO826; clear BK827; clear HB; have HO826 := n0_; have HO830 := n1_; have BK827 := n2_; have HB := n3_; clear n0_ n1_ n2_ n3_; (try clear hb); (try clear hb2); (try clear hk); (try clear hi); (try clear ho0)))
  repeat (go_quiet (first | (go_at_call 42; (with_reducible refine (spec_DrawReachParts.calls k _ _ l0 t823 t824 _ ?side1 ?side2 A3.out).mono ?_); (case side1 => repeat (first | exact HR0.out | (with_reducible refine Kd.C_alloc ?_ _) | (with_reducible refine Kd.C_drewN ?_ _) | (with_reducible refine Kd.C_drew ?_))); (case side2 => exact HC0.out); rintro e w6 ⟨v825, rfl, ho0, hb⟩; have n0_ := Aside0.mk (Kd.R_lower ho0 (below_size (bl HB))); have n1_ := Aside0.mk (below_step (bl HB) hb); clear HB; have HO826 := n0_; have HB := n1_; clear n0_ n1_; (try clear hb); (try clear hb2); (try clear hk); (try clear hi); (try clear ho0)) | ((with_reducible refine gate_dst (N := 3) rfl ?_); refine box_event ?hg (N := 3) ?hd (cs := #[.int .i64 0, .slice none 0 0]) (t := 25) ?hr ?_; (case hd => rfl); (case hg => rfl); (case hr => first | (go_simp; done) | (go_simp; rfl)); intro gb827 hg w7 hbox hb; have n0_ := Aside0.mk (Kd.R_below (rk HO826) hb); have n1_ := Aside0.mk (below_step (bl HB) hb); have n2_ := Aside0.mk (hbox); have n3_ := Aside0.mk ((by rw [hg]; exact (below_size (bl HB)) : w.heap.size ≤ gb827)); have n4_ := Aside0.mk ((by rw [hg]; exact (below_size (bl HB)) : w.heap.size ≤ gb827)); clear HO826; clear HB; have HO826 := n0_; have HB := n1_; have BK827 := n2_; have GW827 := n3_; have GE827 := n4_; clear n0_ n1_ n2_ n3_ n4_; clear hb hbox hg; have hcz8_0 : w7.cell? ⟨gb827, 0, none⟩ = some (.int .i64 0) := (blk_cell BK827.out 0).trans rfl; have hcz8_1 : w7.cell? ⟨gb827, 1, none⟩ = some (.slice none 0 0) := (blk_cell BK827.out 1).trans rfl; have hfz8_0 := blk_frozen BK827.out 0; have hfz8_1 := blk_frozen BK827.out 1; obtain ⟨Ao9, co9, eo9⟩ := Kd.R_slice HO826.out; subst eo9) | (go_at_call 43; (with_reducible refine (impl_ReachParts.calls k t823 _ _ t824 t828 _ ?side1 ?side2 A4.out).mono ?_); (case side1 => refine (Kd.R_reads' (e := 31) (base := w.heap.size) (ok := fun k_ => True) (n := t824.length) (c := co9) ?_).2.2; exact (by (with_reducible repeat (first | apply Kd.R_alloc | apply Kd.R_drewN | apply Kd.R_drew)); exact (Kd.R_mono (Kd.R_far (p := ⟨gb827, 1, none⟩) (Kd.R_far (p := ⟨gb827, 0, none⟩) (Kd.R_types HO826.out BK827.out (by decide)) (fun _ hk => hk.2) (.int .i64 t823)) (fun _ hk => hk.2) (.slice Ao9 t824.length co9)) (fun _ h_ => h_.1)))); (case side2 => exact (Kd.R_reads' HO826.out).2.1); rintro e w10 ⟨v829, rfl, ho0, hb⟩; have n0_ := Aside0.mk (Kd.R_below (by (with_reducible repeat (first | apply Kd.R_alloc | apply Kd.R_drewN | apply Kd.R_drew)); exact (Kd.R_mono (Kd.R_far (p := ⟨gb827, 1, none⟩) (Kd.R_far (p := ⟨gb827, 0, none⟩) (Kd.R_types HO826.out BK827.out (by decide)) (fun _ hk => hk.2) (.int .i64 t823)) (fun _ hk => hk.2) (.slice Ao9 t824.length co9)) (fun _ h_ => h_.1))) hb); have n1_ := Aside0.mk (Kd.R_lower ho0 (below_size (bl1 HB GE827))); have n2_ := Aside0.mk (blk_below (g := gb827) (o := .cells #[.int .i64 t823, .slice Ao9 t824.length co9] 25 (0, 0)) (by (with_reducible repeat (first | refine blk_drewN ?_ _ | refine blk_drew ?_ | refine blk_alloc ?_ _)); refine blk_put (cs := #[.int .i64 t823, .slice none 0 0]) ?_ 1 _ rfl; (with_reducible repeat (first | refine blk_drewN ?_ _ | refine blk_drew ?_ | refine blk_alloc ?_ _)); refine blk_put (cs := #[.int .i64 0, .slice none 0 0]) ?_ 0 _ rfl; (with_reducible repeat (first | refine blk_drewN ?_ _ | refine blk_drew ?_ | refine blk_alloc ?_ _)); exact BK827.out) hb); have n3_ := Aside0.mk (below_step (bl1 HB GE827) hb); clear HO826; clear BK827; clear HB; have HO826 := n0_; have HO830 := n1_; have BK827 := n2_; have HB := n3_; clear n0_ n1_ n2_ n3_; (try clear hb); (try clear hb2); (try clear hk); (try clear hi); (try clear ho0))); go_upto_region 5 with (first | (go_at_call 42; (with_reducible refine (spec_DrawReachParts.calls k _ _ l0 t823 t824 _ ?side1 ?side2 A3.out).mono ?_); (case side1 => repeat (first | exact HR0.out | (with_reducible refine Kd.C_alloc ?_ _) | (with_reducible refine Kd.C_drewN ?_ _) | (with_reducible refine Kd.C_drew ?_))); (case side2 => exact HC0.out); rintro e w6 ⟨v825, rfl, ho0, hb⟩; have n0_ := Aside0.mk (Kd.R_lower ho0 (below_size (bl HB))); have n1_ := Aside0.mk (below_step (bl HB) hb); clear HB; have HO826 := n0_; have HB := n1_; clear n0_ n1_; (try clear hb); (try clear hb2); (try clear hk); (try clear hi); (try clear ho0)) | ((with_reducible refine gate_dst (N := 3) rfl ?_); refine box_event ?hg (N := 3) ?hd (cs := #[.int .i64 0, .slice none 0 0]) (t := 25) ?hr ?_; (case hd => rfl); (case hg => rfl); (case hr => first | (go_simp; done) | (go_simp; rfl)); intro gb827 hg w7 hbox hb; have n0_ := Aside0.mk (Kd.R_below (rk HO826) hb); have n1_ := Aside0.mk (below_step (bl HB) hb); have n2_ := Aside0.mk (hbox); have n3_ := Aside0.mk ((by rw [hg]; exact (below_size (bl HB)) : w.heap.size ≤ gb827)); have n4_ := Aside0.mk ((by rw [hg]; exact (below_size (bl HB)) : w.heap.size ≤ gb827)); clear HO826; clear HB; have HO826 := n0_; have HB := n1_; have BK827 := n2_; have GW827 := n3_; have GE827 := n4_; clear n0_ n1_ n2_ n3_ n4_; clear hb hbox hg; have hcz8_0 : w7.cell? ⟨gb827, 0, none⟩ = some (.int .i64 0) := (blk_cell BK827.out 0).trans rfl; have hcz8_1 : w7.cell? ⟨gb827, 1, none⟩ = some (.slice none 0 0) := (blk_cell BK827.out 1).trans rfl; have hfz8_0 := blk_frozen BK827.out 0; have hfz8_1 := blk_frozen BK827.out 1; obtain ⟨Ao9, co9, eo9⟩ := Kd.R_slice HO826.out; subst eo9) | (go_at_call 43; (with_reducible refine (impl_ReachParts.calls k t823 _ _ t824 t828 _ ?side1 ?side2 A4.out).mono ?_); (case side1 => refine (Kd.R_reads' (e := 31) (base := w.heap.size) (ok := fun k_ => True) (n := t824.length) (c := co9) ?_).2.2; exact (by (with_reducible repeat (first | apply Kd.R_alloc | apply Kd.R_drewN | apply Kd.R_drew)); exact (Kd.R_mono (Kd.R_far (p := ⟨gb827, 1, none⟩) (Kd.R_far (p := ⟨gb827, 0, none⟩) (Kd.R_types HO826.out BK827.out (by decide)) (fun _ hk => hk.2) (.int .i64 t823)) (fun _ hk => hk.2) (.slice Ao9 t824.length co9)) (fun _ h_ => h_.1)))); (case side2 => exact (Kd.R_reads' HO826.out).2.1); rintro e w10 ⟨v829, rfl, ho0, hb⟩; have n0_ := Aside0.mk (Kd.R_below (by (with_reducible repeat (first | apply Kd.R_alloc | apply Kd.R_drewN | apply Kd.R_drew)); exact (Kd.R_mono (Kd.R_far (p := ⟨gb827, 1, none⟩) (Kd.R_far (p := ⟨gb827, 0, none⟩) (Kd.R_types HO826.out BK827.out (by decide)) (fun _ hk => hk.2) (.int .i64 t823)) (fun _ hk => hk.2) (.slice Ao9 t824.length co9)) (fun _ h_ => h_.1))) hb); have n1_ := Aside0.mk (Kd.R_lower ho0 (below_size (bl1 HB GE827))); have n2_ := Aside0.mk (blk_below (g := gb827) (o := .cells #[.int .i64 t823, .slice Ao9 t824.length co9] 25 (0, 0)) (by (with_reducible repeat (first | refine blk_drewN ?_ _ | refine blk_drew ?_ | refine blk_alloc ?_ _)); refine blk_put (cs := #[.int .i64 t823, .slice none 0 0]) ?_ 1 _ rfl; (with_reducible repeat (first | refine blk_drewN ?_ _ | refine blk_drew ?_ | refine blk_alloc ?_ _)); refine blk_put (cs := #[.int .i64 0, .slice none 0 0]) ?_ 0 _ rfl; (with_reducible repeat (first | refine blk_drewN ?_ _ | refine blk_drew ?_ | refine blk_alloc ?_ _)); exact BK827.out) hb); have n3_ := Aside0.mk (below_step (bl1 HB GE827) hb); clear HO826; clear BK827; clear HB; have HO826 := n0_; have HO830 := n1_; have BK827 := n2_; have HB := n3_; clear n0_ n1_ n2_ n3_; (try clear hb); (try clear hb2); (try clear hk); (try clear hi); (try clear ho0))))
  (try simp only [Act.put, List.setIfInBounds_toArray, List.set_cons_zero, List.set_cons_succ])
  go_cut [25] (fun v25 wc => ∃ (kq : Nat) (x25_4 : Bool), v25 = .bool x25_4 ∧ Aside0 (laws_FnReachParts.j0 kq t828 x25_4 t823 t824 = some r) ∧ Aside0 (kq ≤ k) ∧ Aside0 (Kd.R (Kd.int .i64) 3 wc w.heap.size (fun _ => True) v829 t828) ∧ Aside0 (Kd.R k31 31 wc w.heap.size (fun _ => True) (.slice Ao9 t824.length co9) t824) ∧ Aside0 (wc.heap[gb827]? = some (.cells #[.int .i64 t823, (.slice Ao9 t824.length co9)] 25 (0, 0))) ∧ Aside0 (Below w.heap.size w wc))
  case first =>
   have H := HC5.out
   clear HC5
   replace H := Option.bind_eq_some_iff.mp H
   obtain ⟨t831, A110, H⟩ := H
   have A11 := Aside0.mk A110
   clear A110
   replace H := Option.bind_eq_some_iff.mp H
   obtain ⟨t834, A120, H⟩ := H
   have A12 := Aside0.mk A120
   clear A120
   by_cases c13 : t834 = true
   ·subst c13
    rw [if_pos rfl] at H
    have H' := Aside0.mk H
    clear H
    have hcz14_0 : w10.cell? ⟨gb827, 0, none⟩ = some (.int .i64 t823) := (blk_cell BK827.out 0).trans rfl
    have hcz14_1 : w10.cell? ⟨gb827, 1, none⟩ = some (.slice Ao9 t824.length co9) := (blk_cell BK827.out 1).trans rfl
    have hfz14_0 := blk_frozen BK827.out 0
    have hfz14_1 := blk_frozen BK827.out 1
    go_wp2_with (first | (go_at_call 45; (with_reducible refine (spec_ReachParts.calls k t823 _ _ t824 t831 _ ?side1 ?side2 A11.out).mono ?_); (case side1 => repeat (first | exact (Kd.R_reads' HO826.out).2.2 | (with_reducible refine Kd.C_alloc ?_ _) | (with_reducible refine Kd.C_drewN ?_ _) | (with_reducible refine Kd.C_drew ?_))); (case side2 => exact (Kd.R_reads' HO826.out).2.1); rintro e w15 ⟨v832, rfl, ho0, hb⟩; have n0_ := Aside0.mk (Kd.R_below (rk HO826) hb); have n1_ := Aside0.mk (Kd.R_elder' (rk HO830) (Kd.R_base ho0) hb); have n2_ := Aside0.mk (Kd.R_lower (Kd.R_new' ho0 (Kd.R_lt (rk HO830))) (below_size (bl1 HB GE827))); have n3_ := Aside0.mk (blk_below (bk BK827) hb); have n4_ := Aside0.mk (below_step (bl1 HB GE827) hb); clear HO826; clear HO830; clear BK827; clear HB; have HO826 := n0_; have HO830 := n1_; have HO833 := n2_; have BK827 := n3_; have HB := n4_; clear n0_ n1_ n2_ n3_ n4_; (try clear hb); (try clear hb2); (try clear hk); (try clear hi); (try clear ho0); obtain ⟨Ao16, co16, eo16⟩ := Kd.R_slice HO830.out; subst eo16; obtain ⟨Ao17, co17, eo17⟩ := Kd.R_slice HO833.out; subst eo17) | (go_at_call 44; (with_reducible refine (laws_wkInts.calls k _ _ t828 _ _ t831 true _ ?side1 ?side2 ?side3 ?side4 A12.out).mono ?_); (case side1 => repeat (first | exact (Kd.R_reads' HO830.out).2.2 | (with_reducible refine Kd.C_alloc ?_ _) | (with_reducible refine Kd.C_drewN ?_ _) | (with_reducible refine Kd.C_drew ?_))); (case side2 => exact (Kd.R_reads' HO830.out).2.1); (case side3 => repeat (first | exact (Kd.R_reads' HO833.out).2.2 | (with_reducible refine Kd.C_alloc ?_ _) | (with_reducible refine Kd.C_drewN ?_ _) | (with_reducible refine Kd.C_drew ?_))); (case side4 => exact (Kd.R_reads' HO833.out).2.1); rintro e w' ⟨rfl, ⟨nd, rfl⟩⟩; (try first | exact ⟨rfl, _, World.drewN_drewN _ _ _⟩ | exact ⟨rfl, _, Eq.trans (World.drewN_drewN _ _ _) (congrArg (World.drewN _) (Nat.add_assoc _ _ _))⟩)))
    repeat (go_quiet (first | (go_at_call 45; (with_reducible refine (spec_ReachParts.calls k t823 _ _ t824 t831 _ ?side1 ?side2 A11.out).mono ?_); (case side1 => repeat (first | exact (Kd.R_reads' HO826.out).2.2 | (with_reducible refine Kd.C_alloc ?_ _) | (with_reducible refine Kd.C_drewN ?_ _) | (with_reducible refine Kd.C_drew ?_))); (case side2 => exact (Kd.R_reads' HO826.out).2.1); rintro e w15 ⟨v832, rfl, ho0, hb⟩; have n0_ := Aside0.mk (Kd.R_below (rk HO826) hb); have n1_ := Aside0.mk (Kd.R_elder' (rk HO830) (Kd.R_base ho0) hb); have n2_ := Aside0.mk (Kd.R_lower (Kd.R_new' ho0 (Kd.R_lt (rk HO830))) (below_size (bl1 HB GE827))); have n3_ := Aside0.mk (blk_below (bk BK827) hb); have n4_ := Aside0.mk (below_step (bl1 HB GE827) hb); clear HO826; clear HO830; clear BK827; clear HB; have HO826 := n0_; have HO830 := n1_; have HO833 := n2_; have BK827 := n3_; have HB := n4_; clear n0_ n1_ n2_ n3_ n4_; (try clear hb); (try clear hb2); (try clear hk); (try clear hi); (try clear ho0); obtain ⟨Ao16, co16, eo16⟩ := Kd.R_slice HO830.out; subst eo16; obtain ⟨Ao17, co17, eo17⟩ := Kd.R_slice HO833.out; subst eo17) | (go_at_call 44; (with_reducible refine (laws_wkInts.calls k _ _ t828 _ _ t831 true _ ?side1 ?side2 ?side3 ?side4 A12.out).mono ?_); (case side1 => repeat (first | exact (Kd.R_reads' HO830.out).2.2 | (with_reducible refine Kd.C_alloc ?_ _) | (with_reducible refine Kd.C_drewN ?_ _) | (with_reducible refine Kd.C_drew ?_))); (case side2 => exact (Kd.R_reads' HO830.out).2.1); (case side3 => repeat (first | exact (Kd.R_reads' HO833.out).2.2 | (with_reducible refine Kd.C_alloc ?_ _) | (with_reducible refine Kd.C_drewN ?_ _) | (with_reducible refine Kd.C_drew ?_))); (case side4 => exact (Kd.R_reads' HO833.out).2.1); rintro e w' ⟨rfl, ⟨nd, rfl⟩⟩; (try first | exact ⟨rfl, _, World.drewN_drewN _ _ _⟩ | exact ⟨rfl, _, Eq.trans (World.drewN_drewN _ _ _) (congrArg (World.drewN _) (Nat.add_assoc _ _ _))⟩))); try go_wp2_with (first | (go_at_call 45; (with_reducible refine (spec_ReachParts.calls k t823 _ _ t824 t831 _ ?side1 ?side2 A11.out).mono ?_); (case side1 => repeat (first | exact (Kd.R_reads' HO826.out).2.2 | (with_reducible refine Kd.C_alloc ?_ _) | (with_reducible refine Kd.C_drewN ?_ _) | (with_reducible refine Kd.C_drew ?_))); (case side2 => exact (Kd.R_reads' HO826.out).2.1); rintro e w15 ⟨v832, rfl, ho0, hb⟩; have n0_ := Aside0.mk (Kd.R_below (rk HO826) hb); have n1_ := Aside0.mk (Kd.R_elder' (rk HO830) (Kd.R_base ho0) hb); have n2_ := Aside0.mk (Kd.R_lower (Kd.R_new' ho0 (Kd.R_lt (rk HO830))) (below_size (bl1 HB GE827))); have n3_ := Aside0.mk (blk_below (bk BK827) hb); have n4_ := Aside0.mk (below_step (bl1 HB GE827) hb); clear HO826; clear HO830; clear BK827; clear HB; have HO826 := n0_; have HO830 := n1_; have HO833 := n2_; have BK827 := n3_; have HB := n4_; clear n0_ n1_ n2_ n3_ n4_; (try clear hb); (try clear hb2); (try clear hk); (try clear hi); (try clear ho0); obtain ⟨Ao16, co16, eo16⟩ := Kd.R_slice HO830.out; subst eo16; obtain ⟨Ao17, co17, eo17⟩ := Kd.R_slice HO833.out; subst eo17) | (go_at_call 44; (with_reducible refine (laws_wkInts.calls k _ _ t828 _ _ t831 true _ ?side1 ?side2 ?side3 ?side4 A12.out).mono ?_); (case side1 => repeat (first | exact (Kd.R_reads' HO830.out).2.2 | (with_reducible refine Kd.C_alloc ?_ _) | (with_reducible refine Kd.C_drewN ?_ _) | (with_reducible refine Kd.C_drew ?_))); (case side2 => exact (Kd.R_reads' HO830.out).2.1); (case side3 => repeat (first | exact (Kd.R_reads' HO833.out).2.2 | (with_reducible refine Kd.C_alloc ?_ _) | (with_reducible refine Kd.C_drewN ?_ _) | (with_reducible refine Kd.C_drew ?_))); (case side4 => exact (Kd.R_reads' HO833.out).2.1); rintro e w' ⟨rfl, ⟨nd, rfl⟩⟩; (try first | exact ⟨rfl, _, World.drewN_drewN _ _ _⟩ | exact ⟨rfl, _, Eq.trans (World.drewN_drewN _ _ _) (congrArg (World.drewN _) (Nat.add_assoc _ _ _))⟩))))
    go_meet
    case rel => exact ⟨_, (((t828.length : Int) == 0)), (by first | rfl | (simp; done) | (simp [*]; done)), H', ⟨by first | omega | exact Nat.le_refl _⟩, ⟨by (with_reducible repeat (first | apply Kd.R_alloc | apply Kd.R_drewN | apply Kd.R_drew)); exact Kd.R_mono HO830.out (fun _ hk => trivial)⟩, ⟨rk HO826⟩, ⟨bk BK827⟩, ⟨bl1 HB GE827⟩⟩
   ·replace c13 := Bool.eq_false_iff.mpr c13
    subst c13
    rw [if_neg (show ¬ (false = true) by decide)] at H
    have H' := Aside0.mk H
    clear H
    have hcz18_0 : w10.cell? ⟨gb827, 0, none⟩ = some (.int .i64 t823) := (blk_cell BK827.out 0).trans rfl
    have hcz18_1 : w10.cell? ⟨gb827, 1, none⟩ = some (.slice Ao9 t824.length co9) := (blk_cell BK827.out 1).trans rfl
    have hfz18_0 := blk_frozen BK827.out 0
    have hfz18_1 := blk_frozen BK827.out 1
    go_wp2_with (first | (go_at_call 45; (with_reducible refine (spec_ReachParts.calls k t823 _ _ t824 t831 _ ?side1 ?side2 A11.out).mono ?_); (case side1 => repeat (first | exact (Kd.R_reads' HO826.out).2.2 | (with_reducible refine Kd.C_alloc ?_ _) | (with_reducible refine Kd.C_drewN ?_ _) | (with_reducible refine Kd.C_drew ?_))); (case side2 => exact (Kd.R_reads' HO826.out).2.1); rintro e w19 ⟨v832, rfl, ho0, hb⟩; have n0_ := Aside0.mk (Kd.R_below (rk HO826) hb); have n1_ := Aside0.mk (Kd.R_elder' (rk HO830) (Kd.R_base ho0) hb); have n2_ := Aside0.mk (Kd.R_lower (Kd.R_new' ho0 (Kd.R_lt (rk HO830))) (below_size (bl1 HB GE827))); have n3_ := Aside0.mk (blk_below (bk BK827) hb); have n4_ := Aside0.mk (below_step (bl1 HB GE827) hb); clear HO826; clear HO830; clear BK827; clear HB; have HO826 := n0_; have HO830 := n1_; have HO833 := n2_; have BK827 := n3_; have HB := n4_; clear n0_ n1_ n2_ n3_ n4_; (try clear hb); (try clear hb2); (try clear hk); (try clear hi); (try clear ho0); obtain ⟨Ao20, co20, eo20⟩ := Kd.R_slice HO830.out; subst eo20; obtain ⟨Ao21, co21, eo21⟩ := Kd.R_slice HO833.out; subst eo21) | (go_at_call 44; (with_reducible refine (laws_wkInts.calls k _ _ t828 _ _ t831 false _ ?side1 ?side2 ?side3 ?side4 A12.out).mono ?_); (case side1 => repeat (first | exact (Kd.R_reads' HO830.out).2.2 | (with_reducible refine Kd.C_alloc ?_ _) | (with_reducible refine Kd.C_drewN ?_ _) | (with_reducible refine Kd.C_drew ?_))); (case side2 => exact (Kd.R_reads' HO830.out).2.1); (case side3 => repeat (first | exact (Kd.R_reads' HO833.out).2.2 | (with_reducible refine Kd.C_alloc ?_ _) | (with_reducible refine Kd.C_drewN ?_ _) | (with_reducible refine Kd.C_drew ?_))); (case side4 => exact (Kd.R_reads' HO833.out).2.1); rintro e w' ⟨rfl, ⟨nd, rfl⟩⟩; (try first | exact ⟨rfl, _, World.drewN_drewN _ _ _⟩ | exact ⟨rfl, _, Eq.trans (World.drewN_drewN _ _ _) (congrArg (World.drewN _) (Nat.add_assoc _ _ _))⟩)))
    repeat (go_quiet (first | (go_at_call 45; (with_reducible refine (spec_ReachParts.calls k t823 _ _ t824 t831 _ ?side1 ?side2 A11.out).mono ?_); (case side1 => repeat (first | exact (Kd.R_reads' HO826.out).2.2 | (with_reducible refine Kd.C_alloc ?_ _) | (with_reducible refine Kd.C_drewN ?_ _) | (with_reducible refine Kd.C_drew ?_))); (case side2 => exact (Kd.R_reads' HO826.out).2.1); rintro e w19 ⟨v832, rfl, ho0, hb⟩; have n0_ := Aside0.mk (Kd.R_below (rk HO826) hb); have n1_ := Aside0.mk (Kd.R_elder' (rk HO830) (Kd.R_base ho0) hb); have n2_ := Aside0.mk (Kd.R_lower (Kd.R_new' ho0 (Kd.R_lt (rk HO830))) (below_size (bl1 HB GE827))); have n3_ := Aside0.mk (blk_below (bk BK827) hb); have n4_ := Aside0.mk (below_step (bl1 HB GE827) hb); clear HO826; clear HO830; clear BK827; clear HB; have HO826 := n0_; have HO830 := n1_; have HO833 := n2_; have BK827 := n3_; have HB := n4_; clear n0_ n1_ n2_ n3_ n4_; (try clear hb); (try clear hb2); (try clear hk); (try clear hi); (try clear ho0); obtain ⟨Ao20, co20, eo20⟩ := Kd.R_slice HO830.out; subst eo20; obtain ⟨Ao21, co21, eo21⟩ := Kd.R_slice HO833.out; subst eo21) | (go_at_call 44; (with_reducible refine (laws_wkInts.calls k _ _ t828 _ _ t831 false _ ?side1 ?side2 ?side3 ?side4 A12.out).mono ?_); (case side1 => repeat (first | exact (Kd.R_reads' HO830.out).2.2 | (with_reducible refine Kd.C_alloc ?_ _) | (with_reducible refine Kd.C_drewN ?_ _) | (with_reducible refine Kd.C_drew ?_))); (case side2 => exact (Kd.R_reads' HO830.out).2.1); (case side3 => repeat (first | exact (Kd.R_reads' HO833.out).2.2 | (with_reducible refine Kd.C_alloc ?_ _) | (with_reducible refine Kd.C_drewN ?_ _) | (with_reducible refine Kd.C_drew ?_))); (case side4 => exact (Kd.R_reads' HO833.out).2.1); rintro e w' ⟨rfl, ⟨nd, rfl⟩⟩; (try first | exact ⟨rfl, _, World.drewN_drewN _ _ _⟩ | exact ⟨rfl, _, Eq.trans (World.drewN_drewN _ _ _) (congrArg (World.drewN _) (Nat.add_assoc _ _ _))⟩))); try go_wp2_with (first | (go_at_call 45; (with_reducible refine (spec_ReachParts.calls k t823 _ _ t824 t831 _ ?side1 ?side2 A11.out).mono ?_); (case side1 => repeat (first | exact (Kd.R_reads' HO826.out).2.2 | (with_reducible refine Kd.C_alloc ?_ _) | (with_reducible refine Kd.C_drewN ?_ _) | (with_reducible refine Kd.C_drew ?_))); (case side2 => exact (Kd.R_reads' HO826.out).2.1); rintro e w19 ⟨v832, rfl, ho0, hb⟩; have n0_ := Aside0.mk (Kd.R_below (rk HO826) hb); have n1_ := Aside0.mk (Kd.R_elder' (rk HO830) (Kd.R_base ho0) hb); have n2_ := Aside0.mk (Kd.R_lower (Kd.R_new' ho0 (Kd.R_lt (rk HO830))) (below_size (bl1 HB GE827))); have n3_ := Aside0.mk (blk_below (bk BK827) hb); have n4_ := Aside0.mk (below_step (bl1 HB GE827) hb); clear HO826; clear HO830; clear BK827; clear HB; have HO826 := n0_; have HO830 := n1_; have HO833 := n2_; have BK827 := n3_; have HB := n4_; clear n0_ n1_ n2_ n3_ n4_; (try clear hb); (try clear hb2); (try clear hk); (try clear hi); (try clear ho0); obtain ⟨Ao20, co20, eo20⟩ := Kd.R_slice HO830.out; subst eo20; obtain ⟨Ao21, co21, eo21⟩ := Kd.R_slice HO833.out; subst eo21) | (go_at_call 44; (with_reducible refine (laws_wkInts.calls k _ _ t828 _ _ t831 false _ ?side1 ?side2 ?side3 ?side4 A12.out).mono ?_); (case side1 => repeat (first | exact (Kd.R_reads' HO830.out).2.2 | (with_reducible refine Kd.C_alloc ?_ _) | (with_reducible refine Kd.C_drewN ?_ _) | (with_reducible refine Kd.C_drew ?_))); (case side2 => exact (Kd.R_reads' HO830.out).2.1); (case side3 => repeat (first | exact (Kd.R_reads' HO833.out).2.2 | (with_reducible refine Kd.C_alloc ?_ _) | (with_reducible refine Kd.C_drewN ?_ _) | (with_reducible refine Kd.C_drew ?_))); (case side4 => exact (Kd.R_reads' HO833.out).2.1); rintro e w' ⟨rfl, ⟨nd, rfl⟩⟩; (try first | exact ⟨rfl, _, World.drewN_drewN _ _ _⟩ | exact ⟨rfl, _, Eq.trans (World.drewN_drewN _ _ _) (congrArg (World.drewN _) (Nat.add_assoc _ _ _))⟩))))
    go_meet
    case rel => exact ⟨_, (true), (by first | rfl | (simp; done) | (simp [*]; done)), H', ⟨by first | omega | exact Nat.le_refl _⟩, ⟨by (with_reducible repeat (first | apply Kd.R_alloc | apply Kd.R_drewN | apply Kd.R_drew)); exact Kd.R_mono HO830.out (fun _ hk => trivial)⟩, ⟨rk HO826⟩, ⟨bk BK827⟩, ⟨bl1 HB GE827⟩⟩
  case rest =>
   clear HC5
   try clear c1
   try clear c2
   try clear c2b0
   try clear c2b1
   try clear p2
   try clear c11
   try clear c13
   try clear hcz14_0
   try clear hcz14_1
   try clear hcz18_0
   try clear hcz18_1
   try clear hcz8_0
   try clear hcz8_1
   try clear hfz14_0
   try clear hfz14_1
   try clear hfz18_0
   try clear hfz18_1
   try clear hfz8_0
   try clear hfz8_1
   obtain ⟨kq, x25_4, rfl, HA, HJ4, HO_4, HO_828001, BK827, HB⟩ := hcut
   cases kq with
   | zero => exact absurd HA.out (by simp [laws_FnReachParts.j0])
   | succ kj4 =>
    have H := HA.out
    clear HA
    simp only [laws_FnReachParts.j0] at H
    by_cases c22 : x25_4 = true
    ·subst c22
     rw [if_pos rfl] at H
     replace H := Option.bind_eq_some_iff.mp H
     obtain ⟨t835, A230, H⟩ := H
     have A23 := Aside0.mk A230
     clear A230
     replace H := Option.bind_eq_some_iff.mp H
     obtain ⟨t838, A240, H⟩ := H
     have A24 := Aside0.mk A240
     clear A240
     obtain rfl := Option.some.inj H
     have hcz25_0 : wc.cell? ⟨gb827, 0, none⟩ = some (.int .i64 t823) := (blk_cell BK827.out 0).trans rfl
     have hcz25_1 : wc.cell? ⟨gb827, 1, none⟩ = some (.slice Ao9 t824.length co9) := (blk_cell BK827.out 1).trans rfl
     have hfz25_0 := blk_frozen BK827.out 0
     have hfz25_1 := blk_frozen BK827.out 1
     go_wp2_with (first | (go_at_call 45; (with_reducible refine (spec_ReachParts.calls kj4 t823 _ _ t824 t835 _ ?side1 ?side2 A23.out).mono ?_); (case side1 => repeat (first | exact (Kd.R_reads' HO_828001.out).2.2 | (with_reducible refine Kd.C_alloc ?_ _) | (with_reducible refine Kd.C_drewN ?_ _) | (with_reducible refine Kd.C_drew ?_))); (case side2 => exact (Kd.R_reads' HO_828001.out).2.1); rintro e w26 ⟨v836, rfl, ho0, hb⟩; have n0_ := Aside0.mk (Kd.R_elder' (rk HO_4) (Kd.R_base ho0) hb); have n1_ := Aside0.mk (Kd.R_below (rk HO_828001) hb); have n2_ := Aside0.mk (Kd.R_lower (Kd.R_new' ho0 (Kd.R_lt (rk HO_4))) (below_size (bl1 HB GE827))); have n3_ := Aside0.mk (blk_below (bk BK827) hb); have n4_ := Aside0.mk (below_step (bl1 HB GE827) hb); clear HO_4; clear HO_828001; clear BK827; clear HB; have HO_4 := n0_; have HO_828001 := n1_; have HO837 := n2_; have BK827 := n3_; have HB := n4_; clear n0_ n1_ n2_ n3_ n4_; (try clear hb); (try clear hb2); (try clear hk); (try clear hi); (try clear ho0); obtain ⟨Ao27, co27, eo27⟩ := Kd.R_slice HO_4.out; subst eo27; obtain ⟨Ao28, co28, eo28⟩ := Kd.R_slice HO837.out; subst eo28) | (go_at_call 44; (with_reducible refine (laws_wkInts.calls kj4 _ _ t828 _ _ t835 t838 _ ?side1 ?side2 ?side3 ?side4 A24.out).mono ?_); (case side1 => repeat (first | exact (Kd.R_reads' HO_4.out).2.2 | (with_reducible refine Kd.C_alloc ?_ _) | (with_reducible refine Kd.C_drewN ?_ _) | (with_reducible refine Kd.C_drew ?_))); (case side2 => exact (Kd.R_reads' HO_4.out).2.1); (case side3 => repeat (first | exact (Kd.R_reads' HO837.out).2.2 | (with_reducible refine Kd.C_alloc ?_ _) | (with_reducible refine Kd.C_drewN ?_ _) | (with_reducible refine Kd.C_drew ?_))); (case side4 => exact (Kd.R_reads' HO837.out).2.1); rintro e w' ⟨rfl, ⟨nd, rfl⟩⟩; (try first | exact ⟨rfl, _, World.drewN_drewN _ _ _⟩ | exact ⟨rfl, _, Eq.trans (World.drewN_drewN _ _ _) (congrArg (World.drewN _) (Nat.add_assoc _ _ _))⟩)))
     repeat (go_quiet (first | (go_at_call 45; (with_reducible refine (spec_ReachParts.calls kj4 t823 _ _ t824 t835 _ ?side1 ?side2 A23.out).mono ?_); (case side1 => repeat (first | exact (Kd.R_reads' HO_828001.out).2.2 | (with_reducible refine Kd.C_alloc ?_ _) | (with_reducible refine Kd.C_drewN ?_ _) | (with_reducible refine Kd.C_drew ?_))); (case side2 => exact (Kd.R_reads' HO_828001.out).2.1); rintro e w26 ⟨v836, rfl, ho0, hb⟩; have n0_ := Aside0.mk (Kd.R_elder' (rk HO_4) (Kd.R_base ho0) hb); have n1_ := Aside0.mk (Kd.R_below (rk HO_828001) hb); have n2_ := Aside0.mk (Kd.R_lower (Kd.R_new' ho0 (Kd.R_lt (rk HO_4))) (below_size (bl1 HB GE827))); have n3_ := Aside0.mk (blk_below (bk BK827) hb); have n4_ := Aside0.mk (below_step (bl1 HB GE827) hb); clear HO_4; clear HO_828001; clear BK827; clear HB; have HO_4 := n0_; have HO_828001 := n1_; have HO837 := n2_; have BK827 := n3_; have HB := n4_; clear n0_ n1_ n2_ n3_ n4_; (try clear hb); (try clear hb2); (try clear hk); (try clear hi); (try clear ho0); obtain ⟨Ao27, co27, eo27⟩ := Kd.R_slice HO_4.out; subst eo27; obtain ⟨Ao28, co28, eo28⟩ := Kd.R_slice HO837.out; subst eo28) | (go_at_call 44; (with_reducible refine (laws_wkInts.calls kj4 _ _ t828 _ _ t835 t838 _ ?side1 ?side2 ?side3 ?side4 A24.out).mono ?_); (case side1 => repeat (first | exact (Kd.R_reads' HO_4.out).2.2 | (with_reducible refine Kd.C_alloc ?_ _) | (with_reducible refine Kd.C_drewN ?_ _) | (with_reducible refine Kd.C_drew ?_))); (case side2 => exact (Kd.R_reads' HO_4.out).2.1); (case side3 => repeat (first | exact (Kd.R_reads' HO837.out).2.2 | (with_reducible refine Kd.C_alloc ?_ _) | (with_reducible refine Kd.C_drewN ?_ _) | (with_reducible refine Kd.C_drew ?_))); (case side4 => exact (Kd.R_reads' HO837.out).2.1); rintro e w' ⟨rfl, ⟨nd, rfl⟩⟩; (try first | exact ⟨rfl, _, World.drewN_drewN _ _ _⟩ | exact ⟨rfl, _, Eq.trans (World.drewN_drewN _ _ _) (congrArg (World.drewN _) (Nat.add_assoc _ _ _))⟩))); try go_wp2_with (first | (go_at_call 45; (with_reducible refine (spec_ReachParts.calls kj4 t823 _ _ t824 t835 _ ?side1 ?side2 A23.out).mono ?_); (case side1 => repeat (first | exact (Kd.R_reads' HO_828001.out).2.2 | (with_reducible refine Kd.C_alloc ?_ _) | (with_reducible refine Kd.C_drewN ?_ _) | (with_reducible refine Kd.C_drew ?_))); (case side2 => exact (Kd.R_reads' HO_828001.out).2.1); rintro e w26 ⟨v836, rfl, ho0, hb⟩; have n0_ := Aside0.mk (Kd.R_elder' (rk HO_4) (Kd.R_base ho0) hb); have n1_ := Aside0.mk (Kd.R_below (rk HO_828001) hb); have n2_ := Aside0.mk (Kd.R_lower (Kd.R_new' ho0 (Kd.R_lt (rk HO_4))) (below_size (bl1 HB GE827))); have n3_ := Aside0.mk (blk_below (bk BK827) hb); have n4_ := Aside0.mk (below_step (bl1 HB GE827) hb); clear HO_4; clear HO_828001; clear BK827; clear HB; have HO_4 := n0_; have HO_828001 := n1_; have HO837 := n2_; have BK827 := n3_; have HB := n4_; clear n0_ n1_ n2_ n3_ n4_; (try clear hb); (try clear hb2); (try clear hk); (try clear hi); (try clear ho0); obtain ⟨Ao27, co27, eo27⟩ := Kd.R_slice HO_4.out; subst eo27; obtain ⟨Ao28, co28, eo28⟩ := Kd.R_slice HO837.out; subst eo28) | (go_at_call 44; (with_reducible refine (laws_wkInts.calls kj4 _ _ t828 _ _ t835 t838 _ ?side1 ?side2 ?side3 ?side4 A24.out).mono ?_); (case side1 => repeat (first | exact (Kd.R_reads' HO_4.out).2.2 | (with_reducible refine Kd.C_alloc ?_ _) | (with_reducible refine Kd.C_drewN ?_ _) | (with_reducible refine Kd.C_drew ?_))); (case side2 => exact (Kd.R_reads' HO_4.out).2.1); (case side3 => repeat (first | exact (Kd.R_reads' HO837.out).2.2 | (with_reducible refine Kd.C_alloc ?_ _) | (with_reducible refine Kd.C_drewN ?_ _) | (with_reducible refine Kd.C_drew ?_))); (case side4 => exact (Kd.R_reads' HO837.out).2.1); rintro e w' ⟨rfl, ⟨nd, rfl⟩⟩; (try first | exact ⟨rfl, _, World.drewN_drewN _ _ _⟩ | exact ⟨rfl, _, Eq.trans (World.drewN_drewN _ _ _) (congrArg (World.drewN _) (Nat.add_assoc _ _ _))⟩))))
     go_ret
     exact ⟨by first | rfl | (simp [errW_none, errW_some] <;> rfl) | (simp [*, errW_none, errW_some] <;> rfl), bl1 HB GE827⟩
    ·replace c22 := Bool.eq_false_iff.mpr c22
     subst c22
     rw [if_neg (show ¬ (false = true) by decide)] at H
     have H' := Aside0.mk H
     clear H
     go_wp2
     repeat (go_quiet (fail); try go_wp2)
     go_loopg [5] kj4 (fun kq v5 w' => ∃ (x5_2 : Int), v5 = .int .i64 x5_2 ∧ Aside0 (laws_FnReachParts.l0 kq t828 x5_2 t823 t824 = some r) ∧ Aside0 (kq ≤ kj4) ∧ Aside0 (Kd.R (Kd.int .i64) 3 w' w.heap.size (fun _ => True) v829 t828) ∧ Aside0 (Kd.R k31 31 w' w.heap.size (fun _ => True) (.slice Ao9 t824.length co9) t824) ∧ Aside0 (w'.heap[gb827]? = some (.cells #[.int .i64 t823, (.slice Ao9 t824.length co9)] 25 (0, 0))) ∧ Aside0 (Below w.heap.size w w'))
     case atStart => exact ⟨(0), (by first | rfl | (simp; done) | (simp [*]; done)), H', ⟨Nat.le_refl _⟩, ⟨rk HO_4⟩, ⟨rk HO_828001⟩, ⟨bk BK827⟩, ⟨bl1 HB GE827⟩⟩
     case round =>
      clear H'
      try clear c1
      try clear c2
      try clear c2b0
      try clear c2b1
      try clear p2
      try clear c11
      try clear c13
      try clear c22
      try clear hcz14_0
      try clear hcz14_1
      try clear hcz18_0
      try clear hcz18_1
      try clear hcz25_0
      try clear hcz25_1
      try clear hcz8_0
      try clear hcz8_1
      try clear hfz14_0
      try clear hfz14_1
      try clear hfz18_0
      try clear hfz18_1
      try clear hfz25_0
      try clear hfz25_1
      try clear hfz8_0
      try clear hfz8_1
      try clear p2
      obtain ⟨x5_2, rfl, HA, HK2, HO_4, HO_828001, BK827, HB⟩ := hrel
      cases gk with
      | zero => exact absurd HA.out (by simp [laws_FnReachParts.l0])
      | succ k2 =>
       have H := HA.out
       clear HA
       simp only [laws_FnReachParts.l0] at H
       by_cases c29 : x5_2 < t823
       ·rw [if_pos c29] at H
        have c29b0 : decide (x5_2 < t823) = true := decide_eq_true c29
        clear c29
        replace H := Option.bind_eq_some_iff.mp H
        obtain ⟨t847, A300, H⟩ := H
        have A30 := Aside0.mk A300
        clear A300
        replace H := Option.bind_eq_some_iff.mp H
        obtain ⟨t850, A310, H⟩ := H
        have A31 := Aside0.mk A310
        clear A310
        have H' := Aside0.mk H
        clear H
        have hcz32_0 : wr.cell? ⟨gb827, 0, none⟩ = some (.int .i64 t823) := (blk_cell BK827.out 0).trans rfl
        have hcz32_1 : wr.cell? ⟨gb827, 1, none⟩ = some (.slice Ao9 t824.length co9) := (blk_cell BK827.out 1).trans rfl
        have hfz32_0 := blk_frozen BK827.out 0
        have hfz32_1 := blk_frozen BK827.out 1
        go_wp2_with (first | (go_at_call 46; (with_reducible refine (impl_NearAll.calls k2 t823 _ _ t824 x5_2 t847 _ ?side1 ?side2 A30.out).mono ?_); (case side1 => repeat (first | exact (Kd.R_reads' HO_828001.out).2.2 | (with_reducible refine Kd.C_alloc ?_ _) | (with_reducible refine Kd.C_drewN ?_ _) | (with_reducible refine Kd.C_drew ?_))); (case side2 => exact (Kd.R_reads' HO_828001.out).2.1); rintro e w33 ⟨v848, rfl, ho0, hb⟩; have n0_ := Aside0.mk (Kd.R_elder' (rk HO_4) (Kd.R_base ho0) hb); have n1_ := Aside0.mk (Kd.R_below (rk HO_828001) hb); have n2_ := Aside0.mk (Kd.R_lower (Kd.R_new' ho0 (Kd.R_lt (rk HO_4))) (below_size (bl1 HB GE827))); have n3_ := Aside0.mk (blk_below (bk BK827) hb); have n4_ := Aside0.mk (below_step (bl1 HB GE827) hb); clear HO_4; clear HO_828001; clear BK827; clear HB; have HO_4 := n0_; have HO_828001 := n1_; have HO849 := n2_; have BK827 := n3_; have HB := n4_; clear n0_ n1_ n2_ n3_ n4_; (try clear hb); (try clear hb2); (try clear hk); (try clear hi); (try clear ho0); have hcz34_0 : w33.cell? ⟨gb827, 0, none⟩ = some (.int .i64 t823) := (blk_cell BK827.out 0).trans rfl; have hcz34_1 : w33.cell? ⟨gb827, 1, none⟩ = some (.slice Ao9 t824.length co9) := (blk_cell BK827.out 1).trans rfl; have hfz34_0 := blk_frozen BK827.out 0; have hfz34_1 := blk_frozen BK827.out 1) | (go_at_call 47; (with_reducible refine (impl_NearTo.calls k2 t823 _ _ t824 x5_2 t850 _ ?side1 ?side2 A31.out).mono ?_); (case side1 => repeat (first | exact (Kd.R_reads' HO_828001.out).2.2 | (with_reducible refine Kd.C_alloc ?_ _) | (with_reducible refine Kd.C_drewN ?_ _) | (with_reducible refine Kd.C_drew ?_))); (case side2 => exact (Kd.R_reads' HO_828001.out).2.1); rintro e w35 ⟨v851, rfl, ho0, hb⟩; have n0_ := Aside0.mk (Kd.R_elder' (rk HO_4) (Kd.R_base ho0) hb); have n1_ := Aside0.mk (Kd.R_below (rk HO_828001) hb); have n2_ := Aside0.mk (Kd.R_elder' (rk HO849) (Kd.R_base ho0) hb); have n3_ := Aside0.mk (Kd.R_lower (Kd.R_new' (Kd.R_new' ho0 (Kd.R_lt (rk HO_4))) (Kd.R_lt (rk HO849))) (below_size (bl1 HB GE827))); have n4_ := Aside0.mk (blk_below (bk BK827) hb); have n5_ := Aside0.mk (below_step (bl1 HB GE827) hb); clear HO_4; clear HO_828001; clear HO849; clear BK827; clear HB; have HO_4 := n0_; have HO_828001 := n1_; have HO849 := n2_; have HO852 := n3_; have BK827 := n4_; have HB := n5_; clear n0_ n1_ n2_ n3_ n4_ n5_; (try clear hb); (try clear hb2); (try clear hk); (try clear hi); (try clear ho0)))
        repeat (go_quiet (first | (go_at_call 46; (with_reducible refine (impl_NearAll.calls k2 t823 _ _ t824 x5_2 t847 _ ?side1 ?side2 A30.out).mono ?_); (case side1 => repeat (first | exact (Kd.R_reads' HO_828001.out).2.2 | (with_reducible refine Kd.C_alloc ?_ _) | (with_reducible refine Kd.C_drewN ?_ _) | (with_reducible refine Kd.C_drew ?_))); (case side2 => exact (Kd.R_reads' HO_828001.out).2.1); rintro e w33 ⟨v848, rfl, ho0, hb⟩; have n0_ := Aside0.mk (Kd.R_elder' (rk HO_4) (Kd.R_base ho0) hb); have n1_ := Aside0.mk (Kd.R_below (rk HO_828001) hb); have n2_ := Aside0.mk (Kd.R_lower (Kd.R_new' ho0 (Kd.R_lt (rk HO_4))) (below_size (bl1 HB GE827))); have n3_ := Aside0.mk (blk_below (bk BK827) hb); have n4_ := Aside0.mk (below_step (bl1 HB GE827) hb); clear HO_4; clear HO_828001; clear BK827; clear HB; have HO_4 := n0_; have HO_828001 := n1_; have HO849 := n2_; have BK827 := n3_; have HB := n4_; clear n0_ n1_ n2_ n3_ n4_; (try clear hb); (try clear hb2); (try clear hk); (try clear hi); (try clear ho0); have hcz34_0 : w33.cell? ⟨gb827, 0, none⟩ = some (.int .i64 t823) := (blk_cell BK827.out 0).trans rfl; have hcz34_1 : w33.cell? ⟨gb827, 1, none⟩ = some (.slice Ao9 t824.length co9) := (blk_cell BK827.out 1).trans rfl; have hfz34_0 := blk_frozen BK827.out 0; have hfz34_1 := blk_frozen BK827.out 1) | (go_at_call 47; (with_reducible refine (impl_NearTo.calls k2 t823 _ _ t824 x5_2 t850 _ ?side1 ?side2 A31.out).mono ?_); (case side1 => repeat (first | exact (Kd.R_reads' HO_828001.out).2.2 | (with_reducible refine Kd.C_alloc ?_ _) | (with_reducible refine Kd.C_drewN ?_ _) | (with_reducible refine Kd.C_drew ?_))); (case side2 => exact (Kd.R_reads' HO_828001.out).2.1); rintro e w35 ⟨v851, rfl, ho0, hb⟩; have n0_ := Aside0.mk (Kd.R_elder' (rk HO_4) (Kd.R_base ho0) hb); have n1_ := Aside0.mk (Kd.R_below (rk HO_828001) hb); have n2_ := Aside0.mk (Kd.R_elder' (rk HO849) (Kd.R_base ho0) hb); have n3_ := Aside0.mk (Kd.R_lower (Kd.R_new' (Kd.R_new' ho0 (Kd.R_lt (rk HO_4))) (Kd.R_lt (rk HO849))) (below_size (bl1 HB GE827))); have n4_ := Aside0.mk (blk_below (bk BK827) hb); have n5_ := Aside0.mk (below_step (bl1 HB GE827) hb); clear HO_4; clear HO_828001; clear HO849; clear BK827; clear HB; have HO_4 := n0_; have HO_828001 := n1_; have HO849 := n2_; have HO852 := n3_; have BK827 := n4_; have HB := n5_; clear n0_ n1_ n2_ n3_ n4_ n5_; (try clear hb); (try clear hb2); (try clear hk); (try clear hi); (try clear ho0))); try go_wp2_with (first | (go_at_call 46; (with_reducible refine (impl_NearAll.calls k2 t823 _ _ t824 x5_2 t847 _ ?side1 ?side2 A30.out).mono ?_); (case side1 => repeat (first | exact (Kd.R_reads' HO_828001.out).2.2 | (with_reducible refine Kd.C_alloc ?_ _) | (with_reducible refine Kd.C_drewN ?_ _) | (with_reducible refine Kd.C_drew ?_))); (case side2 => exact (Kd.R_reads' HO_828001.out).2.1); rintro e w33 ⟨v848, rfl, ho0, hb⟩; have n0_ := Aside0.mk (Kd.R_elder' (rk HO_4) (Kd.R_base ho0) hb); have n1_ := Aside0.mk (Kd.R_below (rk HO_828001) hb); have n2_ := Aside0.mk (Kd.R_lower (Kd.R_new' ho0 (Kd.R_lt (rk HO_4))) (below_size (bl1 HB GE827))); have n3_ := Aside0.mk (blk_below (bk BK827) hb); have n4_ := Aside0.mk (below_step (bl1 HB GE827) hb); clear HO_4; clear HO_828001; clear BK827; clear HB; have HO_4 := n0_; have HO_828001 := n1_; have HO849 := n2_; have BK827 := n3_; have HB := n4_; clear n0_ n1_ n2_ n3_ n4_; (try clear hb); (try clear hb2); (try clear hk); (try clear hi); (try clear ho0); have hcz34_0 : w33.cell? ⟨gb827, 0, none⟩ = some (.int .i64 t823) := (blk_cell BK827.out 0).trans rfl; have hcz34_1 : w33.cell? ⟨gb827, 1, none⟩ = some (.slice Ao9 t824.length co9) := (blk_cell BK827.out 1).trans rfl; have hfz34_0 := blk_frozen BK827.out 0; have hfz34_1 := blk_frozen BK827.out 1) | (go_at_call 47; (with_reducible refine (impl_NearTo.calls k2 t823 _ _ t824 x5_2 t850 _ ?side1 ?side2 A31.out).mono ?_); (case side1 => repeat (first | exact (Kd.R_reads' HO_828001.out).2.2 | (with_reducible refine Kd.C_alloc ?_ _) | (with_reducible refine Kd.C_drewN ?_ _) | (with_reducible refine Kd.C_drew ?_))); (case side2 => exact (Kd.R_reads' HO_828001.out).2.1); rintro e w35 ⟨v851, rfl, ho0, hb⟩; have n0_ := Aside0.mk (Kd.R_elder' (rk HO_4) (Kd.R_base ho0) hb); have n1_ := Aside0.mk (Kd.R_below (rk HO_828001) hb); have n2_ := Aside0.mk (Kd.R_elder' (rk HO849) (Kd.R_base ho0) hb); have n3_ := Aside0.mk (Kd.R_lower (Kd.R_new' (Kd.R_new' ho0 (Kd.R_lt (rk HO_4))) (Kd.R_lt (rk HO849))) (below_size (bl1 HB GE827))); have n4_ := Aside0.mk (blk_below (bk BK827) hb); have n5_ := Aside0.mk (below_step (bl1 HB GE827) hb); clear HO_4; clear HO_828001; clear HO849; clear BK827; clear HB; have HO_4 := n0_; have HO_828001 := n1_; have HO849 := n2_; have HO852 := n3_; have BK827 := n4_; have HB := n5_; clear n0_ n1_ n2_ n3_ n4_ n5_; (try clear hb); (try clear hb2); (try clear hk); (try clear hi); (try clear ho0))))
        go_loopg [8] k2 (fun kq v8 w' => ∃ (x8_3 : Int), v8 = .int .i64 x8_3 ∧ Aside0 (laws_FnReachParts.l1 kq t828 x5_2 t847 t850 x8_3 t823 t824 = some r) ∧ Aside0 (kq ≤ k2) ∧ Aside0 (Kd.R (Kd.int .i64) 3 w' w.heap.size (fun k_ => some k_ ≠ (v848 : Value).ownBlock ∧ some k_ ≠ (v851 : Value).ownBlock) v829 t828) ∧ Aside0 (Kd.R (Kd.int .i64) 3 w' w.heap.size (fun k_ => some k_ ≠ (v829 : Value).ownBlock ∧ some k_ ≠ (v851 : Value).ownBlock) v848 t847) ∧ Aside0 (Kd.R (Kd.int .i64) 3 w' w.heap.size (fun k_ => some k_ ≠ (v829 : Value).ownBlock ∧ some k_ ≠ (v848 : Value).ownBlock) v851 t850) ∧ Aside0 (Kd.R k31 31 w' w.heap.size (fun _ => True) (.slice Ao9 t824.length co9) t824) ∧ Aside0 (w'.heap[gb827]? = some (.cells #[.int .i64 t823, (.slice Ao9 t824.length co9)] 25 (0, 0))) ∧ Aside0 (Below w.heap.size w w'))
        case atStart => exact ⟨(0), (by first | rfl | (simp; done) | (simp [*]; done)), H', ⟨Nat.le_refl _⟩, ⟨by (with_reducible repeat (first | apply Kd.R_alloc | apply Kd.R_drewN | apply Kd.R_drew)); exact Kd.R_mono HO_4.out (fun _ hk => ⟨hk.1.2, hk.2⟩)⟩, ⟨by (with_reducible repeat (first | apply Kd.R_alloc | apply Kd.R_drewN | apply Kd.R_drew)); exact Kd.R_mono HO849.out (fun _ hk => ⟨hk.1.2, hk.2⟩)⟩, ⟨by (with_reducible repeat (first | apply Kd.R_alloc | apply Kd.R_drewN | apply Kd.R_drew)); exact Kd.R_mono HO852.out (fun _ hk => ⟨hk.1.2, hk.2⟩)⟩, ⟨rk HO_828001⟩, ⟨bk BK827⟩, ⟨bl1 HB GE827⟩⟩
        case round =>
         clear H'
         try clear c1
         try clear c2
         try clear c2b0
         try clear c2b1
         try clear p2
         try clear c11
         try clear c13
         try clear c22
         try clear c29
         try clear c29b0
         try clear hcz14_0
         try clear hcz14_1
         try clear hcz18_0
         try clear hcz18_1
         try clear hcz25_0
         try clear hcz25_1
         try clear hcz32_0
         try clear hcz32_1
         try clear hcz34_0
         try clear hcz34_1
         try clear hcz8_0
         try clear hcz8_1
         try clear hfz14_0
         try clear hfz14_1
         try clear hfz18_0
         try clear hfz18_1
         try clear hfz25_0
         try clear hfz25_1
         try clear hfz32_0
         try clear hfz32_1
         try clear hfz34_0
         try clear hfz34_1
         try clear hfz8_0
         try clear hfz8_1
         try clear p2
         obtain ⟨x8_3, rfl, HA, HK3, HO_4, HO_6, HO_7, HO_828001, BK827, HB⟩ := hrel
         cases gk with
         | zero => exact absurd HA.out (by simp [laws_FnReachParts.l1])
         | succ k3 =>
          have H := HA.out
          clear HA
          simp only [laws_FnReachParts.l1] at H
          by_cases c36 : x8_3 < t823
          ·rw [if_pos c36] at H
           have c36b0 : decide (x8_3 < t823) = true := decide_eq_true c36
           clear c36
           by_cases c37 : 0 ≤ x5_2
           ·rw [if_pos c37] at H
            have c37b0 : decide (0 ≤ x5_2) = true := decide_eq_true c37
            clear c37
            by_cases c38 : x5_2 < (t828.length : Int)
            ·rw [if_pos c38] at H
             have c38b0 : decide (x5_2 < (t828.length : Int)) = true := decide_eq_true c38
             clear c38
             by_cases c39 : 0 ≤ x8_3
             ·rw [if_pos c39] at H
              have c39b0 : decide (0 ≤ x8_3) = true := decide_eq_true c39
              clear c39
              by_cases c40 : x8_3 < (t828.length : Int)
              ·rw [if_pos c40] at H
               have c40b0 : decide (x8_3 < (t828.length : Int)) = true := decide_eq_true c40
               clear c40
               by_cases c41 : x8_3 < (t847.length : Int)
               ·rw [if_pos c41] at H
                have c41b0 : decide (x8_3 < (t847.length : Int)) = true := decide_eq_true c41
                clear c41
                by_cases c42 : (rd t847 x8_3) < 99999
                ·rw [if_pos c42] at H
                 have c42b0 : decide ((rd t847 x8_3) < 99999) = true := decide_eq_true c42
                 clear c42
                 by_cases c43 : x8_3 < (t850.length : Int)
                 ·rw [if_pos c43] at H
                  have c43b0 : decide (x8_3 < (t850.length : Int)) = true := decide_eq_true c43
                  clear c43
                  by_cases c44 : (((rd t828 x5_2) == (rd t828 x8_3)) != (decide ((rd t850 x8_3) < 99999))) = true
                  ·rw [if_pos c44] at H
                   have c44b0 : (((rd t828 x5_2) == (rd t828 x8_3)) != (decide ((rd t850 x8_3) < 99999))) = true := c44
                   (try (have c44b1 : decide (((rd t828 x5_2) == (rd t828 x8_3)) = (decide ((rd t850 x8_3) < 99999))) = false := by simpa using c44))
                   (try (have c44b2 : (((rd t828 x5_2) == (rd t828 x8_3)) == (decide ((rd t850 x8_3) < 99999))) = false := by simpa using c44))
                   (try (have c44b3 : ¬ (((rd t828 x5_2) == (rd t828 x8_3)) = (decide ((rd t850 x8_3) < 99999))) := by simpa using c44))
                   clear c44
                   exact absurd ((Option.some.inj H).trans hr_) Bool.false_ne_true
                  ·rw [if_neg c44] at H
                   have c44b0 : (((rd t828 x5_2) == (rd t828 x8_3)) != (decide ((rd t850 x8_3) < 99999))) = false := by simpa using c44
                   (try (have c44b1 : decide (((rd t828 x5_2) == (rd t828 x8_3)) = (decide ((rd t850 x8_3) < 99999))) = true := by simpa using c44))
                   (try (have c44b2 : (((rd t828 x5_2) == (rd t828 x8_3)) == (decide ((rd t850 x8_3) < 99999))) = true := by simpa using c44))
                   clear c44
                   have H' := Aside0.mk H
                   clear H
                   have hcz45_0 : wr.cell? ⟨gb827, 0, none⟩ = some (.int .i64 t823) := (blk_cell BK827.out 0).trans rfl
                   have hcz45_1 : wr.cell? ⟨gb827, 1, none⟩ = some (.slice Ao9 t824.length co9) := (blk_cell BK827.out 1).trans rfl
                   have hfz45_0 := blk_frozen BK827.out 0
                   have hfz45_1 := blk_frozen BK827.out 1
                   obtain ⟨Ao46, co46, eo46⟩ := Kd.R_slice HO_4.out
                   subst eo46
                   have p853 : 0 ≤ (x5_2 : Int) := oT (by first | (with_reducible assumption) | assumption)
                   have q853 : x5_2 < (t828.length : Int) := oT (by first | (with_reducible assumption) | assumption)
                   obtain ⟨ad853, e853, hx853_0⟩ := Kd.at_int (Kd.R_reads' HO_4.out).2.2 x5_2 p853 q853
                   cases e853
                   replace p853 := eq_true p853
                   replace q853 := eq_true q853
                   have p854 : 0 ≤ (x8_3 : Int) := oT (by first | (with_reducible assumption) | assumption)
                   have q854 : x8_3 < (t828.length : Int) := oT (by first | (with_reducible assumption) | assumption)
                   obtain ⟨ad854, e854, hx854_0⟩ := Kd.at_int (Kd.R_reads' HO_4.out).2.2 x8_3 p854 q854
                   obtain rfl : ad853 = ad854 := (by injection e854)
                   replace p854 := eq_true p854
                   replace q854 := eq_true q854
                   obtain ⟨Ao47, co47, eo47⟩ := Kd.R_slice HO_6.out
                   subst eo47
                   have p855 : 0 ≤ (x8_3 : Int) := oT (by first | (with_reducible assumption) | assumption)
                   have q855 : x8_3 < (t847.length : Int) := oT (by first | (with_reducible assumption) | assumption)
                   obtain ⟨ad855, e855, hx855_0⟩ := Kd.at_int (Kd.R_reads' HO_6.out).2.2 x8_3 p855 q855
                   cases e855
                   replace p855 := eq_true p855
                   replace q855 := eq_true q855
                   obtain ⟨Ao48, co48, eo48⟩ := Kd.R_slice HO_7.out
                   subst eo48
                   have p856 : 0 ≤ (x8_3 : Int) := oT (by first | (with_reducible assumption) | assumption)
                   have q856 : x8_3 < (t850.length : Int) := oT (by first | (with_reducible assumption) | assumption)
                   obtain ⟨ad856, e856, hx856_0⟩ := Kd.at_int (Kd.R_reads' HO_7.out).2.2 x8_3 p856 q856
                   cases e856
                   replace p856 := eq_true p856
                   replace q856 := eq_true q856
                   go_wp2
                   repeat (go_quiet (fail); try go_wp2)
                   go_roundg k3
                   case measure => have := HJ4.out; have := HK2.out; have := HK3.out; omega
                   case rel => exact ⟨(wrap64 (x8_3 + 1)), (by first | rfl | (simp; done) | (simp [*]; done)), H', ⟨by have := HJ4.out; have := HK2.out; have := HK3.out; omega⟩, ⟨rk HO_4⟩, ⟨rk HO_6⟩, ⟨rk HO_7⟩, ⟨rk HO_828001⟩, ⟨bk BK827⟩, ⟨bl1 HB GE827⟩⟩
                 ·rw [if_neg c43] at H
                  exact absurd H (by simp)
                ·rw [if_neg c42] at H
                 have c42b0 : decide ((rd t847 x8_3) < 99999) = false := decide_eq_false c42
                 clear c42
                 by_cases c49 : (((rd t828 x5_2) == (rd t828 x8_3)) != false) = true
                 ·rw [if_pos c49] at H
                  have c49b0 : (((rd t828 x5_2) == (rd t828 x8_3)) != false) = true := c49
                  (try (have c49b1 : decide (((rd t828 x5_2) == (rd t828 x8_3)) = false) = false := by simpa using c49))
                  (try (have c49b2 : (((rd t828 x5_2) == (rd t828 x8_3)) == false) = false := by simpa using c49))
                  (try (have c49b3 : ¬ (((rd t828 x5_2) == (rd t828 x8_3)) = false) := by simpa using c49))
                  clear c49
                  exact absurd ((Option.some.inj H).trans hr_) Bool.false_ne_true
                 ·rw [if_neg c49] at H
                  have c49b0 : (((rd t828 x5_2) == (rd t828 x8_3)) != false) = false := by simpa using c49
                  (try (have c49b1 : decide (((rd t828 x5_2) == (rd t828 x8_3)) = false) = true := by simpa using c49))
                  (try (have c49b2 : (((rd t828 x5_2) == (rd t828 x8_3)) == false) = true := by simpa using c49))
                  clear c49
                  have H' := Aside0.mk H
                  clear H
                  have hcz50_0 : wr.cell? ⟨gb827, 0, none⟩ = some (.int .i64 t823) := (blk_cell BK827.out 0).trans rfl
                  have hcz50_1 : wr.cell? ⟨gb827, 1, none⟩ = some (.slice Ao9 t824.length co9) := (blk_cell BK827.out 1).trans rfl
                  have hfz50_0 := blk_frozen BK827.out 0
                  have hfz50_1 := blk_frozen BK827.out 1
                  obtain ⟨Ao51, co51, eo51⟩ := Kd.R_slice HO_4.out
                  subst eo51
                  have p853 : 0 ≤ (x5_2 : Int) := oT (by first | (with_reducible assumption) | assumption)
                  have q853 : x5_2 < (t828.length : Int) := oT (by first | (with_reducible assumption) | assumption)
                  obtain ⟨ad853, e853, hx853_0⟩ := Kd.at_int (Kd.R_reads' HO_4.out).2.2 x5_2 p853 q853
                  cases e853
                  replace p853 := eq_true p853
                  replace q853 := eq_true q853
                  have p854 : 0 ≤ (x8_3 : Int) := oT (by first | (with_reducible assumption) | assumption)
                  have q854 : x8_3 < (t828.length : Int) := oT (by first | (with_reducible assumption) | assumption)
                  obtain ⟨ad854, e854, hx854_0⟩ := Kd.at_int (Kd.R_reads' HO_4.out).2.2 x8_3 p854 q854
                  obtain rfl : ad853 = ad854 := (by injection e854)
                  replace p854 := eq_true p854
                  replace q854 := eq_true q854
                  obtain ⟨Ao52, co52, eo52⟩ := Kd.R_slice HO_6.out
                  subst eo52
                  have p855 : 0 ≤ (x8_3 : Int) := oT (by first | (with_reducible assumption) | assumption)
                  have q855 : x8_3 < (t847.length : Int) := oT (by first | (with_reducible assumption) | assumption)
                  obtain ⟨ad855, e855, hx855_0⟩ := Kd.at_int (Kd.R_reads' HO_6.out).2.2 x8_3 p855 q855
                  cases e855
                  replace p855 := eq_true p855
                  replace q855 := eq_true q855
                  go_wp2
                  repeat (go_quiet (fail); try go_wp2)
                  go_roundg k3
                  case measure => have := HJ4.out; have := HK2.out; have := HK3.out; omega
                  case rel => exact ⟨(wrap64 (x8_3 + 1)), (by first | rfl | (simp; done) | (simp [*]; done)), H', ⟨by have := HJ4.out; have := HK2.out; have := HK3.out; omega⟩, ⟨rk HO_4⟩, ⟨rk HO_6⟩, ⟨rk HO_7⟩, ⟨rk HO_828001⟩, ⟨bk BK827⟩, ⟨bl1 HB GE827⟩⟩
               ·rw [if_neg c41] at H
                exact absurd H (by simp)
              ·rw [if_neg c40] at H
               exact absurd H (by simp)
             ·rw [if_neg c39] at H
              exact absurd H (by simp)
            ·rw [if_neg c38] at H
             exact absurd H (by simp)
           ·rw [if_neg c37] at H
            exact absurd H (by simp)
          ·rw [if_neg c36] at H
           have c36b0 : decide (x8_3 < t823) = false := decide_eq_false c36
           clear c36
           by_cases c53 : 0 ≤ x5_2
           ·rw [if_pos c53] at H
            have c53b0 : decide (0 ≤ x5_2) = true := decide_eq_true c53
            clear c53
            by_cases c54 : x5_2 < (t828.length : Int)
            ·rw [if_pos c54] at H
             have c54b0 : decide (x5_2 < (t828.length : Int)) = true := decide_eq_true c54
             clear c54
             by_cases c55 : (rd t828 x5_2) > x5_2
             ·rw [if_pos c55] at H
              have c55b0 : decide (x5_2 < (rd t828 x5_2)) = true := decide_eq_true c55
              clear c55
              exact absurd ((Option.some.inj H).trans hr_) Bool.false_ne_true
             ·rw [if_neg c55] at H
              have c55b0 : decide (x5_2 < (rd t828 x5_2)) = false := decide_eq_false c55
              clear c55
              by_cases c56 : 0 ≤ (rd t828 x5_2)
              ·rw [if_pos c56] at H
               have c56b0 : decide (0 ≤ (rd t828 x5_2)) = true := decide_eq_true c56
               clear c56
               by_cases c57 : (rd t828 x5_2) < (t828.length : Int)
               ·rw [if_pos c57] at H
                have c57b0 : decide ((rd t828 x5_2) < (t828.length : Int)) = true := decide_eq_true c57
                clear c57
                by_cases c58 : (rd t828 (rd t828 x5_2)) = (rd t828 x5_2)
                ·rw [if_pos c58] at H
                 have c58b0 : ((rd t828 (rd t828 x5_2)) == (rd t828 x5_2)) = true := beq_iff_eq.mpr c58
                 have c58b1 : ((rd t828 (rd t828 x5_2)) != (rd t828 x5_2)) = false := bne_eq_false_iff_eq.mpr c58
                 clear c58
                 have H' := Aside0.mk H
                 clear H
                 have hcz59_0 : wr.cell? ⟨gb827, 0, none⟩ = some (.int .i64 t823) := (blk_cell BK827.out 0).trans rfl
                 have hcz59_1 : wr.cell? ⟨gb827, 1, none⟩ = some (.slice Ao9 t824.length co9) := (blk_cell BK827.out 1).trans rfl
                 have hfz59_0 := blk_frozen BK827.out 0
                 have hfz59_1 := blk_frozen BK827.out 1
                 obtain ⟨Ao60, co60, eo60⟩ := Kd.R_slice HO_4.out
                 subst eo60
                 have p857 : 0 ≤ (x5_2 : Int) := oT (by first | (with_reducible assumption) | assumption)
                 have q857 : x5_2 < (t828.length : Int) := oT (by first | (with_reducible assumption) | assumption)
                 obtain ⟨ad857, e857, hx857_0⟩ := Kd.at_int (Kd.R_reads' HO_4.out).2.2 x5_2 p857 q857
                 cases e857
                 replace p857 := eq_true p857
                 replace q857 := eq_true q857
                 have p858 : 0 ≤ (x5_2 : Int) := oT (by first | (with_reducible assumption) | assumption)
                 have q858 : x5_2 < (t828.length : Int) := oT (by first | (with_reducible assumption) | assumption)
                 obtain ⟨ad858, e858, hx858_0⟩ := Kd.at_int (Kd.R_reads' HO_4.out).2.2 x5_2 p858 q858
                 obtain rfl : ad857 = ad858 := (by injection e858)
                 replace p858 := eq_true p858
                 replace q858 := eq_true q858
                 have p859 : 0 ≤ ((rd t828 x5_2) : Int) := oT (by first | (with_reducible assumption) | assumption)
                 have q859 : (rd t828 x5_2) < (t828.length : Int) := oT (by first | (with_reducible assumption) | assumption)
                 obtain ⟨ad859, e859, hx859_0⟩ := Kd.at_int (Kd.R_reads' HO_4.out).2.2 (rd t828 x5_2) p859 q859
                 obtain rfl : ad857 = ad859 := (by injection e859)
                 replace p859 := eq_true p859
                 replace q859 := eq_true q859
                 have p860 : 0 ≤ (x5_2 : Int) := oT (by first | (with_reducible assumption) | assumption)
                 have q860 : x5_2 < (t828.length : Int) := oT (by first | (with_reducible assumption) | assumption)
                 obtain ⟨ad860, e860, hx860_0⟩ := Kd.at_int (Kd.R_reads' HO_4.out).2.2 x5_2 p860 q860
                 obtain rfl : ad857 = ad860 := (by injection e860)
                 replace p860 := eq_true p860
                 replace q860 := eq_true q860
                 go_wp2
                 repeat (go_quiet (fail); try go_wp2)
                 go_roundg k3
                 case measure => have := HJ4.out; have := HK2.out; have := HK3.out; omega
                 case rel => exact ⟨(wrap64 (x5_2 + 1)), (by first | rfl | (simp; done) | (simp [*]; done)), H', ⟨by have := HJ4.out; have := HK2.out; have := HK3.out; omega⟩, ⟨by (with_reducible repeat (first | apply Kd.R_alloc | apply Kd.R_drewN | apply Kd.R_drew)); exact Kd.R_mono HO_4.out (fun _ hk => trivial)⟩, ⟨rk HO_828001⟩, ⟨bk BK827⟩, ⟨bl1 HB GE827⟩⟩
                ·rw [if_neg c58] at H
                 have c58b0 : ((rd t828 (rd t828 x5_2)) == (rd t828 x5_2)) = false := beq_eq_false_iff_ne.mpr c58
                 have c58b1 : ((rd t828 (rd t828 x5_2)) != (rd t828 x5_2)) = true := bne_iff_ne.mpr c58
                 exact absurd ((Option.some.inj H).trans hr_) Bool.false_ne_true
               ·rw [if_neg c57] at H
                exact absurd H (by simp)
              ·rw [if_neg c56] at H
               exact absurd H (by simp)
            ·rw [if_neg c54] at H
             exact absurd H (by simp)
           ·rw [if_neg c53] at H
            exact absurd H (by simp)
       ·rw [if_neg c29] at H
        have c29b0 : decide (x5_2 < t823) = false := decide_eq_false c29
        clear c29
        replace H := Option.bind_eq_some_iff.mp H
        obtain ⟨⟨t839, t840⟩, A610, H⟩ := H
        have A61 := Aside0.mk A610
        clear A610
        replace H := Option.bind_eq_some_iff.mp H
        obtain ⟨t843, A620, H⟩ := H
        have A62 := Aside0.mk A620
        clear A620
        replace H := Option.bind_eq_some_iff.mp H
        obtain ⟨t846, A630, H⟩ := H
        have A63 := Aside0.mk A630
        clear A630
        obtain rfl := Option.some.inj H
        have hcz64_0 : wr.cell? ⟨gb827, 0, none⟩ = some (.int .i64 t823) := (blk_cell BK827.out 0).trans rfl
        have hcz64_1 : wr.cell? ⟨gb827, 1, none⟩ = some (.slice Ao9 t824.length co9) := (blk_cell BK827.out 1).trans rfl
        have hfz64_0 := blk_frozen BK827.out 0
        have hfz64_1 := blk_frozen BK827.out 1
        go_wp2_with (first | (go_at_call 48; (with_reducible refine (impl_NetBack.calls k2 t823 _ _ t824 t839 t840 _ ?side1 ?side2 A61.out).mono ?_); (case side1 => repeat (first | exact (Kd.R_reads' HO_828001.out).2.2 | (with_reducible refine Kd.C_alloc ?_ _) | (with_reducible refine Kd.C_drewN ?_ _) | (with_reducible refine Kd.C_drew ?_))); (case side2 => exact (Kd.R_reads' HO_828001.out).2.1); rintro e w65 ⟨v841, rfl, ho0, hb⟩; have n0_ := Aside0.mk (Kd.R_below (rk HO_4) hb); have n1_ := Aside0.mk (Kd.R_elder' (rk HO_828001) (Kd.R_base ho0) hb); have n2_ := Aside0.mk (Kd.R_lower (Kd.R_new' ho0 (Kd.R_lt (rk HO_828001))) (below_size (bl1 HB GE827))); have n3_ := Aside0.mk (blk_below (bk BK827) hb); have n4_ := Aside0.mk (below_step (bl1 HB GE827) hb); clear HO_4; clear HO_828001; clear BK827; clear HB; have HO_4 := n0_; have HO_828001 := n1_; have HO842 := n2_; have BK827 := n3_; have HB := n4_; clear n0_ n1_ n2_ n3_ n4_; (try clear hb); (try clear hb2); (try clear hk); (try clear hi); (try clear ho0); obtain ⟨Ao66, co66, eo66⟩ := Kd.R_slice HO842.out; subst eo66) | (go_at_call 43; (with_reducible refine (impl_ReachParts.calls k2 t839 _ _ t840 t843 _ ?side1 ?side2 A62.out).mono ?_); (case side1 => repeat (first | exact (Kd.R_reads' HO842.out).2.2 | (with_reducible refine Kd.C_alloc ?_ _) | (with_reducible refine Kd.C_drewN ?_ _) | (with_reducible refine Kd.C_drew ?_))); (case side2 => exact (Kd.R_reads' HO842.out).2.1); rintro e w67 ⟨v844, rfl, ho0, hb⟩; have n0_ := Aside0.mk (Kd.R_elder' (rk HO_4) (Kd.R_base ho0) hb); have n1_ := Aside0.mk (Kd.R_below (rk HO_828001) hb); have n2_ := Aside0.mk (Kd.R_below (rk HO842) hb); have n3_ := Aside0.mk (Kd.R_lower (Kd.R_new' ho0 (Kd.R_lt (rk HO_4))) (below_size (bl1 HB GE827))); have n4_ := Aside0.mk (blk_below (bk BK827) hb); have n5_ := Aside0.mk (below_step (bl1 HB GE827) hb); clear HO_4; clear HO_828001; clear HO842; clear BK827; clear HB; have HO_4 := n0_; have HO_828001 := n1_; have HO842 := n2_; have HO845 := n3_; have BK827 := n4_; have HB := n5_; clear n0_ n1_ n2_ n3_ n4_ n5_; (try clear hb); (try clear hb2); (try clear hk); (try clear hi); (try clear ho0); obtain ⟨Ao68, co68, eo68⟩ := Kd.R_slice HO845.out; subst eo68; obtain ⟨Ao69, co69, eo69⟩ := Kd.R_slice HO_4.out; subst eo69) | (go_at_call 44; (with_reducible refine (laws_wkInts.calls k2 _ _ t843 _ _ t828 t846 _ ?side1 ?side2 ?side3 ?side4 A63.out).mono ?_); (case side1 => repeat (first | exact (Kd.R_reads' HO845.out).2.2 | (with_reducible refine Kd.C_alloc ?_ _) | (with_reducible refine Kd.C_drewN ?_ _) | (with_reducible refine Kd.C_drew ?_))); (case side2 => exact (Kd.R_reads' HO845.out).2.1); (case side3 => repeat (first | exact (Kd.R_reads' HO_4.out).2.2 | (with_reducible refine Kd.C_alloc ?_ _) | (with_reducible refine Kd.C_drewN ?_ _) | (with_reducible refine Kd.C_drew ?_))); (case side4 => exact (Kd.R_reads' HO_4.out).2.1); rintro e w' ⟨rfl, ⟨nd, rfl⟩⟩; (try first | exact ⟨rfl, _, World.drewN_drewN _ _ _⟩ | exact ⟨rfl, _, Eq.trans (World.drewN_drewN _ _ _) (congrArg (World.drewN _) (Nat.add_assoc _ _ _))⟩)))
        repeat (go_quiet (first | (go_at_call 48; (with_reducible refine (impl_NetBack.calls k2 t823 _ _ t824 t839 t840 _ ?side1 ?side2 A61.out).mono ?_); (case side1 => repeat (first | exact (Kd.R_reads' HO_828001.out).2.2 | (with_reducible refine Kd.C_alloc ?_ _) | (with_reducible refine Kd.C_drewN ?_ _) | (with_reducible refine Kd.C_drew ?_))); (case side2 => exact (Kd.R_reads' HO_828001.out).2.1); rintro e w65 ⟨v841, rfl, ho0, hb⟩; have n0_ := Aside0.mk (Kd.R_below (rk HO_4) hb); have n1_ := Aside0.mk (Kd.R_elder' (rk HO_828001) (Kd.R_base ho0) hb); have n2_ := Aside0.mk (Kd.R_lower (Kd.R_new' ho0 (Kd.R_lt (rk HO_828001))) (below_size (bl1 HB GE827))); have n3_ := Aside0.mk (blk_below (bk BK827) hb); have n4_ := Aside0.mk (below_step (bl1 HB GE827) hb); clear HO_4; clear HO_828001; clear BK827; clear HB; have HO_4 := n0_; have HO_828001 := n1_; have HO842 := n2_; have BK827 := n3_; have HB := n4_; clear n0_ n1_ n2_ n3_ n4_; (try clear hb); (try clear hb2); (try clear hk); (try clear hi); (try clear ho0); obtain ⟨Ao66, co66, eo66⟩ := Kd.R_slice HO842.out; subst eo66) | (go_at_call 43; (with_reducible refine (impl_ReachParts.calls k2 t839 _ _ t840 t843 _ ?side1 ?side2 A62.out).mono ?_); (case side1 => repeat (first | exact (Kd.R_reads' HO842.out).2.2 | (with_reducible refine Kd.C_alloc ?_ _) | (with_reducible refine Kd.C_drewN ?_ _) | (with_reducible refine Kd.C_drew ?_))); (case side2 => exact (Kd.R_reads' HO842.out).2.1); rintro e w67 ⟨v844, rfl, ho0, hb⟩; have n0_ := Aside0.mk (Kd.R_elder' (rk HO_4) (Kd.R_base ho0) hb); have n1_ := Aside0.mk (Kd.R_below (rk HO_828001) hb); have n2_ := Aside0.mk (Kd.R_below (rk HO842) hb); have n3_ := Aside0.mk (Kd.R_lower (Kd.R_new' ho0 (Kd.R_lt (rk HO_4))) (below_size (bl1 HB GE827))); have n4_ := Aside0.mk (blk_below (bk BK827) hb); have n5_ := Aside0.mk (below_step (bl1 HB GE827) hb); clear HO_4; clear HO_828001; clear HO842; clear BK827; clear HB; have HO_4 := n0_; have HO_828001 := n1_; have HO842 := n2_; have HO845 := n3_; have BK827 := n4_; have HB := n5_; clear n0_ n1_ n2_ n3_ n4_ n5_; (try clear hb); (try clear hb2); (try clear hk); (try clear hi); (try clear ho0); obtain ⟨Ao68, co68, eo68⟩ := Kd.R_slice HO845.out; subst eo68; obtain ⟨Ao69, co69, eo69⟩ := Kd.R_slice HO_4.out; subst eo69) | (go_at_call 44; (with_reducible refine (laws_wkInts.calls k2 _ _ t843 _ _ t828 t846 _ ?side1 ?side2 ?side3 ?side4 A63.out).mono ?_); (case side1 => repeat (first | exact (Kd.R_reads' HO845.out).2.2 | (with_reducible refine Kd.C_alloc ?_ _) | (with_reducible refine Kd.C_drewN ?_ _) | (with_reducible refine Kd.C_drew ?_))); (case side2 => exact (Kd.R_reads' HO845.out).2.1); (case side3 => repeat (first | exact (Kd.R_reads' HO_4.out).2.2 | (with_reducible refine Kd.C_alloc ?_ _) | (with_reducible refine Kd.C_drewN ?_ _) | (with_reducible refine Kd.C_drew ?_))); (case side4 => exact (Kd.R_reads' HO_4.out).2.1); rintro e w' ⟨rfl, ⟨nd, rfl⟩⟩; (try first | exact ⟨rfl, _, World.drewN_drewN _ _ _⟩ | exact ⟨rfl, _, Eq.trans (World.drewN_drewN _ _ _) (congrArg (World.drewN _) (Nat.add_assoc _ _ _))⟩))); try go_wp2_with (first | (go_at_call 48; (with_reducible refine (impl_NetBack.calls k2 t823 _ _ t824 t839 t840 _ ?side1 ?side2 A61.out).mono ?_); (case side1 => repeat (first | exact (Kd.R_reads' HO_828001.out).2.2 | (with_reducible refine Kd.C_alloc ?_ _) | (with_reducible refine Kd.C_drewN ?_ _) | (with_reducible refine Kd.C_drew ?_))); (case side2 => exact (Kd.R_reads' HO_828001.out).2.1); rintro e w65 ⟨v841, rfl, ho0, hb⟩; have n0_ := Aside0.mk (Kd.R_below (rk HO_4) hb); have n1_ := Aside0.mk (Kd.R_elder' (rk HO_828001) (Kd.R_base ho0) hb); have n2_ := Aside0.mk (Kd.R_lower (Kd.R_new' ho0 (Kd.R_lt (rk HO_828001))) (below_size (bl1 HB GE827))); have n3_ := Aside0.mk (blk_below (bk BK827) hb); have n4_ := Aside0.mk (below_step (bl1 HB GE827) hb); clear HO_4; clear HO_828001; clear BK827; clear HB; have HO_4 := n0_; have HO_828001 := n1_; have HO842 := n2_; have BK827 := n3_; have HB := n4_; clear n0_ n1_ n2_ n3_ n4_; (try clear hb); (try clear hb2); (try clear hk); (try clear hi); (try clear ho0); obtain ⟨Ao66, co66, eo66⟩ := Kd.R_slice HO842.out; subst eo66) | (go_at_call 43; (with_reducible refine (impl_ReachParts.calls k2 t839 _ _ t840 t843 _ ?side1 ?side2 A62.out).mono ?_); (case side1 => repeat (first | exact (Kd.R_reads' HO842.out).2.2 | (with_reducible refine Kd.C_alloc ?_ _) | (with_reducible refine Kd.C_drewN ?_ _) | (with_reducible refine Kd.C_drew ?_))); (case side2 => exact (Kd.R_reads' HO842.out).2.1); rintro e w67 ⟨v844, rfl, ho0, hb⟩; have n0_ := Aside0.mk (Kd.R_elder' (rk HO_4) (Kd.R_base ho0) hb); have n1_ := Aside0.mk (Kd.R_below (rk HO_828001) hb); have n2_ := Aside0.mk (Kd.R_below (rk HO842) hb); have n3_ := Aside0.mk (Kd.R_lower (Kd.R_new' ho0 (Kd.R_lt (rk HO_4))) (below_size (bl1 HB GE827))); have n4_ := Aside0.mk (blk_below (bk BK827) hb); have n5_ := Aside0.mk (below_step (bl1 HB GE827) hb); clear HO_4; clear HO_828001; clear HO842; clear BK827; clear HB; have HO_4 := n0_; have HO_828001 := n1_; have HO842 := n2_; have HO845 := n3_; have BK827 := n4_; have HB := n5_; clear n0_ n1_ n2_ n3_ n4_ n5_; (try clear hb); (try clear hb2); (try clear hk); (try clear hi); (try clear ho0); obtain ⟨Ao68, co68, eo68⟩ := Kd.R_slice HO845.out; subst eo68; obtain ⟨Ao69, co69, eo69⟩ := Kd.R_slice HO_4.out; subst eo69) | (go_at_call 44; (with_reducible refine (laws_wkInts.calls k2 _ _ t843 _ _ t828 t846 _ ?side1 ?side2 ?side3 ?side4 A63.out).mono ?_); (case side1 => repeat (first | exact (Kd.R_reads' HO845.out).2.2 | (with_reducible refine Kd.C_alloc ?_ _) | (with_reducible refine Kd.C_drewN ?_ _) | (with_reducible refine Kd.C_drew ?_))); (case side2 => exact (Kd.R_reads' HO845.out).2.1); (case side3 => repeat (first | exact (Kd.R_reads' HO_4.out).2.2 | (with_reducible refine Kd.C_alloc ?_ _) | (with_reducible refine Kd.C_drewN ?_ _) | (with_reducible refine Kd.C_drew ?_))); (case side4 => exact (Kd.R_reads' HO_4.out).2.1); rintro e w' ⟨rfl, ⟨nd, rfl⟩⟩; (try first | exact ⟨rfl, _, World.drewN_drewN _ _ _⟩ | exact ⟨rfl, _, Eq.trans (World.drewN_drewN _ _ _) (congrArg (World.drewN _) (Nat.add_assoc _ _ _))⟩))))
        go_ret
        exact ⟨by first | rfl | (simp [errW_none, errW_some] <;> rfl) | (simp [*, errW_none, errW_some] <;> rfl), bl1 HB GE827⟩

/-- THE ONE PURE STATEMENT of laws_FnReachParts: yours. -/
def laws_FnReachParts.Pure : Prop := ∀ (l0 : List Int), l0.length ≤ maxLen → l0.length * 1 ≤ 140737488351232 → (∀ x ∈ l0, (Lit.int .u8 x).wf = true) → ∃ k, laws_FnReachParts.f k l0 = some true
theorem laws_FnReachParts.walk (P : laws_FnReachParts.Pure) (a0 : Option Addr) (len0 cap0 : Nat) (z0 : List Int) (w : World) (w0 : (a0 = none ∧ len0 = 0 ∧ cap0 = 0 ∧ z0 = []) ∨ ∃ x, a0 = some x ∧ len0 ≤ cap0 ∧ cap0 ≤ maxLen ∧ z0.length = cap0 ∧ (∀ i, i < z0.length → w.cell? (x.add i) = some (.int .u8 (z0.getD i 0))) ∧ ∀ n ∈ z0, (Lit.int .u8 n).wf = true) (y0 : len0 * 1 ≤ 140737488351232) :
  Calls Try.prog 11 #[.slice a0 len0 cap0] w fun e w' => e = .returned (.bool true) ∧ Below w.heap.size w w' := by
 obtain ⟨l0, rfl, hr0, hm0, hw0, hc0⟩ := ReadsInt.ofRowC w0
 obtain ⟨k, h⟩ := P l0 hm0 y0 hw0
 refine (laws_FnReachParts.calls k _ _ l0 true w (Kd.C_of_reads (d := (0 : Int)) (h1 := fun _ => rfl) hr0) hc0 h rfl).mono ?_
 rintro e w' ⟨rfl, hd⟩
 exact ⟨rfl, hd⟩

end Go.Proofs.Ythgihpbpebbebaa.F
