-- Printed by wip/px/px.py of this claim's repository (the kit's printer, extended there). Lean checks it.
import Derived.Test.YtgickejeakmenaaFKinds
import Derived.Test.YtgickejeakmenaaFspecDrawLoadAll
import Derived.Test.YtgickejeakmenaaFimplLoadAll
import Derived.Test.YtgickejeakmenaaFwkNet
import Derived.Test.YtgickejeakmenaaFspecLoadAll
import Derived.Test.YtgickejeakmenaaFimplReachIn
import Derived.Test.YtgickejeakmenaaFimplLoadNet
import Derived.Test.YtgickejeakmenaaFwkNet
namespace Go.Proofs.Ytgickejeakmenaa.F
open Go.RowKit Go.Proofs.YtgickejeakmenaaW.PrintWords Go.Proofs.YtgickejeakmenaaW.PrintLast Go.Proofs.YtgickejeakmenaaW.PrintMore
attribute [local go_sem] max2_int min2_int max_two min_two max_three min_three max_four min_four   -- for this text's walks alone
set_option linter.unusedVariables false
set_option linter.unusedSimpArgs false

/-! ### laws_FnReachLoad: function 4 -/
mutual
def laws_FnReachLoad.j0 : Nat → Int → List Int → Bool → Int → List (S41) → Option (Bool)
 | 0, _, _, _, _, _ => none
 | k + 1, x4, x5, x31, x517000, x517001 => if x31 = true then ((spec_LoadAll.f k x517000 x517001 x4).bind fun t524 => ((laws_wkInts.f k x5 t524).bind fun t527 => (some t527))) else ((impl_ReachIn.f k x517000 x517001 x4 99999).bind fun t528 => (laws_FnReachLoad.l0 k x4 x5 t528 0 x517000 x517001))
def laws_FnReachLoad.l0 : Nat → Int → List Int → List Int → Int → Int → List (S41) → Option (Bool)
 | 0, _, _, _, _, _, _ => none
 | k + 1, x4, x5, x6, x7, x517000, x517001 => if x7 ≤ 9 then ((impl_LoadNet.f k x517000 x517001 x7).bind fun bt532 => ((impl_ReachIn.f k bt532.1 bt532.2 x4 99999).bind fun t536 => (laws_FnReachLoad.l1 k x4 x5 x6 x7 t536 0 x517000 x517001))) else ((laws_wkIn.f k x6 x4).bind fun t531 => (some t531))
def laws_FnReachLoad.l1 : Nat → Int → List Int → List Int → Int → List Int → Int → Int → List (S41) → Option (Bool)
 | 0, _, _, _, _, _, _, _, _ => none
 | k + 1, x4, x5, x6, x7, x8, x9, x517000, x517001 => if x9 < (x8.length : Int) then (if 0 ≤ x9 then ((laws_wkIn.f k x6 (rd x8 x9)).bind fun t540 => (if t540 = true then (if 0 ≤ (rd x8 x9) then (if (rd x8 x9) < (x5.length : Int) then (if (rd x5 (rd x8 x9)) < x7 then (some false) else (laws_FnReachLoad.l1 k x4 x5 x6 x7 x8 (wrap64 (x9 + 1)) x517000 x517001)) else (none)) else (none)) else (some false))) else (none)) else (laws_FnReachLoad.l0 k x4 x5 x8 (wrap64 (x7 + 1)) x517000 x517001)
end
def laws_FnReachLoad.f (k : Nat) (l0 : List Int) : Option (Bool) := if (l0.length : Int) > 1048576 then (some true) else ((spec_DrawLoadAll.f k l0).bind fun bt511 => ((impl_LoadAll.f k bt511.1 bt511.2.1 bt511.2.2).bind fun t517 => ((spec_LoadAll.f k bt511.1 bt511.2.1 bt511.2.2).bind fun t520 => ((laws_wkInts.f k t517 t520).bind fun t523 => (if t523 = true then (laws_FnReachLoad.j0 k bt511.2.2 t517 ((t517.length : Int) == 0) bt511.1 bt511.2.1) else (laws_FnReachLoad.j0 k bt511.2.2 t517 true bt511.1 bt511.2.1))))))
theorem laws_FnReachLoad.mono_l : ∀ k, (∀ y0 y1 y2 y3 y4, LeO (laws_FnReachLoad.j0 k y0 y1 y2 y3 y4) (laws_FnReachLoad.j0 (k + 1) y0 y1 y2 y3 y4)) ∧ (∀ y0 y1 y2 y3 y4 y5, LeO (laws_FnReachLoad.l0 k y0 y1 y2 y3 y4 y5) (laws_FnReachLoad.l0 (k + 1) y0 y1 y2 y3 y4 y5)) ∧ (∀ y0 y1 y2 y3 y4 y5 y6 y7, LeO (laws_FnReachLoad.l1 k y0 y1 y2 y3 y4 y5 y6 y7) (laws_FnReachLoad.l1 (k + 1) y0 y1 y2 y3 y4 y5 y6 y7))
 | 0 => ⟨fun _ _ _ _ _ r h => by simp [laws_FnReachLoad.j0] at h, fun _ _ _ _ _ _ r h => by simp [laws_FnReachLoad.l0] at h, fun _ _ _ _ _ _ _ _ r h => by simp [laws_FnReachLoad.l1] at h⟩
 | k + 1 => by
  obtain ⟨ih0, ih1, ih2⟩ := laws_FnReachLoad.mono_l k
  refine ⟨?_, ?_, ?_⟩
  ·intro y0 y1 y2 y3 y4
   unfold laws_FnReachLoad.j0
   repeat' first
   | (with_reducible exact ih0 _ _ _ _ _)
   | (with_reducible exact ih1 _ _ _ _ _ _)
   | (with_reducible exact ih2 _ _ _ _ _ _ _ _)
   | (with_reducible exact impl_LoadAll.mono _ _ _ _)
   | (with_reducible exact impl_LoadNet.mono _ _ _ _)
   | (with_reducible exact impl_ReachIn.mono _ _ _ _ _)
   | (with_reducible exact laws_wkIn.mono _ _ _)
   | (with_reducible exact laws_wkInts.mono _ _ _)
   | (with_reducible exact spec_DrawLoadAll.mono _ _)
   | (with_reducible exact spec_LoadAll.mono _ _ _ _)
   | (with_reducible exact LeO.refl _)
   | (with_reducible exact LeO.none _)
   | (with_reducible refine LeO.ite ?_ ?_)
   | (with_reducible refine LeO.bind ?_ (fun _ => ?_))
   | exact ih0 _ _ _ _ _
   | exact ih1 _ _ _ _ _ _
   | exact ih2 _ _ _ _ _ _ _ _
   | exact impl_LoadAll.mono _ _ _ _
   | exact impl_LoadNet.mono _ _ _ _
   | exact impl_ReachIn.mono _ _ _ _ _
   | exact laws_wkIn.mono _ _ _
   | exact laws_wkInts.mono _ _ _
   | exact spec_DrawLoadAll.mono _ _
   | exact spec_LoadAll.mono _ _ _ _
   | exact LeO.none _
   | refine LeO.ite ?_ ?_
   | refine LeO.bind ?_ (fun _ => ?_)
  ·intro y0 y1 y2 y3 y4 y5
   unfold laws_FnReachLoad.l0
   repeat' first
   | (with_reducible exact ih0 _ _ _ _ _)
   | (with_reducible exact ih1 _ _ _ _ _ _)
   | (with_reducible exact ih2 _ _ _ _ _ _ _ _)
   | (with_reducible exact impl_LoadAll.mono _ _ _ _)
   | (with_reducible exact impl_LoadNet.mono _ _ _ _)
   | (with_reducible exact impl_ReachIn.mono _ _ _ _ _)
   | (with_reducible exact laws_wkIn.mono _ _ _)
   | (with_reducible exact laws_wkInts.mono _ _ _)
   | (with_reducible exact spec_DrawLoadAll.mono _ _)
   | (with_reducible exact spec_LoadAll.mono _ _ _ _)
   | (with_reducible exact LeO.refl _)
   | (with_reducible exact LeO.none _)
   | (with_reducible refine LeO.ite ?_ ?_)
   | (with_reducible refine LeO.bind ?_ (fun _ => ?_))
   | exact ih0 _ _ _ _ _
   | exact ih1 _ _ _ _ _ _
   | exact ih2 _ _ _ _ _ _ _ _
   | exact impl_LoadAll.mono _ _ _ _
   | exact impl_LoadNet.mono _ _ _ _
   | exact impl_ReachIn.mono _ _ _ _ _
   | exact laws_wkIn.mono _ _ _
   | exact laws_wkInts.mono _ _ _
   | exact spec_DrawLoadAll.mono _ _
   | exact spec_LoadAll.mono _ _ _ _
   | exact LeO.none _
   | refine LeO.ite ?_ ?_
   | refine LeO.bind ?_ (fun _ => ?_)
  ·intro y0 y1 y2 y3 y4 y5 y6 y7
   unfold laws_FnReachLoad.l1
   repeat' first
   | (with_reducible exact ih0 _ _ _ _ _)
   | (with_reducible exact ih1 _ _ _ _ _ _)
   | (with_reducible exact ih2 _ _ _ _ _ _ _ _)
   | (with_reducible exact impl_LoadAll.mono _ _ _ _)
   | (with_reducible exact impl_LoadNet.mono _ _ _ _)
   | (with_reducible exact impl_ReachIn.mono _ _ _ _ _)
   | (with_reducible exact laws_wkIn.mono _ _ _)
   | (with_reducible exact laws_wkInts.mono _ _ _)
   | (with_reducible exact spec_DrawLoadAll.mono _ _)
   | (with_reducible exact spec_LoadAll.mono _ _ _ _)
   | (with_reducible exact LeO.refl _)
   | (with_reducible exact LeO.none _)
   | (with_reducible refine LeO.ite ?_ ?_)
   | (with_reducible refine LeO.bind ?_ (fun _ => ?_))
   | exact ih0 _ _ _ _ _
   | exact ih1 _ _ _ _ _ _
   | exact ih2 _ _ _ _ _ _ _ _
   | exact impl_LoadAll.mono _ _ _ _
   | exact impl_LoadNet.mono _ _ _ _
   | exact impl_ReachIn.mono _ _ _ _ _
   | exact laws_wkIn.mono _ _ _
   | exact laws_wkInts.mono _ _ _
   | exact spec_DrawLoadAll.mono _ _
   | exact spec_LoadAll.mono _ _ _ _
   | exact LeO.none _
   | refine LeO.ite ?_ ?_
   | refine LeO.bind ?_ (fun _ => ?_)
theorem laws_FnReachLoad.mono : ∀ a0 k, LeO (laws_FnReachLoad.f k a0) (laws_FnReachLoad.f (k + 1) a0) := by
 intro a0 k
 obtain ⟨ih0, ih1, ih2⟩ := laws_FnReachLoad.mono_l k
 unfold laws_FnReachLoad.f
 repeat' first
   | (with_reducible exact ih0 _ _ _ _ _)
   | (with_reducible exact ih1 _ _ _ _ _ _)
   | (with_reducible exact ih2 _ _ _ _ _ _ _ _)
   | (with_reducible exact impl_LoadAll.mono _ _ _ _)
   | (with_reducible exact impl_LoadNet.mono _ _ _ _)
   | (with_reducible exact impl_ReachIn.mono _ _ _ _ _)
   | (with_reducible exact laws_wkIn.mono _ _ _)
   | (with_reducible exact laws_wkInts.mono _ _ _)
   | (with_reducible exact spec_DrawLoadAll.mono _ _)
   | (with_reducible exact spec_LoadAll.mono _ _ _ _)
   | (with_reducible exact LeO.refl _)
   | (with_reducible exact LeO.none _)
   | (with_reducible refine LeO.ite ?_ ?_)
   | (with_reducible refine LeO.bind ?_ (fun _ => ?_))
   | exact ih0 _ _ _ _ _
   | exact ih1 _ _ _ _ _ _
   | exact ih2 _ _ _ _ _ _ _ _
   | exact impl_LoadAll.mono _ _ _ _
   | exact impl_LoadNet.mono _ _ _ _
   | exact impl_ReachIn.mono _ _ _ _ _
   | exact laws_wkIn.mono _ _ _
   | exact laws_wkInts.mono _ _ _
   | exact spec_DrawLoadAll.mono _ _
   | exact spec_LoadAll.mono _ _ _ _
   | exact LeO.none _
   | refine LeO.ite ?_ ?_
   | refine LeO.bind ?_ (fun _ => ?_)
set_option maxHeartbeats 8000000 in
set_option maxRecDepth 100000 in
theorem laws_FnReachLoad.calls (k : Nat) (A0 : Option Addr) (c0 : Nat) (l0 : List Int) (r : Bool) (w : World) (hr0 : Kd.C (Kd.int .u8) w A0 l0.length l0) (hc0 : l0.length ≤ c0) (h : laws_FnReachLoad.f k l0 = some r) (hr_ : r = true) :
  Calls Try.prog 4 #[.slice A0 l0.length c0] w fun e w' => e = .returned (.bool r) ∧ Below w.heap.size w w' := by
 have hu25 := Try.underlying25
 have HR0 := Aside0.mk hr0
 have HC0 := Aside0.mk hc0
 clear hr0 hc0
 have HB := Aside0.mk (Below.refl w.heap.size w)
 have H : (if (l0.length : Int) > 1048576 then (some true) else ((spec_DrawLoadAll.f k l0).bind fun bt511 => ((impl_LoadAll.f k bt511.1 bt511.2.1 bt511.2.2).bind fun t517 => ((spec_LoadAll.f k bt511.1 bt511.2.1 bt511.2.2).bind fun t520 => ((laws_wkInts.f k t517 t520).bind fun t523 => (if t523 = true then (laws_FnReachLoad.j0 k bt511.2.2 t517 ((t517.length : Int) == 0) bt511.1 bt511.2.1) else (laws_FnReachLoad.j0 k bt511.2.2 t517 true bt511.1 bt511.2.1))))))) = some r := h
 clear h
 by_cases c2 : (l0.length : Int) > 1048576
 ·rw [if_pos c2] at H
  have c2b0 : decide (1048576 < (l0.length : Int)) = true := decide_eq_true c2
  have c2b1 : decide (1048576 < l0.length) = true := decide_eq_true (by omega)
  clear c2
  obtain rfl := Option.some.inj H
  go_enter Try.func4, Try.ntmps4
  go_wp2
  go_ret
  exact ⟨by first | rfl | (simp [errW_none, errW_some] <;> rfl) | (simp [*, errW_none, errW_some] <;> rfl), bl HB⟩
 ·rw [if_neg c2] at H
  have c2b0 : decide (1048576 < (l0.length : Int)) = false := decide_eq_false c2
  have c2b1 : decide (1048576 < l0.length) = false := decide_eq_false (by omega)
  clear c2
  replace H := Option.bind_eq_some_iff.mp H
  obtain ⟨⟨t511, t512, t515⟩, A30, H⟩ := H
  have A3 := Aside0.mk A30
  clear A30
  replace H := Option.bind_eq_some_iff.mp H
  obtain ⟨t517, A40, H⟩ := H
  have A4 := Aside0.mk A40
  clear A40
  have HC5 := Aside0.mk H
  clear H
  go_enter Try.func4, Try.ntmps4
  go_upto_region 5 with (first | ((with_reducible refine gate_callee (f := 19) rfl ?_); refine goesL_ (some 15) rfl rfl Try.func19 (by kernel_rfl) rfl #[.slice A0 l0.length c0] rfl (by (try simp only [List.map_toArray, List.map_cons, List.map_nil]); first | done | rfl | (simp only [List.length_drop, List.length_take]; rfl)) ?_; (with_reducible refine (spec_DrawLoadAll.calls k _ _ l0 t511 t512 t515 _ ?side1 ?side2 A3.out).mono ?_); (case side1 => repeat (first | exact HR0.out | (with_reducible refine Kd.C_alloc ?_ _) | (with_reducible refine Kd.C_drewN ?_ _) | (with_reducible refine Kd.C_drew ?_))); (case side2 => exact HC0.out); rintro e w6 ⟨v513, rfl, ho0, hb⟩; refine ⟨_, rfl, ?_⟩; have n0_ := Aside0.mk (Kd.R_lower ho0 (below_size (bl HB))); have n1_ := Aside0.mk (below_step (bl HB) hb); clear HB; have HO514 := n0_; have HB := n1_; clear n0_ n1_; (try clear hb); (try clear hb2); (try clear hk); (try clear hi); (try clear ho0)) | ((with_reducible refine gate_dst (N := 3) rfl ?_); refine box_event ?hg (N := 3) ?hd (cs := #[.int .i64 0, .slice none 0 0]) (t := 25) ?hr ?_; (case hd => rfl); (case hg => rfl); (case hr => first | (go_simp; done) | (go_simp; rfl)); intro gb516 hg w7 hbox hb; have n0_ := Aside0.mk (Kd.R_below (rk HO514) hb); have n1_ := Aside0.mk (below_step (bl HB) hb); have n2_ := Aside0.mk (hbox); have n3_ := Aside0.mk ((by rw [hg]; exact (below_size (bl HB)) : w.heap.size ≤ gb516)); have n4_ := Aside0.mk ((by rw [hg]; exact (below_size (bl HB)) : w.heap.size ≤ gb516)); clear HO514; clear HB; have HO514 := n0_; have HB := n1_; have BK516 := n2_; have GW516 := n3_; have GE516 := n4_; clear n0_ n1_ n2_ n3_ n4_; clear hb hbox hg; have hcz8_0 : w7.cell? ⟨gb516, 0, none⟩ = some (.int .i64 0) := (blk_cell BK516.out 0).trans rfl; have hcz8_1 : w7.cell? ⟨gb516, 1, none⟩ = some (.slice none 0 0) := (blk_cell BK516.out 1).trans rfl; have hfz8_0 := blk_frozen BK516.out 0; have hfz8_1 := blk_frozen BK516.out 1; obtain ⟨Ao9, co9, eo9⟩ := Kd.R_slice HO514.out; subst eo9) | ((with_reducible refine gate_callee (f := 20) rfl ?_); refine goesL_ (some 20) rfl rfl Try.func20 (by kernel_rfl) rfl #[.agg #[.int .i64 t511, .slice Ao9 t512.length co9], .int .i64 t515] rfl (by (try simp only [List.map_toArray, List.map_cons, List.map_nil]); first | done | rfl | (simp only [List.length_drop, List.length_take]; rfl)) ?_; (with_reducible refine (impl_LoadAll.calls k t511 _ _ t512 t515 t517 _ ?side1 ?side2 A4.out).mono ?_); (case side1 => refine (Kd.R_reads' (e := 41) (base := w.heap.size) (ok := fun k_ => True) (n := t512.length) (c := co9) ?_).2.2; exact (by (with_reducible repeat (first | apply Kd.R_alloc | apply Kd.R_drewN | apply Kd.R_drew)); exact (Kd.R_mono (Kd.R_far (p := ⟨gb516, 1, none⟩) (Kd.R_far (p := ⟨gb516, 0, none⟩) (Kd.R_types HO514.out BK516.out (by decide)) (fun _ hk => hk.2) (.int .i64 t511)) (fun _ hk => hk.2) (.slice Ao9 t512.length co9)) (fun _ h_ => h_.1)))); (case side2 => exact (Kd.R_reads' HO514.out).2.1); rintro e w10 ⟨v518, rfl, ho0, hb⟩; refine ⟨_, rfl, ?_⟩; have n0_ := Aside0.mk (Kd.R_below (by (with_reducible repeat (first | apply Kd.R_alloc | apply Kd.R_drewN | apply Kd.R_drew)); exact (Kd.R_mono (Kd.R_far (p := ⟨gb516, 1, none⟩) (Kd.R_far (p := ⟨gb516, 0, none⟩) (Kd.R_types HO514.out BK516.out (by decide)) (fun _ hk => hk.2) (.int .i64 t511)) (fun _ hk => hk.2) (.slice Ao9 t512.length co9)) (fun _ h_ => h_.1))) hb); have n1_ := Aside0.mk (Kd.R_lower ho0 (below_size (bl1 HB GE516))); have n2_ := Aside0.mk (blk_below (g := gb516) (o := .cells #[.int .i64 t511, .slice Ao9 t512.length co9] 25 (0, 0)) (by (with_reducible repeat (first | refine blk_drewN ?_ _ | refine blk_drew ?_ | refine blk_alloc ?_ _)); refine blk_put (cs := #[.int .i64 t511, .slice none 0 0]) ?_ 1 _ rfl; (with_reducible repeat (first | refine blk_drewN ?_ _ | refine blk_drew ?_ | refine blk_alloc ?_ _)); refine blk_put (cs := #[.int .i64 0, .slice none 0 0]) ?_ 0 _ rfl; (with_reducible repeat (first | refine blk_drewN ?_ _ | refine blk_drew ?_ | refine blk_alloc ?_ _)); exact BK516.out) hb); have n3_ := Aside0.mk (below_step (bl1 HB GE516) hb); clear HO514; clear BK516; clear HB; have HO514 := n0_; have HO519 := n1_; have BK516 := n2_; have HB := n3_; clear n0_ n1_ n2_ n3_; (try clear hb); (try clear hb2); (try clear hk); (try clear hi); (try clear ho0)))
  (try simp only [Act.put, List.setIfInBounds_toArray, List.set_cons_zero, List.set_cons_succ])
  go_cut [31] (fun v31 wc => ∃ (kq : Nat) (x31_4 : Bool), v31 = .bool x31_4 ∧ Aside0 (laws_FnReachLoad.j0 kq t515 t517 x31_4 t511 t512 = some r) ∧ Aside0 (kq ≤ k) ∧ Aside0 (Kd.R (Kd.int .i64) 3 wc w.heap.size (fun _ => True) v518 t517) ∧ Aside0 (Kd.R k41 41 wc w.heap.size (fun _ => True) (.slice Ao9 t512.length co9) t512) ∧ Aside0 (wc.heap[gb516]? = some (.cells #[.int .i64 t511, (.slice Ao9 t512.length co9)] 25 (0, 0))) ∧ Aside0 (Below w.heap.size w wc))
  case first =>
   have H := HC5.out
   clear HC5
   replace H := Option.bind_eq_some_iff.mp H
   obtain ⟨t520, A110, H⟩ := H
   have A11 := Aside0.mk A110
   clear A110
   replace H := Option.bind_eq_some_iff.mp H
   obtain ⟨t523, A120, H⟩ := H
   have A12 := Aside0.mk A120
   clear A120
   by_cases c13 : t523 = true
   ·subst c13
    rw [if_pos rfl] at H
    have H' := Aside0.mk H
    clear H
    have hcz14_0 : w10.cell? ⟨gb516, 0, none⟩ = some (.int .i64 t511) := (blk_cell BK516.out 0).trans rfl
    have hcz14_1 : w10.cell? ⟨gb516, 1, none⟩ = some (.slice Ao9 t512.length co9) := (blk_cell BK516.out 1).trans rfl
    have hfz14_0 := blk_frozen BK516.out 0
    have hfz14_1 := blk_frozen BK516.out 1
    go_wp2_with (first | ((with_reducible refine gate_callee (f := 22) rfl ?_); refine goesL_ (some 24) rfl rfl Try.func22 (by kernel_rfl) rfl #[.agg #[.int .i64 t511, .slice Ao9 t512.length co9], .int .i64 t515] rfl (by (try simp only [List.map_toArray, List.map_cons, List.map_nil]); first | done | rfl | (simp only [List.length_drop, List.length_take]; rfl)) ?_; (with_reducible refine (spec_LoadAll.calls k t511 _ _ t512 t515 t520 _ ?side1 ?side2 A11.out).mono ?_); (case side1 => repeat (first | exact (Kd.R_reads' HO514.out).2.2 | (with_reducible refine Kd.C_alloc ?_ _) | (with_reducible refine Kd.C_drewN ?_ _) | (with_reducible refine Kd.C_drew ?_))); (case side2 => exact (Kd.R_reads' HO514.out).2.1); rintro e w15 ⟨v521, rfl, ho0, hb⟩; refine ⟨_, rfl, ?_⟩; have n0_ := Aside0.mk (Kd.R_below (rk HO514) hb); have n1_ := Aside0.mk (Kd.R_elder' (rk HO519) (Kd.R_base ho0) hb); have n2_ := Aside0.mk (Kd.R_lower (Kd.R_new' ho0 (Kd.R_lt (rk HO519))) (below_size (bl1 HB GE516))); have n3_ := Aside0.mk (blk_below (bk BK516) hb); have n4_ := Aside0.mk (below_step (bl1 HB GE516) hb); clear HO514; clear HO519; clear BK516; clear HB; have HO514 := n0_; have HO519 := n1_; have HO522 := n2_; have BK516 := n3_; have HB := n4_; clear n0_ n1_ n2_ n3_ n4_; (try clear hb); (try clear hb2); (try clear hk); (try clear hi); (try clear ho0); obtain ⟨Ao16, co16, eo16⟩ := Kd.R_slice HO519.out; subst eo16; obtain ⟨Ao17, co17, eo17⟩ := Kd.R_slice HO522.out; subst eo17) | ((with_reducible refine gate_callee (f := 21) rfl ?_); refine goesL_ (some 25) rfl rfl Try.func21 (by kernel_rfl) rfl #[.slice Ao16 t517.length co16, .slice Ao17 t520.length co17] rfl (by (try simp only [List.map_toArray, List.map_cons, List.map_nil]); first | done | rfl | (simp only [List.length_drop, List.length_take]; rfl)) ?_; (with_reducible refine (laws_wkInts.calls k _ _ t517 _ _ t520 true _ ?side1 ?side2 ?side3 ?side4 A12.out).mono ?_); (case side1 => repeat (first | exact (Kd.R_reads' HO519.out).2.2 | (with_reducible refine Kd.C_alloc ?_ _) | (with_reducible refine Kd.C_drewN ?_ _) | (with_reducible refine Kd.C_drew ?_))); (case side2 => exact (Kd.R_reads' HO519.out).2.1); (case side3 => repeat (first | exact (Kd.R_reads' HO522.out).2.2 | (with_reducible refine Kd.C_alloc ?_ _) | (with_reducible refine Kd.C_drewN ?_ _) | (with_reducible refine Kd.C_drew ?_))); (case side4 => exact (Kd.R_reads' HO522.out).2.1); rintro e w' ⟨rfl, ⟨nd, rfl⟩⟩; refine ⟨_, rfl, ?_⟩))
    go_meet
    case rel => exact ⟨_, (((t517.length : Int) == 0)), (by first | rfl | (simp; done) | (simp [*]; done)), H', ⟨by first | omega | exact Nat.le_refl _⟩, ⟨by (with_reducible repeat (first | apply Kd.R_alloc | apply Kd.R_drewN | apply Kd.R_drew)); exact Kd.R_mono HO519.out (fun _ hk => trivial)⟩, ⟨rk HO514⟩, ⟨bk BK516⟩, ⟨bl1 HB GE516⟩⟩
   ·replace c13 := Bool.eq_false_iff.mpr c13
    subst c13
    rw [if_neg (show ¬ (false = true) by decide)] at H
    have H' := Aside0.mk H
    clear H
    have hcz18_0 : w10.cell? ⟨gb516, 0, none⟩ = some (.int .i64 t511) := (blk_cell BK516.out 0).trans rfl
    have hcz18_1 : w10.cell? ⟨gb516, 1, none⟩ = some (.slice Ao9 t512.length co9) := (blk_cell BK516.out 1).trans rfl
    have hfz18_0 := blk_frozen BK516.out 0
    have hfz18_1 := blk_frozen BK516.out 1
    go_wp2_with (first | ((with_reducible refine gate_callee (f := 22) rfl ?_); refine goesL_ (some 24) rfl rfl Try.func22 (by kernel_rfl) rfl #[.agg #[.int .i64 t511, .slice Ao9 t512.length co9], .int .i64 t515] rfl (by (try simp only [List.map_toArray, List.map_cons, List.map_nil]); first | done | rfl | (simp only [List.length_drop, List.length_take]; rfl)) ?_; (with_reducible refine (spec_LoadAll.calls k t511 _ _ t512 t515 t520 _ ?side1 ?side2 A11.out).mono ?_); (case side1 => repeat (first | exact (Kd.R_reads' HO514.out).2.2 | (with_reducible refine Kd.C_alloc ?_ _) | (with_reducible refine Kd.C_drewN ?_ _) | (with_reducible refine Kd.C_drew ?_))); (case side2 => exact (Kd.R_reads' HO514.out).2.1); rintro e w19 ⟨v521, rfl, ho0, hb⟩; refine ⟨_, rfl, ?_⟩; have n0_ := Aside0.mk (Kd.R_below (rk HO514) hb); have n1_ := Aside0.mk (Kd.R_elder' (rk HO519) (Kd.R_base ho0) hb); have n2_ := Aside0.mk (Kd.R_lower (Kd.R_new' ho0 (Kd.R_lt (rk HO519))) (below_size (bl1 HB GE516))); have n3_ := Aside0.mk (blk_below (bk BK516) hb); have n4_ := Aside0.mk (below_step (bl1 HB GE516) hb); clear HO514; clear HO519; clear BK516; clear HB; have HO514 := n0_; have HO519 := n1_; have HO522 := n2_; have BK516 := n3_; have HB := n4_; clear n0_ n1_ n2_ n3_ n4_; (try clear hb); (try clear hb2); (try clear hk); (try clear hi); (try clear ho0); obtain ⟨Ao20, co20, eo20⟩ := Kd.R_slice HO519.out; subst eo20; obtain ⟨Ao21, co21, eo21⟩ := Kd.R_slice HO522.out; subst eo21) | ((with_reducible refine gate_callee (f := 21) rfl ?_); refine goesL_ (some 25) rfl rfl Try.func21 (by kernel_rfl) rfl #[.slice Ao20 t517.length co20, .slice Ao21 t520.length co21] rfl (by (try simp only [List.map_toArray, List.map_cons, List.map_nil]); first | done | rfl | (simp only [List.length_drop, List.length_take]; rfl)) ?_; (with_reducible refine (laws_wkInts.calls k _ _ t517 _ _ t520 false _ ?side1 ?side2 ?side3 ?side4 A12.out).mono ?_); (case side1 => repeat (first | exact (Kd.R_reads' HO519.out).2.2 | (with_reducible refine Kd.C_alloc ?_ _) | (with_reducible refine Kd.C_drewN ?_ _) | (with_reducible refine Kd.C_drew ?_))); (case side2 => exact (Kd.R_reads' HO519.out).2.1); (case side3 => repeat (first | exact (Kd.R_reads' HO522.out).2.2 | (with_reducible refine Kd.C_alloc ?_ _) | (with_reducible refine Kd.C_drewN ?_ _) | (with_reducible refine Kd.C_drew ?_))); (case side4 => exact (Kd.R_reads' HO522.out).2.1); rintro e w' ⟨rfl, ⟨nd, rfl⟩⟩; refine ⟨_, rfl, ?_⟩))
    go_meet
    case rel => exact ⟨_, (true), (by first | rfl | (simp; done) | (simp [*]; done)), H', ⟨by first | omega | exact Nat.le_refl _⟩, ⟨by (with_reducible repeat (first | apply Kd.R_alloc | apply Kd.R_drewN | apply Kd.R_drew)); exact Kd.R_mono HO519.out (fun _ hk => trivial)⟩, ⟨rk HO514⟩, ⟨bk BK516⟩, ⟨bl1 HB GE516⟩⟩
  case rest =>
   clear HC5
   try clear c1
   try clear c2
   try clear c2b0
   try clear c2b1
   try clear p2
   try clear c4
   try clear c13
   try clear c19
   try clear c20
   try clear c21
   try clear hcz14_0
   try clear hcz14_1
   try clear hcz18_0
   try clear hcz18_1
   try clear hcz8_0
   try clear hcz8_1
   try clear hfz14_0
   try clear hfz14_1
   try clear hfz18_0
   try clear hfz18_1
   try clear hfz8_0
   try clear hfz8_1
   obtain ⟨kq, x31_4, rfl, HA, HJ4, HO_5, HO_517001, BK516, HB⟩ := hcut
   cases kq with
   | zero => exact absurd HA.out (by simp [laws_FnReachLoad.j0])
   | succ kj4 =>
    have H := HA.out
    clear HA
    simp only [laws_FnReachLoad.j0] at H
    by_cases c22 : x31_4 = true
    ·subst c22
     rw [if_pos rfl] at H
     replace H := Option.bind_eq_some_iff.mp H
     obtain ⟨t524, A230, H⟩ := H
     have A23 := Aside0.mk A230
     clear A230
     replace H := Option.bind_eq_some_iff.mp H
     obtain ⟨t527, A240, H⟩ := H
     have A24 := Aside0.mk A240
     clear A240
     obtain rfl := Option.some.inj H
     have hcz25_0 : wc.cell? ⟨gb516, 0, none⟩ = some (.int .i64 t511) := (blk_cell BK516.out 0).trans rfl
     have hcz25_1 : wc.cell? ⟨gb516, 1, none⟩ = some (.slice Ao9 t512.length co9) := (blk_cell BK516.out 1).trans rfl
     have hfz25_0 := blk_frozen BK516.out 0
     have hfz25_1 := blk_frozen BK516.out 1
     go_wp2_with (first | ((with_reducible refine gate_callee (f := 22) rfl ?_); refine goesL_ (some 35) rfl rfl Try.func22 (by kernel_rfl) rfl #[.agg #[.int .i64 t511, .slice Ao9 t512.length co9], .int .i64 t515] rfl (by (try simp only [List.map_toArray, List.map_cons, List.map_nil]); first | done | rfl | (simp only [List.length_drop, List.length_take]; rfl)) ?_; (with_reducible refine (spec_LoadAll.calls kj4 t511 _ _ t512 t515 t524 _ ?side1 ?side2 A23.out).mono ?_); (case side1 => repeat (first | exact (Kd.R_reads' HO_517001.out).2.2 | (with_reducible refine Kd.C_alloc ?_ _) | (with_reducible refine Kd.C_drewN ?_ _) | (with_reducible refine Kd.C_drew ?_))); (case side2 => exact (Kd.R_reads' HO_517001.out).2.1); rintro e w26 ⟨v525, rfl, ho0, hb⟩; refine ⟨_, rfl, ?_⟩; have n0_ := Aside0.mk (Kd.R_elder' (rk HO_5) (Kd.R_base ho0) hb); have n1_ := Aside0.mk (Kd.R_below (rk HO_517001) hb); have n2_ := Aside0.mk (Kd.R_lower (Kd.R_new' ho0 (Kd.R_lt (rk HO_5))) (below_size (bl1 HB GE516))); have n3_ := Aside0.mk (blk_below (bk BK516) hb); have n4_ := Aside0.mk (below_step (bl1 HB GE516) hb); clear HO_5; clear HO_517001; clear BK516; clear HB; have HO_5 := n0_; have HO_517001 := n1_; have HO526 := n2_; have BK516 := n3_; have HB := n4_; clear n0_ n1_ n2_ n3_ n4_; (try clear hb); (try clear hb2); (try clear hk); (try clear hi); (try clear ho0); obtain ⟨Ao27, co27, eo27⟩ := Kd.R_slice HO_5.out; subst eo27; obtain ⟨Ao28, co28, eo28⟩ := Kd.R_slice HO526.out; subst eo28) | ((with_reducible refine gate_callee (f := 21) rfl ?_); refine goesL_ (some 36) rfl rfl Try.func21 (by kernel_rfl) rfl #[.slice Ao27 t517.length co27, .slice Ao28 t524.length co28] rfl (by (try simp only [List.map_toArray, List.map_cons, List.map_nil]); first | done | rfl | (simp only [List.length_drop, List.length_take]; rfl)) ?_; (with_reducible refine (laws_wkInts.calls kj4 _ _ t517 _ _ t524 t527 _ ?side1 ?side2 ?side3 ?side4 A24.out).mono ?_); (case side1 => repeat (first | exact (Kd.R_reads' HO_5.out).2.2 | (with_reducible refine Kd.C_alloc ?_ _) | (with_reducible refine Kd.C_drewN ?_ _) | (with_reducible refine Kd.C_drew ?_))); (case side2 => exact (Kd.R_reads' HO_5.out).2.1); (case side3 => repeat (first | exact (Kd.R_reads' HO526.out).2.2 | (with_reducible refine Kd.C_alloc ?_ _) | (with_reducible refine Kd.C_drewN ?_ _) | (with_reducible refine Kd.C_drew ?_))); (case side4 => exact (Kd.R_reads' HO526.out).2.1); rintro e w' ⟨rfl, ⟨nd, rfl⟩⟩; refine ⟨_, rfl, ?_⟩))
     go_ret
     exact ⟨by first | rfl | (simp [errW_none, errW_some] <;> rfl) | (simp [*, errW_none, errW_some] <;> rfl), bl1 HB GE516⟩
    ·replace c22 := Bool.eq_false_iff.mpr c22
     subst c22
     rw [if_neg (show ¬ (false = true) by decide)] at H
     replace H := Option.bind_eq_some_iff.mp H
     obtain ⟨t528, A290, H⟩ := H
     have A29 := Aside0.mk A290
     clear A290
     have H' := Aside0.mk H
     clear H
     have hcz30_0 : wc.cell? ⟨gb516, 0, none⟩ = some (.int .i64 t511) := (blk_cell BK516.out 0).trans rfl
     have hcz30_1 : wc.cell? ⟨gb516, 1, none⟩ = some (.slice Ao9 t512.length co9) := (blk_cell BK516.out 1).trans rfl
     have hfz30_0 := blk_frozen BK516.out 0
     have hfz30_1 := blk_frozen BK516.out 1
     go_wp2_with (first | ((with_reducible refine gate_callee (f := 23) rfl ?_); refine goesL_ (some 39) rfl rfl Try.func23 (by kernel_rfl) rfl #[.agg #[.int .i64 t511, .slice Ao9 t512.length co9], .int .i64 t515, .int .i64 99999] rfl (by (try simp only [List.map_toArray, List.map_cons, List.map_nil]); first | done | rfl | (simp only [List.length_drop, List.length_take]; rfl)) ?_; (with_reducible refine (impl_ReachIn.calls kj4 t511 _ _ t512 t515 99999 t528 _ ?side1 ?side2 A29.out).mono ?_); (case side1 => repeat (first | exact (Kd.R_reads' HO_517001.out).2.2 | (with_reducible refine Kd.C_alloc ?_ _) | (with_reducible refine Kd.C_drewN ?_ _) | (with_reducible refine Kd.C_drew ?_))); (case side2 => exact (Kd.R_reads' HO_517001.out).2.1); rintro e w31 ⟨v529, rfl, ho0, hb⟩; refine ⟨_, rfl, ?_⟩; have n0_ := Aside0.mk (Kd.R_elder' (rk HO_5) (Kd.R_base ho0) hb); have n1_ := Aside0.mk (Kd.R_below (rk HO_517001) hb); have n2_ := Aside0.mk (Kd.R_lower (Kd.R_new' ho0 (Kd.R_lt (rk HO_5))) (below_size (bl1 HB GE516))); have n3_ := Aside0.mk (blk_below (bk BK516) hb); have n4_ := Aside0.mk (below_step (bl1 HB GE516) hb); clear HO_5; clear HO_517001; clear BK516; clear HB; have HO_5 := n0_; have HO_517001 := n1_; have HO530 := n2_; have BK516 := n3_; have HB := n4_; clear n0_ n1_ n2_ n3_ n4_; (try clear hb); (try clear hb2); (try clear hk); (try clear hi); (try clear ho0)))
     go_loopg [6, 7] kj4 (fun kq v6 v7 w' => ∃ (x6_2 : List Int) (x7_2 : Int), v7 = .int .i64 x7_2 ∧ Aside0 (laws_FnReachLoad.l0 kq t515 t517 x6_2 x7_2 t511 t512 = some r) ∧ Aside0 (kq ≤ kj4) ∧ Aside0 (Kd.R (Kd.int .i64) 3 w' w.heap.size (fun k_ => some k_ ≠ (v6 : Value).ownBlock) v518 t517) ∧ Aside0 (Kd.R (Kd.int .i64) 3 w' w.heap.size (fun k_ => some k_ ≠ (v518 : Value).ownBlock) v6 x6_2) ∧ Aside0 (Kd.R k41 41 w' w.heap.size (fun _ => True) (.slice Ao9 t512.length co9) t512) ∧ Aside0 (w'.heap[gb516]? = some (.cells #[.int .i64 t511, (.slice Ao9 t512.length co9)] 25 (0, 0))) ∧ Aside0 (Below w.heap.size w w'))
     case atStart => exact ⟨(t528), (0), (by first | rfl | (simp; done) | (simp [*]; done)), H', ⟨Nat.le_refl _⟩, ⟨by (with_reducible repeat (first | apply Kd.R_alloc | apply Kd.R_drewN | apply Kd.R_drew)); exact Kd.R_mono HO_5.out (fun _ hk => hk.2)⟩, ⟨by (with_reducible repeat (first | apply Kd.R_alloc | apply Kd.R_drewN | apply Kd.R_drew)); exact Kd.R_mono HO530.out (fun _ hk => hk.2)⟩, ⟨rk HO_517001⟩, ⟨bk BK516⟩, ⟨bl1 HB GE516⟩⟩
     case round =>
      clear H'
      try clear c1
      try clear c2
      try clear c2b0
      try clear c2b1
      try clear p2
      try clear c4
      try clear c13
      try clear c19
      try clear c20
      try clear c21
      try clear c22
      try clear c23
      try clear hcz14_0
      try clear hcz14_1
      try clear hcz18_0
      try clear hcz18_1
      try clear hcz25_0
      try clear hcz25_1
      try clear hcz30_0
      try clear hcz30_1
      try clear hcz8_0
      try clear hcz8_1
      try clear hfz14_0
      try clear hfz14_1
      try clear hfz18_0
      try clear hfz18_1
      try clear hfz25_0
      try clear hfz25_1
      try clear hfz30_0
      try clear hfz30_1
      try clear hfz8_0
      try clear hfz8_1
      try clear p2
      obtain ⟨x6_2, x7_2, rfl, HA, HK2, HO_5, HO_6, HO_517001, BK516, HB⟩ := hrel
      cases gk with
      | zero => exact absurd HA.out (by simp [laws_FnReachLoad.l0])
      | succ k2 =>
       have H := HA.out
       clear HA
       simp only [laws_FnReachLoad.l0] at H
       by_cases c32 : x7_2 ≤ 9
       ·rw [if_pos c32] at H
        have c32b0 : decide (x7_2 ≤ 9) = true := decide_eq_true c32
        clear c32
        replace H := Option.bind_eq_some_iff.mp H
        obtain ⟨⟨t532, t533⟩, A330, H⟩ := H
        have A33 := Aside0.mk A330
        clear A330
        replace H := Option.bind_eq_some_iff.mp H
        obtain ⟨t536, A340, H⟩ := H
        have A34 := Aside0.mk A340
        clear A340
        have H' := Aside0.mk H
        clear H
        have hcz35_0 : wr.cell? ⟨gb516, 0, none⟩ = some (.int .i64 t511) := (blk_cell BK516.out 0).trans rfl
        have hcz35_1 : wr.cell? ⟨gb516, 1, none⟩ = some (.slice Ao9 t512.length co9) := (blk_cell BK516.out 1).trans rfl
        have hfz35_0 := blk_frozen BK516.out 0
        have hfz35_1 := blk_frozen BK516.out 1
        go_wp2_with (first | ((with_reducible refine gate_callee (f := 24) rfl ?_); refine goesL_ (some 46) rfl rfl Try.func24 (by kernel_rfl) rfl #[.agg #[.int .i64 t511, .slice Ao9 t512.length co9], .int .i64 x7_2] rfl (by (try simp only [List.map_toArray, List.map_cons, List.map_nil]); first | done | rfl | (simp only [List.length_drop, List.length_take]; rfl)) ?_; (with_reducible refine (impl_LoadNet.calls k2 t511 _ _ t512 x7_2 t532 t533 _ ?side1 ?side2 A33.out).mono ?_); (case side1 => repeat (first | exact (Kd.R_reads' HO_517001.out).2.2 | (with_reducible refine Kd.C_alloc ?_ _) | (with_reducible refine Kd.C_drewN ?_ _) | (with_reducible refine Kd.C_drew ?_))); (case side2 => exact (Kd.R_reads' HO_517001.out).2.1); rintro e w36 ⟨v534, rfl, ho0, hb⟩; refine ⟨_, rfl, ?_⟩; have n0_ := Aside0.mk (Kd.R_below (rk HO_5) hb); have n1_ := Aside0.mk (Kd.R_below (rk HO_6) hb); have n2_ := Aside0.mk (Kd.R_elder' (rk HO_517001) (Kd.R_base ho0) hb); have n3_ := Aside0.mk (Kd.R_lower (Kd.R_new' ho0 (Kd.R_lt (rk HO_517001))) (below_size (bl1 HB GE516))); have n4_ := Aside0.mk (blk_below (bk BK516) hb); have n5_ := Aside0.mk (below_step (bl1 HB GE516) hb); clear HO_5; clear HO_6; clear HO_517001; clear BK516; clear HB; have HO_5 := n0_; have HO_6 := n1_; have HO_517001 := n2_; have HO535 := n3_; have BK516 := n4_; have HB := n5_; clear n0_ n1_ n2_ n3_ n4_ n5_; (try clear hb); (try clear hb2); (try clear hk); (try clear hi); (try clear ho0); obtain ⟨Ao37, co37, eo37⟩ := Kd.R_slice HO535.out; subst eo37) | ((with_reducible refine gate_callee (f := 23) rfl ?_); refine goesL_ (some 48) rfl rfl Try.func23 (by kernel_rfl) rfl #[.agg #[.int .i64 t532, .slice Ao37 t533.length co37], .int .i64 t515, .int .i64 99999] rfl (by (try simp only [List.map_toArray, List.map_cons, List.map_nil]); first | done | rfl | (simp only [List.length_drop, List.length_take]; rfl)) ?_; (with_reducible refine (impl_ReachIn.calls k2 t532 _ _ t533 t515 99999 t536 _ ?side1 ?side2 A34.out).mono ?_); (case side1 => repeat (first | exact (Kd.R_reads' HO535.out).2.2 | (with_reducible refine Kd.C_alloc ?_ _) | (with_reducible refine Kd.C_drewN ?_ _) | (with_reducible refine Kd.C_drew ?_))); (case side2 => exact (Kd.R_reads' HO535.out).2.1); rintro e w38 ⟨v537, rfl, ho0, hb⟩; refine ⟨_, rfl, ?_⟩; have n0_ := Aside0.mk (Kd.R_elder' (rk HO_5) (Kd.R_base ho0) hb); have n1_ := Aside0.mk (Kd.R_elder' (rk HO_6) (Kd.R_base ho0) hb); have n2_ := Aside0.mk (Kd.R_below (rk HO_517001) hb); have n3_ := Aside0.mk (Kd.R_below (rk HO535) hb); have n4_ := Aside0.mk (Kd.R_lower (Kd.R_new' (Kd.R_new' ho0 (Kd.R_lt (rk HO_5))) (Kd.R_lt (rk HO_6))) (below_size (bl1 HB GE516))); have n5_ := Aside0.mk (blk_below (bk BK516) hb); have n6_ := Aside0.mk (below_step (bl1 HB GE516) hb); clear HO_5; clear HO_6; clear HO_517001; clear HO535; clear BK516; clear HB; have HO_5 := n0_; have HO_6 := n1_; have HO_517001 := n2_; have HO535 := n3_; have HO538 := n4_; have BK516 := n5_; have HB := n6_; clear n0_ n1_ n2_ n3_ n4_ n5_ n6_; (try clear hb); (try clear hb2); (try clear hk); (try clear hi); (try clear ho0)))
        go_loopg [9] k2 (fun kq v9 w' => ∃ (x9_3 : Int), v9 = .int .i64 x9_3 ∧ Aside0 (laws_FnReachLoad.l1 kq t515 t517 x6_2 x7_2 t536 x9_3 t511 t512 = some r) ∧ Aside0 (kq ≤ k2) ∧ Aside0 (Kd.R (Kd.int .i64) 3 w' w.heap.size (fun k_ => some k_ ≠ (u6 : Value).ownBlock ∧ some k_ ≠ (v537 : Value).ownBlock) v518 t517) ∧ Aside0 (Kd.R (Kd.int .i64) 3 w' w.heap.size (fun k_ => some k_ ≠ (v518 : Value).ownBlock ∧ some k_ ≠ (v537 : Value).ownBlock) u6 x6_2) ∧ Aside0 (Kd.R (Kd.int .i64) 3 w' w.heap.size (fun k_ => some k_ ≠ (v518 : Value).ownBlock ∧ some k_ ≠ (u6 : Value).ownBlock) v537 t536) ∧ Aside0 (Kd.R k41 41 w' w.heap.size (fun _ => True) (.slice Ao9 t512.length co9) t512) ∧ Aside0 (w'.heap[gb516]? = some (.cells #[.int .i64 t511, (.slice Ao9 t512.length co9)] 25 (0, 0))) ∧ Aside0 (Below w.heap.size w w'))
        case atStart => exact ⟨(0), (by first | rfl | (simp; done) | (simp [*]; done)), H', ⟨Nat.le_refl _⟩, ⟨rk HO_5⟩, ⟨rk HO_6⟩, ⟨by (with_reducible repeat (first | apply Kd.R_alloc | apply Kd.R_drewN | apply Kd.R_drew)); exact Kd.R_mono HO538.out (fun _ hk => ⟨hk.1.2, hk.2⟩)⟩, ⟨by (with_reducible repeat (first | apply Kd.R_alloc | apply Kd.R_drewN | apply Kd.R_drew)); exact Kd.R_mono HO_517001.out (fun _ hk => trivial)⟩, ⟨bk BK516⟩, ⟨bl1 HB GE516⟩⟩
        case round =>
         clear H'
         try clear c1
         try clear c2
         try clear c2b0
         try clear c2b1
         try clear p2
         try clear c3
         try clear c4
         try clear c13
         try clear c19
         try clear c20
         try clear c21
         try clear c22
         try clear c23
         try clear c24
         try clear c32
         try clear c32b0
         try clear hcz14_0
         try clear hcz14_1
         try clear hcz18_0
         try clear hcz18_1
         try clear hcz25_0
         try clear hcz25_1
         try clear hcz30_0
         try clear hcz30_1
         try clear hcz35_0
         try clear hcz35_1
         try clear hcz8_0
         try clear hcz8_1
         try clear hfz14_0
         try clear hfz14_1
         try clear hfz18_0
         try clear hfz18_1
         try clear hfz25_0
         try clear hfz25_1
         try clear hfz30_0
         try clear hfz30_1
         try clear hfz35_0
         try clear hfz35_1
         try clear hfz8_0
         try clear hfz8_1
         try clear p2
         obtain ⟨x9_3, rfl, HA, HK3, HO_5, HO_6, HO_8, HO_517001, BK516, HB⟩ := hrel
         cases gk with
         | zero => exact absurd HA.out (by simp [laws_FnReachLoad.l1])
         | succ k3 =>
          have H := HA.out
          clear HA
          simp only [laws_FnReachLoad.l1] at H
          by_cases c39 : x9_3 < (t536.length : Int)
          ·rw [if_pos c39] at H
           have c39b0 : decide (x9_3 < (t536.length : Int)) = true := decide_eq_true c39
           clear c39
           by_cases c40 : 0 ≤ x9_3
           ·rw [if_pos c40] at H
            have c40b0 : decide (0 ≤ x9_3) = true := decide_eq_true c40
            clear c40
            replace H := Option.bind_eq_some_iff.mp H
            obtain ⟨t540, A410, H⟩ := H
            have A41 := Aside0.mk A410
            clear A410
            by_cases c42 : t540 = true
            ·subst c42
             rw [if_pos rfl] at H
             by_cases c43 : 0 ≤ (rd t536 x9_3)
             ·rw [if_pos c43] at H
              have c43b0 : decide (0 ≤ (rd t536 x9_3)) = true := decide_eq_true c43
              clear c43
              by_cases c44 : (rd t536 x9_3) < (t517.length : Int)
              ·rw [if_pos c44] at H
               have c44b0 : decide ((rd t536 x9_3) < (t517.length : Int)) = true := decide_eq_true c44
               clear c44
               by_cases c45 : (rd t517 (rd t536 x9_3)) < x7_2
               ·rw [if_pos c45] at H
                have c45b0 : decide ((rd t517 (rd t536 x9_3)) < x7_2) = true := decide_eq_true c45
                clear c45
                exact absurd ((Option.some.inj H).trans hr_) Bool.false_ne_true
               ·rw [if_neg c45] at H
                have c45b0 : decide ((rd t517 (rd t536 x9_3)) < x7_2) = false := decide_eq_false c45
                clear c45
                have H' := Aside0.mk H
                clear H
                obtain ⟨Ao46, co46, eo46⟩ := Kd.R_slice HO_8.out
                subst eo46
                have p539 : 0 ≤ (x9_3 : Int) := oT (by first | (with_reducible assumption) | assumption)
                have q539 : x9_3 < (t536.length : Int) := oT (by first | (with_reducible assumption) | assumption)
                obtain ⟨ad539, e539, hx539_0⟩ := Kd.at_int (Kd.R_reads' HO_8.out).2.2 x9_3 p539 q539
                cases e539
                replace p539 := eq_true p539
                replace q539 := eq_true q539
                obtain ⟨Ao47, co47, eo47⟩ := Kd.R_slice HO_6.out
                subst eo47
                go_wp2_with (first | ((with_reducible refine gate_callee (f := 25) rfl ?_); refine goesL_ (some 60) rfl rfl Try.func25 (by kernel_rfl) rfl #[.slice Ao47 x6_2.length co47, .int .i64 (rd t536 x9_3)] rfl (by (try simp only [List.map_toArray, List.map_cons, List.map_nil]); first | done | rfl | (simp only [List.length_drop, List.length_take]; rfl)) ?_; (with_reducible refine (laws_wkIn.calls k3 _ _ x6_2 (rd t536 x9_3) true _ ?side1 ?side2 A41.out).mono ?_); (case side1 => repeat (first | exact (Kd.R_reads' HO_6.out).2.2 | (with_reducible refine Kd.C_alloc ?_ _) | (with_reducible refine Kd.C_drewN ?_ _) | (with_reducible refine Kd.C_drew ?_))); (case side2 => exact (Kd.R_reads' HO_6.out).2.1); rintro e w' ⟨rfl, ⟨nd, rfl⟩⟩; refine ⟨_, rfl, ?_⟩; have p541 : 0 ≤ (x9_3 : Int) := oT (by first | (with_reducible assumption) | assumption); have q541 : x9_3 < (t536.length : Int) := oT (by first | (with_reducible assumption) | assumption); obtain ⟨ad541, e541, hx541_0⟩ := Kd.at_int (Kd.R_reads' HO_8.out).2.2 x9_3 p541 q541; obtain rfl : ad539 = ad541 := (by injection e541); replace p541 := eq_true p541; replace q541 := eq_true q541; obtain ⟨Ao48, co48, eo48⟩ := Kd.R_slice HO_5.out; subst eo48; have p542 : 0 ≤ ((rd t536 x9_3) : Int) := oT (by first | (with_reducible assumption) | assumption); have q542 : (rd t536 x9_3) < (t517.length : Int) := oT (by first | (with_reducible assumption) | assumption); obtain ⟨ad542, e542, hx542_0⟩ := Kd.at_int (Kd.R_reads' HO_5.out).2.2 (rd t536 x9_3) p542 q542; cases e542; replace p542 := eq_true p542; replace q542 := eq_true q542))
                go_roundg k3
                case measure => have := HJ4.out; have := HK2.out; have := HK3.out; omega
                case rel => exact ⟨(wrap64 (x9_3 + 1)), (by first | rfl | (simp; done) | (simp [*]; done)), H', ⟨by have := HJ4.out; have := HK2.out; have := HK3.out; omega⟩, ⟨rk HO_5⟩, ⟨rk HO_6⟩, ⟨rk HO_8⟩, ⟨rk HO_517001⟩, ⟨bk BK516⟩, ⟨bl1 HB GE516⟩⟩
              ·rw [if_neg c44] at H
               exact absurd H (by simp)
             ·rw [if_neg c43] at H
              exact absurd H (by simp)
            ·replace c42 := Bool.eq_false_iff.mpr c42
             subst c42
             rw [if_neg (show ¬ (false = true) by decide)] at H
             exact absurd ((Option.some.inj H).trans hr_) Bool.false_ne_true
           ·rw [if_neg c40] at H
            exact absurd H (by simp)
          ·rw [if_neg c39] at H
           have c39b0 : decide (x9_3 < (t536.length : Int)) = false := decide_eq_false c39
           clear c39
           have H' := Aside0.mk H
           clear H
           obtain ⟨Ao49, co49, eo49⟩ := Kd.R_slice HO_8.out
           subst eo49
           go_wp2
           go_roundg k3
           case measure => have := HJ4.out; have := HK2.out; have := HK3.out; omega
           case rel => exact ⟨(t536), (wrap64 (x7_2 + 1)), (by first | rfl | (simp; done) | (simp [*]; done)), H', ⟨by have := HJ4.out; have := HK2.out; have := HK3.out; omega⟩, ⟨by (with_reducible repeat (first | apply Kd.R_alloc | apply Kd.R_drewN | apply Kd.R_drew)); exact Kd.R_mono HO_5.out (fun _ hk => hk.2)⟩, ⟨by (with_reducible repeat (first | apply Kd.R_alloc | apply Kd.R_drewN | apply Kd.R_drew)); exact Kd.R_mono HO_8.out (fun _ hk => hk.1)⟩, ⟨rk HO_517001⟩, ⟨bk BK516⟩, ⟨bl1 HB GE516⟩⟩
       ·rw [if_neg c32] at H
        have c32b0 : decide (x7_2 ≤ 9) = false := decide_eq_false c32
        clear c32
        replace H := Option.bind_eq_some_iff.mp H
        obtain ⟨t531, A500, H⟩ := H
        have A50 := Aside0.mk A500
        clear A500
        obtain rfl := Option.some.inj H
        obtain ⟨Ao51, co51, eo51⟩ := Kd.R_slice HO_6.out
        subst eo51
        go_wp2_with (first | ((with_reducible refine gate_callee (f := 25) rfl ?_); refine goesL_ (some 76) rfl rfl Try.func25 (by kernel_rfl) rfl #[.slice Ao51 x6_2.length co51, .int .i64 t515] rfl (by (try simp only [List.map_toArray, List.map_cons, List.map_nil]); first | done | rfl | (simp only [List.length_drop, List.length_take]; rfl)) ?_; (with_reducible refine (laws_wkIn.calls k2 _ _ x6_2 t515 t531 _ ?side1 ?side2 A50.out).mono ?_); (case side1 => repeat (first | exact (Kd.R_reads' HO_6.out).2.2 | (with_reducible refine Kd.C_alloc ?_ _) | (with_reducible refine Kd.C_drewN ?_ _) | (with_reducible refine Kd.C_drew ?_))); (case side2 => exact (Kd.R_reads' HO_6.out).2.1); rintro e w' ⟨rfl, ⟨nd, rfl⟩⟩; refine ⟨_, rfl, ?_⟩))
        go_ret
        exact ⟨by first | rfl | (simp [errW_none, errW_some] <;> rfl) | (simp [*, errW_none, errW_some] <;> rfl), bl1 HB GE516⟩

/-- THE ONE PURE STATEMENT of laws_FnReachLoad: yours. -/
def laws_FnReachLoad.Pure : Prop := ∀ (l0 : List Int), l0.length ≤ maxLen → l0.length * 1 ≤ 140737488351232 → (∀ x ∈ l0, (Lit.int .u8 x).wf = true) → ∃ k, laws_FnReachLoad.f k l0 = some true
theorem laws_FnReachLoad.walk (P : laws_FnReachLoad.Pure) (a0 : Option Addr) (len0 cap0 : Nat) (z0 : List Int) (w : World) (w0 : (a0 = none ∧ len0 = 0 ∧ cap0 = 0 ∧ z0 = []) ∨ ∃ x, a0 = some x ∧ len0 ≤ cap0 ∧ cap0 ≤ maxLen ∧ z0.length = cap0 ∧ (∀ i, i < z0.length → w.cell? (x.add i) = some (.int .u8 (z0.getD i 0))) ∧ ∀ n ∈ z0, (Lit.int .u8 n).wf = true) (y0 : len0 * 1 ≤ 140737488351232) :
  Calls Try.prog 4 #[.slice a0 len0 cap0] w fun e w' => e = .returned (.bool true) ∧ Below w.heap.size w w' := by
 obtain ⟨l0, rfl, hr0, hm0, hw0, hc0⟩ := ReadsInt.ofRowC w0
 obtain ⟨k, h⟩ := P l0 hm0 y0 hw0
 refine (laws_FnReachLoad.calls k _ _ l0 true w (Kd.C_of_reads (d := (0 : Int)) (h1 := fun _ => rfl) hr0) hc0 h rfl).mono ?_
 rintro e w' ⟨rfl, hd⟩
 exact ⟨rfl, hd⟩

end Go.Proofs.Ytgickejeakmenaa.F
