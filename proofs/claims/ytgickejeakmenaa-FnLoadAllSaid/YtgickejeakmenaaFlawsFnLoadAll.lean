-- Printed by wip/px/px.py of this claim's repository (the kit's printer, extended there). Lean checks it.
import Derived.Test.YtgickejeakmenaaFKinds
import Derived.Test.YtgickejeakmenaaFspecDrawLoadAll
import Derived.Test.YtgickejeakmenaaFimplLoadAll
import Derived.Test.YtgickejeakmenaaFwkNet
import Derived.Test.YtgickejeakmenaaFspecLoadAll
import Derived.Test.YtgickejeakmenaaFimplLoadWalk
namespace Go.Proofs.Ytgickejeakmenaa.F
open Go.RowKit Go.Proofs.YtgickejeakmenaaW.PrintWords Go.Proofs.YtgickejeakmenaaW.PrintLast Go.Proofs.YtgickejeakmenaaW.PrintMore
attribute [local go_sem] max2_int min2_int max_two min_two max_three min_three max_four min_four   -- for this text's walks alone
set_option linter.unusedVariables false
set_option linter.unusedSimpArgs false

/-! ### laws_FnLoadAll: function 5 -/
mutual
def laws_FnLoadAll.j0 : Nat → Int → List Int → Bool → Int → List (S41) → Option (Bool)
 | 0, _, _, _, _, _ => none
 | k + 1, x4, x5, x34, x470000, x470001 => if x34 = true then ((spec_LoadAll.f k x470000 x470001 x4).bind fun t477 => ((laws_wkInts.f k x5 t477).bind fun t480 => (some t480))) else (laws_FnLoadAll.l0 k x4 x5 0 x470000 x470001)
def laws_FnLoadAll.l0 : Nat → Int → List Int → Int → Int → List (S41) → Option (Bool)
 | 0, _, _, _, _, _ => none
 | k + 1, x4, x5, x6, x470000, x470001 => if x6 < x470000 then (laws_FnLoadAll.l1 k x4 x5 x6 0 x470000 x470001) else (laws_FnLoadAll.l2 k x4 x5 0 x470000 x470001)
def laws_FnLoadAll.l1 : Nat → Int → List Int → Int → Int → Int → List (S41) → Option (Bool)
 | 0, _, _, _, _, _, _ => none
 | k + 1, x4, x5, x6, x7, x470000, x470001 => if x7 ≤ 9 then ((impl_LoadWalk.f k x470000 x470001 x4 x6 x7).bind fun bt481 => (if 0 ≤ x6 then (if x6 < (x5.length : Int) then (if (bt481.2 != (decide (x7 ≤ (rd x5 x6)))) = true then (some false) else (laws_FnLoadAll.l1 k x4 x5 x6 (wrap64 (x7 + 1)) x470000 x470001)) else (none)) else (none))) else (laws_FnLoadAll.l0 k x4 x5 (wrap64 (x6 + 1)) x470000 x470001)
def laws_FnLoadAll.l2 : Nat → Int → List Int → Int → Int → List (S41) → Option (Bool)
 | 0, _, _, _, _, _ => none
 | k + 1, x4, x5, x10, x470000, x470001 => if x10 < (x470001.length : Int) then (if 0 ≤ x10 then (if 0 ≤ ((rd_T41 x470001 x10).f0) then (if ((rd_T41 x470001 x10).f0) < (x5.length : Int) then (if (rd x5 ((rd_T41 x470001 x10).f0)) < ((rd_T41 x470001 x10).f4) then (if 0 ≤ ((rd_T41 x470001 x10).f1) then (if ((rd_T41 x470001 x10).f1) < (x5.length : Int) then (if (rd x5 ((rd_T41 x470001 x10).f1)) < (rd x5 ((rd_T41 x470001 x10).f0)) then (some false) else (laws_FnLoadAll.l2 k x4 x5 (wrap64 (x10 + 1)) x470000 x470001)) else (none)) else (none)) else (if 0 ≤ ((rd_T41 x470001 x10).f1) then (if ((rd_T41 x470001 x10).f1) < (x5.length : Int) then (if (rd x5 ((rd_T41 x470001 x10).f1)) < ((rd_T41 x470001 x10).f4) then (some false) else (laws_FnLoadAll.l2 k x4 x5 (wrap64 (x10 + 1)) x470000 x470001)) else (none)) else (none))) else (none)) else (none)) else (none)) else (if 0 ≤ x4 then (if x4 < (x5.length : Int) then (some ((rd x5 x4) == 9)) else (none)) else (none))
end
def laws_FnLoadAll.f (k : Nat) (l0 : List Int) : Option (Bool) := if (l0.length : Int) > 1048576 then (some true) else ((spec_DrawLoadAll.f k l0).bind fun bt464 => ((impl_LoadAll.f k bt464.1 bt464.2.1 bt464.2.2).bind fun t470 => ((spec_LoadAll.f k bt464.1 bt464.2.1 bt464.2.2).bind fun t473 => ((laws_wkInts.f k t470 t473).bind fun t476 => (if t476 = true then (laws_FnLoadAll.j0 k bt464.2.2 t470 ((t470.length : Int) == 0) bt464.1 bt464.2.1) else (laws_FnLoadAll.j0 k bt464.2.2 t470 true bt464.1 bt464.2.1))))))
theorem laws_FnLoadAll.mono_l : ∀ k, (∀ y0 y1 y2 y3 y4, LeO (laws_FnLoadAll.j0 k y0 y1 y2 y3 y4) (laws_FnLoadAll.j0 (k + 1) y0 y1 y2 y3 y4)) ∧ (∀ y0 y1 y2 y3 y4, LeO (laws_FnLoadAll.l0 k y0 y1 y2 y3 y4) (laws_FnLoadAll.l0 (k + 1) y0 y1 y2 y3 y4)) ∧ (∀ y0 y1 y2 y3 y4 y5, LeO (laws_FnLoadAll.l1 k y0 y1 y2 y3 y4 y5) (laws_FnLoadAll.l1 (k + 1) y0 y1 y2 y3 y4 y5)) ∧ (∀ y0 y1 y2 y3 y4, LeO (laws_FnLoadAll.l2 k y0 y1 y2 y3 y4) (laws_FnLoadAll.l2 (k + 1) y0 y1 y2 y3 y4))
 | 0 => ⟨fun _ _ _ _ _ r h => by simp [laws_FnLoadAll.j0] at h, fun _ _ _ _ _ r h => by simp [laws_FnLoadAll.l0] at h, fun _ _ _ _ _ _ r h => by simp [laws_FnLoadAll.l1] at h, fun _ _ _ _ _ r h => by simp [laws_FnLoadAll.l2] at h⟩
 | k + 1 => by
  obtain ⟨ih0, ih1, ih2, ih3⟩ := laws_FnLoadAll.mono_l k
  refine ⟨?_, ?_, ?_, ?_⟩
  ·intro y0 y1 y2 y3 y4
   unfold laws_FnLoadAll.j0
   repeat' first
   | (with_reducible exact ih0 _ _ _ _ _)
   | (with_reducible exact ih1 _ _ _ _ _)
   | (with_reducible exact ih2 _ _ _ _ _ _)
   | (with_reducible exact ih3 _ _ _ _ _)
   | (with_reducible exact impl_LoadAll.mono _ _ _ _)
   | (with_reducible exact impl_LoadWalk.mono _ _ _ _ _ _)
   | (with_reducible exact laws_wkInts.mono _ _ _)
   | (with_reducible exact spec_DrawLoadAll.mono _ _)
   | (with_reducible exact spec_LoadAll.mono _ _ _ _)
   | (with_reducible exact LeO.refl _)
   | (with_reducible exact LeO.none _)
   | (with_reducible refine LeO.ite ?_ ?_)
   | (with_reducible refine LeO.bind ?_ (fun _ => ?_))
   | exact ih0 _ _ _ _ _
   | exact ih1 _ _ _ _ _
   | exact ih2 _ _ _ _ _ _
   | exact ih3 _ _ _ _ _
   | exact impl_LoadAll.mono _ _ _ _
   | exact impl_LoadWalk.mono _ _ _ _ _ _
   | exact laws_wkInts.mono _ _ _
   | exact spec_DrawLoadAll.mono _ _
   | exact spec_LoadAll.mono _ _ _ _
   | exact LeO.none _
   | refine LeO.ite ?_ ?_
   | refine LeO.bind ?_ (fun _ => ?_)
  ·intro y0 y1 y2 y3 y4
   unfold laws_FnLoadAll.l0
   repeat' first
   | (with_reducible exact ih0 _ _ _ _ _)
   | (with_reducible exact ih1 _ _ _ _ _)
   | (with_reducible exact ih2 _ _ _ _ _ _)
   | (with_reducible exact ih3 _ _ _ _ _)
   | (with_reducible exact impl_LoadAll.mono _ _ _ _)
   | (with_reducible exact impl_LoadWalk.mono _ _ _ _ _ _)
   | (with_reducible exact laws_wkInts.mono _ _ _)
   | (with_reducible exact spec_DrawLoadAll.mono _ _)
   | (with_reducible exact spec_LoadAll.mono _ _ _ _)
   | (with_reducible exact LeO.refl _)
   | (with_reducible exact LeO.none _)
   | (with_reducible refine LeO.ite ?_ ?_)
   | (with_reducible refine LeO.bind ?_ (fun _ => ?_))
   | exact ih0 _ _ _ _ _
   | exact ih1 _ _ _ _ _
   | exact ih2 _ _ _ _ _ _
   | exact ih3 _ _ _ _ _
   | exact impl_LoadAll.mono _ _ _ _
   | exact impl_LoadWalk.mono _ _ _ _ _ _
   | exact laws_wkInts.mono _ _ _
   | exact spec_DrawLoadAll.mono _ _
   | exact spec_LoadAll.mono _ _ _ _
   | exact LeO.none _
   | refine LeO.ite ?_ ?_
   | refine LeO.bind ?_ (fun _ => ?_)
  ·intro y0 y1 y2 y3 y4 y5
   unfold laws_FnLoadAll.l1
   repeat' first
   | (with_reducible exact ih0 _ _ _ _ _)
   | (with_reducible exact ih1 _ _ _ _ _)
   | (with_reducible exact ih2 _ _ _ _ _ _)
   | (with_reducible exact ih3 _ _ _ _ _)
   | (with_reducible exact impl_LoadAll.mono _ _ _ _)
   | (with_reducible exact impl_LoadWalk.mono _ _ _ _ _ _)
   | (with_reducible exact laws_wkInts.mono _ _ _)
   | (with_reducible exact spec_DrawLoadAll.mono _ _)
   | (with_reducible exact spec_LoadAll.mono _ _ _ _)
   | (with_reducible exact LeO.refl _)
   | (with_reducible exact LeO.none _)
   | (with_reducible refine LeO.ite ?_ ?_)
   | (with_reducible refine LeO.bind ?_ (fun _ => ?_))
   | exact ih0 _ _ _ _ _
   | exact ih1 _ _ _ _ _
   | exact ih2 _ _ _ _ _ _
   | exact ih3 _ _ _ _ _
   | exact impl_LoadAll.mono _ _ _ _
   | exact impl_LoadWalk.mono _ _ _ _ _ _
   | exact laws_wkInts.mono _ _ _
   | exact spec_DrawLoadAll.mono _ _
   | exact spec_LoadAll.mono _ _ _ _
   | exact LeO.none _
   | refine LeO.ite ?_ ?_
   | refine LeO.bind ?_ (fun _ => ?_)
  ·intro y0 y1 y2 y3 y4
   unfold laws_FnLoadAll.l2
   repeat' first
   | (with_reducible exact ih0 _ _ _ _ _)
   | (with_reducible exact ih1 _ _ _ _ _)
   | (with_reducible exact ih2 _ _ _ _ _ _)
   | (with_reducible exact ih3 _ _ _ _ _)
   | (with_reducible exact impl_LoadAll.mono _ _ _ _)
   | (with_reducible exact impl_LoadWalk.mono _ _ _ _ _ _)
   | (with_reducible exact laws_wkInts.mono _ _ _)
   | (with_reducible exact spec_DrawLoadAll.mono _ _)
   | (with_reducible exact spec_LoadAll.mono _ _ _ _)
   | (with_reducible exact LeO.refl _)
   | (with_reducible exact LeO.none _)
   | (with_reducible refine LeO.ite ?_ ?_)
   | (with_reducible refine LeO.bind ?_ (fun _ => ?_))
   | exact ih0 _ _ _ _ _
   | exact ih1 _ _ _ _ _
   | exact ih2 _ _ _ _ _ _
   | exact ih3 _ _ _ _ _
   | exact impl_LoadAll.mono _ _ _ _
   | exact impl_LoadWalk.mono _ _ _ _ _ _
   | exact laws_wkInts.mono _ _ _
   | exact spec_DrawLoadAll.mono _ _
   | exact spec_LoadAll.mono _ _ _ _
   | exact LeO.none _
   | refine LeO.ite ?_ ?_
   | refine LeO.bind ?_ (fun _ => ?_)
theorem laws_FnLoadAll.mono : ∀ a0 k, LeO (laws_FnLoadAll.f k a0) (laws_FnLoadAll.f (k + 1) a0) := by
 intro a0 k
 obtain ⟨ih0, ih1, ih2, ih3⟩ := laws_FnLoadAll.mono_l k
 unfold laws_FnLoadAll.f
 repeat' first
   | (with_reducible exact ih0 _ _ _ _ _)
   | (with_reducible exact ih1 _ _ _ _ _)
   | (with_reducible exact ih2 _ _ _ _ _ _)
   | (with_reducible exact ih3 _ _ _ _ _)
   | (with_reducible exact impl_LoadAll.mono _ _ _ _)
   | (with_reducible exact impl_LoadWalk.mono _ _ _ _ _ _)
   | (with_reducible exact laws_wkInts.mono _ _ _)
   | (with_reducible exact spec_DrawLoadAll.mono _ _)
   | (with_reducible exact spec_LoadAll.mono _ _ _ _)
   | (with_reducible exact LeO.refl _)
   | (with_reducible exact LeO.none _)
   | (with_reducible refine LeO.ite ?_ ?_)
   | (with_reducible refine LeO.bind ?_ (fun _ => ?_))
   | exact ih0 _ _ _ _ _
   | exact ih1 _ _ _ _ _
   | exact ih2 _ _ _ _ _ _
   | exact ih3 _ _ _ _ _
   | exact impl_LoadAll.mono _ _ _ _
   | exact impl_LoadWalk.mono _ _ _ _ _ _
   | exact laws_wkInts.mono _ _ _
   | exact spec_DrawLoadAll.mono _ _
   | exact spec_LoadAll.mono _ _ _ _
   | exact LeO.none _
   | refine LeO.ite ?_ ?_
   | refine LeO.bind ?_ (fun _ => ?_)
set_option maxHeartbeats 8000000 in
set_option maxRecDepth 100000 in
theorem laws_FnLoadAll.calls (k : Nat) (A0 : Option Addr) (c0 : Nat) (l0 : List Int) (r : Bool) (w : World) (hr0 : Kd.C (Kd.int .u8) w A0 l0.length l0) (hc0 : l0.length ≤ c0) (h : laws_FnLoadAll.f k l0 = some r) (hr_ : r = true) :
  Calls Try.prog 5 #[.slice A0 l0.length c0] w fun e w' => e = .returned (.bool r) ∧ Below w.heap.size w w' := by
 have hu25 := Try.underlying25
 have hu41 := Try.underlying41
 have HR0 := Aside0.mk hr0
 have HC0 := Aside0.mk hc0
 clear hr0 hc0
 have HB := Aside0.mk (Below.refl w.heap.size w)
 have H : (if (l0.length : Int) > 1048576 then (some true) else ((spec_DrawLoadAll.f k l0).bind fun bt464 => ((impl_LoadAll.f k bt464.1 bt464.2.1 bt464.2.2).bind fun t470 => ((spec_LoadAll.f k bt464.1 bt464.2.1 bt464.2.2).bind fun t473 => ((laws_wkInts.f k t470 t473).bind fun t476 => (if t476 = true then (laws_FnLoadAll.j0 k bt464.2.2 t470 ((t470.length : Int) == 0) bt464.1 bt464.2.1) else (laws_FnLoadAll.j0 k bt464.2.2 t470 true bt464.1 bt464.2.1))))))) = some r := h
 clear h
 by_cases c2 : (l0.length : Int) > 1048576
 ·rw [if_pos c2] at H
  have c2b0 : decide (1048576 < (l0.length : Int)) = true := decide_eq_true c2
  have c2b1 : decide (1048576 < l0.length) = true := decide_eq_true (by omega)
  clear c2
  obtain rfl := Option.some.inj H
  go_enter Try.func5, Try.ntmps5
  go_wp2
  go_ret
  exact ⟨by first | rfl | (simp [errW_none, errW_some] <;> rfl) | (simp [*, errW_none, errW_some] <;> rfl), bl HB⟩
 rw [if_neg c2] at H
 have c2b0 : decide (1048576 < (l0.length : Int)) = false := decide_eq_false c2
 have c2b1 : decide (1048576 < l0.length) = false := decide_eq_false (by omega)
 clear c2
 replace H := Option.bind_eq_some_iff.mp H
 obtain ⟨⟨t464, t465, t468⟩, A30, H⟩ := H
 have A3 := Aside0.mk A30
 clear A30
 replace H := Option.bind_eq_some_iff.mp H
 obtain ⟨t470, A40, H⟩ := H
 have A4 := Aside0.mk A40
 clear A40
 have HC5 := Aside0.mk H
 clear H
 go_enter Try.func5, Try.ntmps5
 go_upto_region 5 with (first | ((with_reducible refine gate_callee (f := 19) rfl ?_); refine goesL_ (some 18) rfl rfl Try.func19 (by kernel_rfl) rfl #[.slice A0 l0.length c0] rfl (by (try simp only [List.map_toArray, List.map_cons, List.map_nil]); first | done | rfl | (simp only [List.length_drop, List.length_take]; rfl)) ?_; (with_reducible refine (spec_DrawLoadAll.calls k _ _ l0 t464 t465 t468 _ ?side1 ?side2 A3.out).mono ?_); (case side1 => repeat (first | exact HR0.out | (with_reducible refine Kd.C_alloc ?_ _) | (with_reducible refine Kd.C_drewN ?_ _) | (with_reducible refine Kd.C_drew ?_))); (case side2 => exact HC0.out); rintro e w6 ⟨v466, rfl, ho0, hb⟩; refine ⟨_, rfl, ?_⟩; have HO467 := Aside0.mk (Kd.R_lower ho0 (below_size (bl HB))); replace HB := Aside0.mk (below_step (bl HB) hb); (try clear hb); (try clear hb2); (try clear hk); (try clear hi); (try clear ho0)) | ((with_reducible refine gate_dst (N := 3) rfl ?_); refine box_event ?hg (N := 3) ?hd (cs := #[.int .i64 0, .slice none 0 0]) (t := 25) ?hr ?_; (case hd => rfl); (case hg => rfl); (case hr => first | (go_simp; done) | (go_simp; rfl)); intro gb469 hg w7 hbox hb; replace HO467 := Aside0.mk (Kd.R_below (rk HO467) hb); have BK469 := Aside0.mk (hbox); have GW469 := Aside0.mk ((by rw [hg]; exact (below_size (bl HB)) : w.heap.size ≤ gb469)); have GE469 := Aside0.mk ((by rw [hg]; exact (below_size (bl HB)) : w.heap.size ≤ gb469)); replace HB := Aside0.mk (below_step (bl HB) hb); clear hb hbox hg; have hcz8_0 : w7.cell? ⟨gb469, 0, none⟩ = some (.int .i64 0) := (blk_cell BK469.out 0).trans rfl; have hcz8_1 : w7.cell? ⟨gb469, 1, none⟩ = some (.slice none 0 0) := (blk_cell BK469.out 1).trans rfl; have hfz8_0 := blk_frozen BK469.out 0; have hfz8_1 := blk_frozen BK469.out 1; obtain ⟨Ao9, co9, eo9⟩ := Kd.R_slice HO467.out; subst eo9) | ((with_reducible refine gate_callee (f := 20) rfl ?_); refine goesL_ (some 23) rfl rfl Try.func20 (by kernel_rfl) rfl #[.agg #[.int .i64 t464, .slice Ao9 t465.length co9], .int .i64 t468] rfl (by (try simp only [List.map_toArray, List.map_cons, List.map_nil]); first | done | rfl | (simp only [List.length_drop, List.length_take]; rfl)) ?_; (with_reducible refine (impl_LoadAll.calls k t464 _ _ t465 t468 t470 _ ?side1 ?side2 A4.out).mono ?_); (case side1 => refine (Kd.R_reads' (e := 41) (base := w.heap.size) (ok := fun k_ => True) (n := t465.length) (c := co9) ?_).2.2; exact (by (with_reducible repeat (first | apply Kd.R_alloc | apply Kd.R_drewN | apply Kd.R_drew)); exact (Kd.R_mono (Kd.R_far (p := ⟨gb469, 1, none⟩) (Kd.R_far (p := ⟨gb469, 0, none⟩) (Kd.R_types HO467.out BK469.out (by decide)) (fun _ hk => hk.2) (.int .i64 t464)) (fun _ hk => hk.2) (.slice Ao9 t465.length co9)) (fun _ h_ => h_.1)))); (case side2 => exact (Kd.R_reads' HO467.out).2.1); rintro e w10 ⟨v471, rfl, ho0, hb⟩; refine ⟨_, rfl, ?_⟩; replace HO467 := Aside0.mk (Kd.R_below (by (with_reducible repeat (first | apply Kd.R_alloc | apply Kd.R_drewN | apply Kd.R_drew)); exact (Kd.R_mono (Kd.R_far (p := ⟨gb469, 1, none⟩) (Kd.R_far (p := ⟨gb469, 0, none⟩) (Kd.R_types HO467.out BK469.out (by decide)) (fun _ hk => hk.2) (.int .i64 t464)) (fun _ hk => hk.2) (.slice Ao9 t465.length co9)) (fun _ h_ => h_.1))) hb); have HO472 := Aside0.mk (Kd.R_lower ho0 (below_size (bl1 HB GE469))); replace BK469 := Aside0.mk (blk_below (g := gb469) (o := .cells #[.int .i64 t464, .slice Ao9 t465.length co9] 25 (0, 0)) (by (with_reducible repeat (first | refine blk_drewN ?_ _ | refine blk_drew ?_ | refine blk_alloc ?_ _)); refine blk_put (cs := #[.int .i64 t464, .slice none 0 0]) ?_ 1 _ rfl; refine blk_put (cs := #[.int .i64 0, .slice none 0 0]) ?_ 0 _ rfl; (with_reducible repeat (first | refine blk_drewN ?_ _ | refine blk_drew ?_ | refine blk_alloc ?_ _)); exact BK469.out) hb); replace HB := Aside0.mk (below_step (bl1 HB GE469) hb); (try clear hb); (try clear hb2); (try clear hk); (try clear hi); (try clear ho0)))
 (try simp only [Act.put, List.setIfInBounds_toArray, List.set_cons_zero, List.set_cons_succ])
 go_cut [34] (fun v34 wc => ∃ (kq : Nat) (x34_4 : Bool), v34 = .bool x34_4 ∧ Aside0 (laws_FnLoadAll.j0 kq t468 t470 x34_4 t464 t465 = some r) ∧ Aside0 (kq ≤ k) ∧ Aside0 (Kd.R (Kd.int .i64) 3 wc w.heap.size (fun _ => True) v471 t470) ∧ Aside0 (Kd.R k41 41 wc w.heap.size (fun _ => True) (.slice Ao9 t465.length co9) t465) ∧ Aside0 (wc.heap[gb469]? = some (.cells #[.int .i64 t464, (.slice Ao9 t465.length co9)] 25 (0, 0))) ∧ Aside0 (Below w.heap.size w wc))
 case first =>
  have H := HC5.out
  clear HC5
  replace H := Option.bind_eq_some_iff.mp H
  obtain ⟨t473, A110, H⟩ := H
  have A11 := Aside0.mk A110
  clear A110
  replace H := Option.bind_eq_some_iff.mp H
  obtain ⟨t476, A120, H⟩ := H
  have A12 := Aside0.mk A120
  clear A120
  by_cases c13 : t476 = true
  ·subst c13
   rw [if_pos rfl] at H
   have H' := Aside0.mk H
   clear H
   have hcz14_0 : w10.cell? ⟨gb469, 0, none⟩ = some (.int .i64 t464) := (blk_cell BK469.out 0).trans rfl
   have hcz14_1 : w10.cell? ⟨gb469, 1, none⟩ = some (.slice Ao9 t465.length co9) := (blk_cell BK469.out 1).trans rfl
   have hfz14_0 := blk_frozen BK469.out 0
   have hfz14_1 := blk_frozen BK469.out 1
   go_wp2_with (first | ((with_reducible refine gate_callee (f := 22) rfl ?_); refine goesL_ (some 27) rfl rfl Try.func22 (by kernel_rfl) rfl #[.agg #[.int .i64 t464, .slice Ao9 t465.length co9], .int .i64 t468] rfl (by (try simp only [List.map_toArray, List.map_cons, List.map_nil]); first | done | rfl | (simp only [List.length_drop, List.length_take]; rfl)) ?_; (with_reducible refine (spec_LoadAll.calls k t464 _ _ t465 t468 t473 _ ?side1 ?side2 A11.out).mono ?_); (case side1 => repeat (first | exact (Kd.R_reads' HO467.out).2.2 | (with_reducible refine Kd.C_alloc ?_ _) | (with_reducible refine Kd.C_drewN ?_ _) | (with_reducible refine Kd.C_drew ?_))); (case side2 => exact (Kd.R_reads' HO467.out).2.1); rintro e w15 ⟨v474, rfl, ho0, hb⟩; refine ⟨_, rfl, ?_⟩; replace HO467 := Aside0.mk (Kd.R_below (rk HO467) hb); have HO475 := Aside0.mk (Kd.R_lower (Kd.R_new' ho0 (Kd.R_lt (rk HO472))) (below_size (bl1 HB GE469))); replace HO472 := Aside0.mk (Kd.R_elder' (rk HO472) (Kd.R_base ho0) hb); replace BK469 := Aside0.mk (blk_below (bk BK469) hb); replace HB := Aside0.mk (below_step (bl1 HB GE469) hb); (try clear hb); (try clear hb2); (try clear hk); (try clear hi); (try clear ho0); obtain ⟨Ao16, co16, eo16⟩ := Kd.R_slice HO472.out; subst eo16; obtain ⟨Ao17, co17, eo17⟩ := Kd.R_slice HO475.out; subst eo17) | ((with_reducible refine gate_callee (f := 21) rfl ?_); refine goesL_ (some 28) rfl rfl Try.func21 (by kernel_rfl) rfl #[.slice Ao16 t470.length co16, .slice Ao17 t473.length co17] rfl (by (try simp only [List.map_toArray, List.map_cons, List.map_nil]); first | done | rfl | (simp only [List.length_drop, List.length_take]; rfl)) ?_; (with_reducible refine (laws_wkInts.calls k _ _ t470 _ _ t473 true _ ?side1 ?side2 ?side3 ?side4 A12.out).mono ?_); (case side1 => repeat (first | exact (Kd.R_reads' HO472.out).2.2 | (with_reducible refine Kd.C_alloc ?_ _) | (with_reducible refine Kd.C_drewN ?_ _) | (with_reducible refine Kd.C_drew ?_))); (case side2 => exact (Kd.R_reads' HO472.out).2.1); (case side3 => repeat (first | exact (Kd.R_reads' HO475.out).2.2 | (with_reducible refine Kd.C_alloc ?_ _) | (with_reducible refine Kd.C_drewN ?_ _) | (with_reducible refine Kd.C_drew ?_))); (case side4 => exact (Kd.R_reads' HO475.out).2.1); rintro e w' ⟨rfl, ⟨nd, rfl⟩⟩; refine ⟨_, rfl, ?_⟩))
   go_meet
   case rel => exact ⟨_, (((t470.length : Int) == 0)), (by first | rfl | (simp; done) | (simp [*]; done)), H', ⟨by first | omega | exact Nat.le_refl _⟩, ⟨by (with_reducible repeat (first | apply Kd.R_alloc | apply Kd.R_drewN | apply Kd.R_drew)); exact Kd.R_mono HO472.out (fun _ hk => trivial)⟩, ⟨rk HO467⟩, ⟨bk BK469⟩, ⟨bl1 HB GE469⟩⟩
  replace c13 := Bool.eq_false_iff.mpr c13
  subst c13
  rw [if_neg (show ¬ (false = true) by decide)] at H
  have H' := Aside0.mk H
  clear H
  have hcz18_0 : w10.cell? ⟨gb469, 0, none⟩ = some (.int .i64 t464) := (blk_cell BK469.out 0).trans rfl
  have hcz18_1 : w10.cell? ⟨gb469, 1, none⟩ = some (.slice Ao9 t465.length co9) := (blk_cell BK469.out 1).trans rfl
  have hfz18_0 := blk_frozen BK469.out 0
  have hfz18_1 := blk_frozen BK469.out 1
  go_wp2_with (first | ((with_reducible refine gate_callee (f := 22) rfl ?_); refine goesL_ (some 27) rfl rfl Try.func22 (by kernel_rfl) rfl #[.agg #[.int .i64 t464, .slice Ao9 t465.length co9], .int .i64 t468] rfl (by (try simp only [List.map_toArray, List.map_cons, List.map_nil]); first | done | rfl | (simp only [List.length_drop, List.length_take]; rfl)) ?_; (with_reducible refine (spec_LoadAll.calls k t464 _ _ t465 t468 t473 _ ?side1 ?side2 A11.out).mono ?_); (case side1 => repeat (first | exact (Kd.R_reads' HO467.out).2.2 | (with_reducible refine Kd.C_alloc ?_ _) | (with_reducible refine Kd.C_drewN ?_ _) | (with_reducible refine Kd.C_drew ?_))); (case side2 => exact (Kd.R_reads' HO467.out).2.1); rintro e w19 ⟨v474, rfl, ho0, hb⟩; refine ⟨_, rfl, ?_⟩; replace HO467 := Aside0.mk (Kd.R_below (rk HO467) hb); have HO475 := Aside0.mk (Kd.R_lower (Kd.R_new' ho0 (Kd.R_lt (rk HO472))) (below_size (bl1 HB GE469))); replace HO472 := Aside0.mk (Kd.R_elder' (rk HO472) (Kd.R_base ho0) hb); replace BK469 := Aside0.mk (blk_below (bk BK469) hb); replace HB := Aside0.mk (below_step (bl1 HB GE469) hb); (try clear hb); (try clear hb2); (try clear hk); (try clear hi); (try clear ho0); obtain ⟨Ao20, co20, eo20⟩ := Kd.R_slice HO472.out; subst eo20; obtain ⟨Ao21, co21, eo21⟩ := Kd.R_slice HO475.out; subst eo21) | ((with_reducible refine gate_callee (f := 21) rfl ?_); refine goesL_ (some 28) rfl rfl Try.func21 (by kernel_rfl) rfl #[.slice Ao20 t470.length co20, .slice Ao21 t473.length co21] rfl (by (try simp only [List.map_toArray, List.map_cons, List.map_nil]); first | done | rfl | (simp only [List.length_drop, List.length_take]; rfl)) ?_; (with_reducible refine (laws_wkInts.calls k _ _ t470 _ _ t473 false _ ?side1 ?side2 ?side3 ?side4 A12.out).mono ?_); (case side1 => repeat (first | exact (Kd.R_reads' HO472.out).2.2 | (with_reducible refine Kd.C_alloc ?_ _) | (with_reducible refine Kd.C_drewN ?_ _) | (with_reducible refine Kd.C_drew ?_))); (case side2 => exact (Kd.R_reads' HO472.out).2.1); (case side3 => repeat (first | exact (Kd.R_reads' HO475.out).2.2 | (with_reducible refine Kd.C_alloc ?_ _) | (with_reducible refine Kd.C_drewN ?_ _) | (with_reducible refine Kd.C_drew ?_))); (case side4 => exact (Kd.R_reads' HO475.out).2.1); rintro e w' ⟨rfl, ⟨nd, rfl⟩⟩; refine ⟨_, rfl, ?_⟩))
  go_meet
  case rel => exact ⟨_, (true), (by first | rfl | (simp; done) | (simp [*]; done)), H', ⟨by first | omega | exact Nat.le_refl _⟩, ⟨by (with_reducible repeat (first | apply Kd.R_alloc | apply Kd.R_drewN | apply Kd.R_drew)); exact Kd.R_mono HO472.out (fun _ hk => trivial)⟩, ⟨rk HO467⟩, ⟨bk BK469⟩, ⟨bl1 HB GE469⟩⟩
 clear HC5
 try clear c1
 try clear c2
 try clear c2b0
 try clear c2b1
 try clear p2
 try clear c5
 try clear c13
 try clear c19
 try clear c20
 try clear c21
 try clear hcz14_0
 try clear hcz14_1
 try clear hcz18_0
 try clear hcz18_1
 try clear hcz8_0
 try clear hcz8_1
 try clear hfz14_0
 try clear hfz14_1
 try clear hfz18_0
 try clear hfz18_1
 try clear hfz8_0
 try clear hfz8_1
 obtain ⟨kq, x34_4, rfl, HA, HJ4, HO_5, HO_470001, BK469, HB⟩ := hcut
 cases kq with
 | zero => exact absurd HA.out (by simp [laws_FnLoadAll.j0])
 | succ kj4 =>
  have H := HA.out
  clear HA
  simp only [laws_FnLoadAll.j0] at H
  by_cases c22 : x34_4 = true
  ·subst c22
   rw [if_pos rfl] at H
   replace H := Option.bind_eq_some_iff.mp H
   obtain ⟨t477, A230, H⟩ := H
   have A23 := Aside0.mk A230
   clear A230
   replace H := Option.bind_eq_some_iff.mp H
   obtain ⟨t480, A240, H⟩ := H
   have A24 := Aside0.mk A240
   clear A240
   obtain rfl := Option.some.inj H
   have hcz25_0 : wc.cell? ⟨gb469, 0, none⟩ = some (.int .i64 t464) := (blk_cell BK469.out 0).trans rfl
   have hcz25_1 : wc.cell? ⟨gb469, 1, none⟩ = some (.slice Ao9 t465.length co9) := (blk_cell BK469.out 1).trans rfl
   have hfz25_0 := blk_frozen BK469.out 0
   have hfz25_1 := blk_frozen BK469.out 1
   go_wp2_with (first | ((with_reducible refine gate_callee (f := 22) rfl ?_); refine goesL_ (some 38) rfl rfl Try.func22 (by kernel_rfl) rfl #[.agg #[.int .i64 t464, .slice Ao9 t465.length co9], .int .i64 t468] rfl (by (try simp only [List.map_toArray, List.map_cons, List.map_nil]); first | done | rfl | (simp only [List.length_drop, List.length_take]; rfl)) ?_; (with_reducible refine (spec_LoadAll.calls kj4 t464 _ _ t465 t468 t477 _ ?side1 ?side2 A23.out).mono ?_); (case side1 => repeat (first | exact (Kd.R_reads' HO_470001.out).2.2 | (with_reducible refine Kd.C_alloc ?_ _) | (with_reducible refine Kd.C_drewN ?_ _) | (with_reducible refine Kd.C_drew ?_))); (case side2 => exact (Kd.R_reads' HO_470001.out).2.1); rintro e w26 ⟨v478, rfl, ho0, hb⟩; refine ⟨_, rfl, ?_⟩; replace HO_470001 := Aside0.mk (Kd.R_below (rk HO_470001) hb); have HO479 := Aside0.mk (Kd.R_lower (Kd.R_new' ho0 (Kd.R_lt (rk HO_5))) (below_size (bl1 HB GE469))); replace HO_5 := Aside0.mk (Kd.R_elder' (rk HO_5) (Kd.R_base ho0) hb); replace BK469 := Aside0.mk (blk_below (bk BK469) hb); replace HB := Aside0.mk (below_step (bl1 HB GE469) hb); (try clear hb); (try clear hb2); (try clear hk); (try clear hi); (try clear ho0); obtain ⟨Ao27, co27, eo27⟩ := Kd.R_slice HO_5.out; subst eo27; obtain ⟨Ao28, co28, eo28⟩ := Kd.R_slice HO479.out; subst eo28) | ((with_reducible refine gate_callee (f := 21) rfl ?_); refine goesL_ (some 39) rfl rfl Try.func21 (by kernel_rfl) rfl #[.slice Ao27 t470.length co27, .slice Ao28 t477.length co28] rfl (by (try simp only [List.map_toArray, List.map_cons, List.map_nil]); first | done | rfl | (simp only [List.length_drop, List.length_take]; rfl)) ?_; (with_reducible refine (laws_wkInts.calls kj4 _ _ t470 _ _ t477 t480 _ ?side1 ?side2 ?side3 ?side4 A24.out).mono ?_); (case side1 => repeat (first | exact (Kd.R_reads' HO_5.out).2.2 | (with_reducible refine Kd.C_alloc ?_ _) | (with_reducible refine Kd.C_drewN ?_ _) | (with_reducible refine Kd.C_drew ?_))); (case side2 => exact (Kd.R_reads' HO_5.out).2.1); (case side3 => repeat (first | exact (Kd.R_reads' HO479.out).2.2 | (with_reducible refine Kd.C_alloc ?_ _) | (with_reducible refine Kd.C_drewN ?_ _) | (with_reducible refine Kd.C_drew ?_))); (case side4 => exact (Kd.R_reads' HO479.out).2.1); rintro e w' ⟨rfl, ⟨nd, rfl⟩⟩; refine ⟨_, rfl, ?_⟩))
   go_ret
   exact ⟨by first | rfl | (simp [errW_none, errW_some] <;> rfl) | (simp [*, errW_none, errW_some] <;> rfl), bl1 HB GE469⟩
  replace c22 := Bool.eq_false_iff.mpr c22
  subst c22
  rw [if_neg (show ¬ (false = true) by decide)] at H
  have H' := Aside0.mk H
  clear H
  go_wp2
  go_loopg [6] kj4 (fun kq v6 w' => ∃ (x6_2 : Int), v6 = .int .i64 x6_2 ∧ Aside0 (laws_FnLoadAll.l0 kq t468 t470 x6_2 t464 t465 = some r) ∧ Aside0 (kq ≤ kj4) ∧ Aside0 (Kd.R (Kd.int .i64) 3 w' w.heap.size (fun _ => True) v471 t470) ∧ Aside0 (Kd.R k41 41 w' w.heap.size (fun _ => True) (.slice Ao9 t465.length co9) t465) ∧ Aside0 (w'.heap[gb469]? = some (.cells #[.int .i64 t464, (.slice Ao9 t465.length co9)] 25 (0, 0))) ∧ Aside0 (Below w.heap.size w w'))
  case atStart => exact ⟨(0), (by first | rfl | (simp; done) | (simp [*]; done)), H', ⟨Nat.le_refl _⟩, ⟨rk HO_5⟩, ⟨rk HO_470001⟩, ⟨bk BK469⟩, ⟨bl1 HB GE469⟩⟩
  clear H'
  try clear c1
  try clear c2
  try clear c2b0
  try clear c2b1
  try clear p2
  try clear c5
  try clear c13
  try clear c19
  try clear c20
  try clear c21
  try clear c22
  try clear hcz14_0
  try clear hcz14_1
  try clear hcz18_0
  try clear hcz18_1
  try clear hcz25_0
  try clear hcz25_1
  try clear hcz8_0
  try clear hcz8_1
  try clear hfz14_0
  try clear hfz14_1
  try clear hfz18_0
  try clear hfz18_1
  try clear hfz25_0
  try clear hfz25_1
  try clear hfz8_0
  try clear hfz8_1
  try clear p2
  obtain ⟨x6_2, rfl, HA, HK2, HO_5, HO_470001, BK469, HB⟩ := hrel
  cases gk with
  | zero => exact absurd HA.out (by simp [laws_FnLoadAll.l0])
  | succ k2 =>
   have H := HA.out
   clear HA
   simp only [laws_FnLoadAll.l0] at H
   by_cases c29 : x6_2 < t464
   ·rw [if_pos c29] at H
    have c29b0 : decide (x6_2 < t464) = true := decide_eq_true c29
    clear c29
    have H' := Aside0.mk H
    clear H
    have hcz30_0 : wr.cell? ⟨gb469, 0, none⟩ = some (.int .i64 t464) := (blk_cell BK469.out 0).trans rfl
    have hcz30_1 : wr.cell? ⟨gb469, 1, none⟩ = some (.slice Ao9 t465.length co9) := (blk_cell BK469.out 1).trans rfl
    have hfz30_0 := blk_frozen BK469.out 0
    have hfz30_1 := blk_frozen BK469.out 1
    go_wp2
    go_loopg [7] k2 (fun kq v7 w' => ∃ (x7_3 : Int), v7 = .int .i64 x7_3 ∧ Aside0 (laws_FnLoadAll.l1 kq t468 t470 x6_2 x7_3 t464 t465 = some r) ∧ Aside0 (kq ≤ k2) ∧ Aside0 (Kd.R (Kd.int .i64) 3 w' w.heap.size (fun _ => True) v471 t470) ∧ Aside0 (Kd.R k41 41 w' w.heap.size (fun _ => True) (.slice Ao9 t465.length co9) t465) ∧ Aside0 (w'.heap[gb469]? = some (.cells #[.int .i64 t464, (.slice Ao9 t465.length co9)] 25 (0, 0))) ∧ Aside0 (Below w.heap.size w w'))
    case atStart => exact ⟨(0), (by first | rfl | (simp; done) | (simp [*]; done)), H', ⟨Nat.le_refl _⟩, ⟨rk HO_5⟩, ⟨rk HO_470001⟩, ⟨bk BK469⟩, ⟨bl1 HB GE469⟩⟩
    clear H'
    try clear c1
    try clear c2
    try clear c2b0
    try clear c2b1
    try clear p2
    try clear c5
    try clear c13
    try clear c19
    try clear c20
    try clear c21
    try clear c22
    try clear c29
    try clear c29b0
    try clear hcz14_0
    try clear hcz14_1
    try clear hcz18_0
    try clear hcz18_1
    try clear hcz25_0
    try clear hcz25_1
    try clear hcz30_0
    try clear hcz30_1
    try clear hcz8_0
    try clear hcz8_1
    try clear hfz14_0
    try clear hfz14_1
    try clear hfz18_0
    try clear hfz18_1
    try clear hfz25_0
    try clear hfz25_1
    try clear hfz30_0
    try clear hfz30_1
    try clear hfz8_0
    try clear hfz8_1
    try clear p2
    obtain ⟨x7_3, rfl, HA, HK3, HO_5, HO_470001, BK469, HB⟩ := hrel
    cases gk with
    | zero => exact absurd HA.out (by simp [laws_FnLoadAll.l1])
    | succ k3 =>
     have H := HA.out
     clear HA
     simp only [laws_FnLoadAll.l1] at H
     by_cases c31 : x7_3 ≤ 9
     rotate_left
     ·rw [if_neg c31] at H
      have c31b0 : decide (x7_3 ≤ 9) = false := decide_eq_false c31
      clear c31
      have H' := Aside0.mk H
      clear H
      go_wp2
      go_roundg k3
      case measure => have := HJ4.out; have := HK2.out; have := HK3.out; omega
      case rel => exact ⟨(wrap64 (x6_2 + 1)), (by first | rfl | (simp; done) | (simp [*]; done)), H', ⟨by have := HJ4.out; have := HK2.out; have := HK3.out; omega⟩, ⟨rk HO_5⟩, ⟨rk HO_470001⟩, ⟨bk BK469⟩, ⟨bl1 HB GE469⟩⟩
     rw [if_pos c31] at H
     have c31b0 : decide (x7_3 ≤ 9) = true := decide_eq_true c31
     clear c31
     replace H := Option.bind_eq_some_iff.mp H
     obtain ⟨⟨t481, t484⟩, A320, H⟩ := H
     have A32 := Aside0.mk A320
     clear A320
     by_cases c33 : 0 ≤ x6_2
     rotate_left
     ·rw [if_neg c33] at H
      exact absurd H (by simp)
     rw [if_pos c33] at H
     have c33b0 : decide (0 ≤ x6_2) = true := decide_eq_true c33
     clear c33
     by_cases c34 : x6_2 < (t470.length : Int)
     rotate_left
     ·rw [if_neg c34] at H
      exact absurd H (by simp)
     rw [if_pos c34] at H
     have c34b0 : decide (x6_2 < (t470.length : Int)) = true := decide_eq_true c34
     clear c34
     by_cases c35 : (t484 != (decide (x7_3 ≤ (rd t470 x6_2)))) = true
     ·rw [if_pos c35] at H
      have c35b0 : (t484 != (decide (x7_3 ≤ (rd t470 x6_2)))) = true := c35
      (try (have c35b1 : decide (t484 = (decide (x7_3 ≤ (rd t470 x6_2)))) = false := by simpa using c35))
      (try (have c35b2 : (t484 == (decide (x7_3 ≤ (rd t470 x6_2)))) = false := by simpa using c35))
      (try (have c35b3 : ¬ (t484 = (decide (x7_3 ≤ (rd t470 x6_2)))) := by simpa using c35))
      clear c35
      exact absurd ((Option.some.inj H).trans hr_) Bool.false_ne_true
     rw [if_neg c35] at H
     have c35b0 : (t484 != (decide (x7_3 ≤ (rd t470 x6_2)))) = false := by simpa using c35
     (try (have c35b1 : decide (t484 = (decide (x7_3 ≤ (rd t470 x6_2)))) = true := by simpa using c35))
     (try (have c35b2 : (t484 == (decide (x7_3 ≤ (rd t470 x6_2)))) = true := by simpa using c35))
     clear c35
     have H' := Aside0.mk H
     clear H
     have hcz36_0 : wr.cell? ⟨gb469, 0, none⟩ = some (.int .i64 t464) := (blk_cell BK469.out 0).trans rfl
     have hcz36_1 : wr.cell? ⟨gb469, 1, none⟩ = some (.slice Ao9 t465.length co9) := (blk_cell BK469.out 1).trans rfl
     have hfz36_0 := blk_frozen BK469.out 0
     have hfz36_1 := blk_frozen BK469.out 1
     go_wp2_with (first | ((with_reducible refine gate_callee (f := 26) rfl ?_); refine goesL_ (some 55) rfl rfl Try.func26 (by kernel_rfl) rfl #[.agg #[.int .i64 t464, .slice Ao9 t465.length co9], .int .i64 t468, .int .i64 x6_2, .int .i64 x7_3] rfl (by (try simp only [List.map_toArray, List.map_cons, List.map_nil]); first | done | rfl | (simp only [List.length_drop, List.length_take]; rfl)) ?_; (with_reducible refine (impl_LoadWalk.calls k3 t464 _ _ t465 t468 x6_2 x7_3 t481 t484 _ ?side1 ?side2 A32.out).mono ?_); (case side1 => repeat (first | exact (Kd.R_reads' HO_470001.out).2.2 | (with_reducible refine Kd.C_alloc ?_ _) | (with_reducible refine Kd.C_drewN ?_ _) | (with_reducible refine Kd.C_drew ?_))); (case side2 => exact (Kd.R_reads' HO_470001.out).2.1); rintro e w37 ⟨v482, rfl, ho0, hb⟩; refine ⟨_, rfl, ?_⟩; replace HO_470001 := Aside0.mk (Kd.R_below (rk HO_470001) hb); have HO483 := Aside0.mk (Kd.R_lower (Kd.R_new' ho0 (Kd.R_lt (rk HO_5))) (below_size (bl1 HB GE469))); replace HO_5 := Aside0.mk (Kd.R_elder' (rk HO_5) (Kd.R_base ho0) hb); replace BK469 := Aside0.mk (blk_below (bk BK469) hb); replace HB := Aside0.mk (below_step (bl1 HB GE469) hb); (try clear hb); (try clear hb2); (try clear hk); (try clear hi); (try clear ho0); obtain ⟨Ao38, co38, eo38⟩ := Kd.R_slice HO_5.out; subst eo38; have p485 : 0 ≤ (x6_2 : Int) := oT (by first | (with_reducible assumption) | assumption); have q485 : x6_2 < (t470.length : Int) := oT (by first | (with_reducible assumption) | assumption); obtain ⟨ad485, e485, hx485_0⟩ := Kd.at_int (Kd.R_reads' HO_5.out).2.2 x6_2 p485 q485; cases e485; replace p485 := eq_true p485; replace q485 := eq_true q485))
     go_roundg k3
     case measure => have := HJ4.out; have := HK2.out; have := HK3.out; omega
     case rel => exact ⟨(wrap64 (x7_3 + 1)), (by first | rfl | (simp; done) | (simp [*]; done)), H', ⟨by have := HJ4.out; have := HK2.out; have := HK3.out; omega⟩, ⟨by (with_reducible repeat (first | apply Kd.R_alloc | apply Kd.R_drewN | apply Kd.R_drew)); exact Kd.R_mono HO_5.out (fun _ hk => trivial)⟩, ⟨rk HO_470001⟩, ⟨bk BK469⟩, ⟨bl1 HB GE469⟩⟩
   rw [if_neg c29] at H
   have c29b0 : decide (x6_2 < t464) = false := decide_eq_false c29
   clear c29
   have H' := Aside0.mk H
   clear H
   have hcz39_0 : wr.cell? ⟨gb469, 0, none⟩ = some (.int .i64 t464) := (blk_cell BK469.out 0).trans rfl
   have hcz39_1 : wr.cell? ⟨gb469, 1, none⟩ = some (.slice Ao9 t465.length co9) := (blk_cell BK469.out 1).trans rfl
   have hfz39_0 := blk_frozen BK469.out 0
   have hfz39_1 := blk_frozen BK469.out 1
   go_wp2
   go_loopg [10] k2 (fun kq v10 w' => ∃ (x10_3 : Int), v10 = .int .i64 x10_3 ∧ Aside0 (laws_FnLoadAll.l2 kq t468 t470 x10_3 t464 t465 = some r) ∧ Aside0 (kq ≤ k2) ∧ Aside0 (Kd.R (Kd.int .i64) 3 w' w.heap.size (fun _ => True) v471 t470) ∧ Aside0 (Kd.R k41 41 w' w.heap.size (fun _ => True) (.slice Ao9 t465.length co9) t465) ∧ Aside0 (w'.heap[gb469]? = some (.cells #[.int .i64 t464, (.slice Ao9 t465.length co9)] 25 (0, 0))) ∧ Aside0 (Below w.heap.size w w'))
   case atStart => exact ⟨(0), (by first | rfl | (simp; done) | (simp [*]; done)), H', ⟨Nat.le_refl _⟩, ⟨rk HO_5⟩, ⟨rk HO_470001⟩, ⟨bk BK469⟩, ⟨bl1 HB GE469⟩⟩
   clear H'
   try clear c1
   try clear c2
   try clear c2b0
   try clear c2b1
   try clear p2
   try clear c3
   try clear p4
   try clear q4
   try clear hx4
   try clear c5
   try clear p6
   try clear c13
   try clear c19
   try clear c20
   try clear c21
   try clear c22
   try clear c26
   try clear c29
   try clear c29b0
   try clear c31
   try clear c31b0
   try clear c33
   try clear c33b0
   try clear c34
   try clear c34b0
   try clear c35
   try clear c35b0
   try clear c35b1
   try clear c35b2
   try clear hcz14_0
   try clear hcz14_1
   try clear hcz18_0
   try clear hcz18_1
   try clear hcz25_0
   try clear hcz25_1
   try clear hcz30_0
   try clear hcz30_1
   try clear hcz36_0
   try clear hcz36_1
   try clear hcz39_0
   try clear hcz39_1
   try clear hcz8_0
   try clear hcz8_1
   try clear hfz14_0
   try clear hfz14_1
   try clear hfz18_0
   try clear hfz18_1
   try clear hfz25_0
   try clear hfz25_1
   try clear hfz30_0
   try clear hfz30_1
   try clear hfz36_0
   try clear hfz36_1
   try clear hfz39_0
   try clear hfz39_1
   try clear hfz8_0
   try clear hfz8_1
   try clear hx485_0
   try clear p2
   try clear p485
   try clear q485
   obtain ⟨x10_3, rfl, HA, HK3, HO_5, HO_470001, BK469, HB⟩ := hrel
   cases gk with
   | zero => exact absurd HA.out (by simp [laws_FnLoadAll.l2])
   | succ k3 =>
    have H := HA.out
    clear HA
    simp only [laws_FnLoadAll.l2] at H
    by_cases c40 : x10_3 < (t465.length : Int)
    rotate_left
    ·rw [if_neg c40] at H
     have c40b0 : decide (x10_3 < (t465.length : Int)) = false := decide_eq_false c40
     clear c40
     by_cases c61 : 0 ≤ t468
     rotate_left
     ·rw [if_neg c61] at H
      exact absurd H (by simp)
     rw [if_pos c61] at H
     have c61b0 : decide (0 ≤ t468) = true := decide_eq_true c61
     clear c61
     by_cases c62 : t468 < (t470.length : Int)
     rotate_left
     ·rw [if_neg c62] at H
      exact absurd H (by simp)
     rw [if_pos c62] at H
     have c62b0 : decide (t468 < (t470.length : Int)) = true := decide_eq_true c62
     clear c62
     obtain rfl := Option.some.inj H
     have hcz63_0 : wr.cell? ⟨gb469, 0, none⟩ = some (.int .i64 t464) := (blk_cell BK469.out 0).trans rfl
     have hcz63_1 : wr.cell? ⟨gb469, 1, none⟩ = some (.slice Ao9 t465.length co9) := (blk_cell BK469.out 1).trans rfl
     have hfz63_0 := blk_frozen BK469.out 0
     have hfz63_1 := blk_frozen BK469.out 1
     obtain ⟨Ao64, co64, eo64⟩ := Kd.R_slice HO_5.out
     subst eo64
     have p486 : 0 ≤ (t468 : Int) := oT (by first | (with_reducible assumption) | assumption)
     have q486 : t468 < (t470.length : Int) := oT (by first | (with_reducible assumption) | assumption)
     obtain ⟨ad486, e486, hx486_0⟩ := Kd.at_int (Kd.R_reads' HO_5.out).2.2 t468 p486 q486
     cases e486
     replace p486 := eq_true p486
     replace q486 := eq_true q486
     go_wp2
     go_ret
     exact ⟨by first | rfl | (simp [errW_none, errW_some] <;> rfl) | (simp [*, errW_none, errW_some] <;> rfl), bl1 HB GE469⟩
    rw [if_pos c40] at H
    have c40b0 : decide (x10_3 < (t465.length : Int)) = true := decide_eq_true c40
    clear c40
    by_cases c41 : 0 ≤ x10_3
    rotate_left
    ·rw [if_neg c41] at H
     exact absurd H (by simp)
    rw [if_pos c41] at H
    have c41b0 : decide (0 ≤ x10_3) = true := decide_eq_true c41
    clear c41
    by_cases c42 : 0 ≤ ((rd_T41 t465 x10_3).f0)
    rotate_left
    ·rw [if_neg c42] at H
     exact absurd H (by simp)
    rw [if_pos c42] at H
    have c42b0 : decide (0 ≤ ((rd_T41 t465 x10_3).f0)) = true := decide_eq_true c42
    clear c42
    by_cases c43 : ((rd_T41 t465 x10_3).f0) < (t470.length : Int)
    rotate_left
    ·rw [if_neg c43] at H
     exact absurd H (by simp)
    rw [if_pos c43] at H
    have c43b0 : decide (((rd_T41 t465 x10_3).f0) < (t470.length : Int)) = true := decide_eq_true c43
    clear c43
    by_cases c44 : (rd t470 ((rd_T41 t465 x10_3).f0)) < ((rd_T41 t465 x10_3).f4)
    rotate_left
    ·rw [if_neg c44] at H
     have c44b0 : decide ((rd t470 ((rd_T41 t465 x10_3).f0)) < ((rd_T41 t465 x10_3).f4)) = false := decide_eq_false c44
     clear c44
     by_cases c53 : 0 ≤ ((rd_T41 t465 x10_3).f1)
     rotate_left
     ·rw [if_neg c53] at H
      exact absurd H (by simp)
     rw [if_pos c53] at H
     have c53b0 : decide (0 ≤ ((rd_T41 t465 x10_3).f1)) = true := decide_eq_true c53
     clear c53
     by_cases c54 : ((rd_T41 t465 x10_3).f1) < (t470.length : Int)
     rotate_left
     ·rw [if_neg c54] at H
      exact absurd H (by simp)
     rw [if_pos c54] at H
     have c54b0 : decide (((rd_T41 t465 x10_3).f1) < (t470.length : Int)) = true := decide_eq_true c54
     clear c54
     by_cases c55 : (rd t470 ((rd_T41 t465 x10_3).f1)) < ((rd_T41 t465 x10_3).f4)
     ·rw [if_pos c55] at H
      have c55b0 : decide ((rd t470 ((rd_T41 t465 x10_3).f1)) < ((rd_T41 t465 x10_3).f4)) = true := decide_eq_true c55
      clear c55
      exact absurd ((Option.some.inj H).trans hr_) Bool.false_ne_true
     rw [if_neg c55] at H
     have c55b0 : decide ((rd t470 ((rd_T41 t465 x10_3).f1)) < ((rd_T41 t465 x10_3).f4)) = false := decide_eq_false c55
     clear c55
     have H' := Aside0.mk H
     clear H
     have hcz56_0 : wr.cell? ⟨gb469, 0, none⟩ = some (.int .i64 t464) := (blk_cell BK469.out 0).trans rfl
     have hcz56_1 : wr.cell? ⟨gb469, 1, none⟩ = some (.slice Ao9 t465.length co9) := (blk_cell BK469.out 1).trans rfl
     have hfz56_0 := blk_frozen BK469.out 0
     have hfz56_1 := blk_frozen BK469.out 1
     have p487 : 0 ≤ (x10_3 : Int) := oT (by first | (with_reducible assumption) | assumption)
     have q487 : x10_3 < (t465.length : Int) := oT (by first | (with_reducible assumption) | assumption)
     obtain ⟨ad487, e487, hx487_0, hx487_1, hx487_2, hx487_3, hx487_4⟩ := at_T41 (Kd.R_reads' HO_470001.out).2.2 x10_3 p487 q487
     cases e487
     replace p487 := eq_true p487
     replace q487 := eq_true q487
     go_wp2_with (first | ((with_reducible refine gate_dst (N := 11) rfl ?_); refine box_event ?hg (N := 11) ?hd (cs := #[.int .i64 0, .int .i64 0, .int .i64 0, .int .i64 0, .int .i64 0]) (t := 41) ?hr ?_; (case hd => rfl); (case hg => rfl); (case hr => first | (go_simp; done) | (go_simp; rfl)); intro gb488 hg w57 hbox hb; replace HO_5 := Aside0.mk (Kd.R_below (rk HO_5) hb); replace HO_470001 := Aside0.mk (Kd.R_below (Kd.R_elderB (rk HO_470001) gb488 (Nat.le_of_eq hg.symm)) hb); have BK488 := Aside0.mk (hbox); have GW488 := Aside0.mk ((by rw [hg]; exact (below_size (bl1 HB GE469)) : w.heap.size ≤ gb488)); have GE488 := Aside0.mk ((by rw [hg]; exact (below_size (bl1 HB GE469)) : w.heap.size ≤ gb488)); replace HB := Aside0.mk (below_step (bl1 HB GE469) hb); have NB469_488 := Aside0.mk ((by rw [hg]; exact Nat.ne_of_lt (blk_lt (bk BK469)) : gb469 ≠ gb488)); have NB488_469 := Aside0.mk ((by rw [hg]; exact Nat.ne_of_gt (blk_lt (bk BK469)) : gb488 ≠ gb469)); replace BK469 := Aside0.mk (blk_below (bk BK469) hb); clear hb hbox hg; have hnb58 := NB488_469.out; have hnc58 := NB469_488.out; have hcz59_0 : w57.cell? ⟨gb488, 0, none⟩ = some (.int .i64 0) := (blk_cell BK488.out 0).trans rfl; have hcz59_1 : w57.cell? ⟨gb488, 1, none⟩ = some (.int .i64 0) := (blk_cell BK488.out 1).trans rfl; have hcz59_2 : w57.cell? ⟨gb488, 2, none⟩ = some (.int .i64 0) := (blk_cell BK488.out 2).trans rfl; have hcz59_3 : w57.cell? ⟨gb488, 3, none⟩ = some (.int .i64 0) := (blk_cell BK488.out 3).trans rfl; have hcz59_4 : w57.cell? ⟨gb488, 4, none⟩ = some (.int .i64 0) := (blk_cell BK488.out 4).trans rfl; have hfz59_0 := blk_frozen BK488.out 0; have hfz59_1 := blk_frozen BK488.out 1; have hfz59_2 := blk_frozen BK488.out 2; have hfz59_3 := blk_frozen BK488.out 3; have hfz59_4 := blk_frozen BK488.out 4; obtain ⟨Ao60, co60, eo60⟩ := Kd.R_slice HO_5.out; subst eo60; have p489 : 0 ≤ (((rd_T41 t465 x10_3).f0) : Int) := oT (by first | (with_reducible assumption) | assumption); have q489 : ((rd_T41 t465 x10_3).f0) < (t470.length : Int) := oT (by first | (with_reducible assumption) | assumption); obtain ⟨ad489, e489, hx489_0⟩ := Kd.at_int (Kd.R_reads' HO_5.out).2.2 ((rd_T41 t465 x10_3).f0) p489 q489; cases e489; have hn489_0 : ad489.block ≠ gb488 := Kd.own_blk (Kd.R_ne HO_5.out BK488.out (by decide)); have hn489_1 : ad489.block ≠ gb488 := Kd.own_blk (Kd.R_ne HO_5.out BK488.out (by decide)); have hn489_2 : ad489.block ≠ gb488 := Kd.own_blk (Kd.R_ne HO_5.out BK488.out (by decide)); have hn489_3 : ad489.block ≠ gb488 := Kd.own_blk (Kd.R_ne HO_5.out BK488.out (by decide)); have hn489_4 : ad489.block ≠ gb488 := Kd.own_blk (Kd.R_ne HO_5.out BK488.out (by decide)); replace hx489_0 := (cell_far (p := ⟨gb488, 0, none⟩) (by first | (rw [add_block]; exact hn489_0) | (show (Addr.add _ _).block ≠ _; rw [add_block]; exact hn489_0) | exact hn489_0) (.int .i64 ((rd_T41 t465 x10_3).f0))).trans hx489_0; replace hx489_0 := (cell_far (p := ⟨gb488, 1, none⟩) (by first | (rw [add_block]; exact hn489_1) | (show (Addr.add _ _).block ≠ _; rw [add_block]; exact hn489_1) | exact hn489_1) (.int .i64 ((rd_T41 t465 x10_3).f1))).trans hx489_0; replace hx489_0 := (cell_far (p := ⟨gb488, 2, none⟩) (by first | (rw [add_block]; exact hn489_2) | (show (Addr.add _ _).block ≠ _; rw [add_block]; exact hn489_2) | exact hn489_2) (.int .i64 ((rd_T41 t465 x10_3).f2))).trans hx489_0; replace hx489_0 := (cell_far (p := ⟨gb488, 3, none⟩) (by first | (rw [add_block]; exact hn489_3) | (show (Addr.add _ _).block ≠ _; rw [add_block]; exact hn489_3) | exact hn489_3) (.int .i64 ((rd_T41 t465 x10_3).f3))).trans hx489_0; replace hx489_0 := (cell_far (p := ⟨gb488, 4, none⟩) (by first | (rw [add_block]; exact hn489_4) | (show (Addr.add _ _).block ≠ _; rw [add_block]; exact hn489_4) | exact hn489_4) (.int .i64 ((rd_T41 t465 x10_3).f4))).trans hx489_0; clear hn489_0; clear hn489_1; clear hn489_2; clear hn489_3; clear hn489_4; replace p489 := eq_true p489; replace q489 := eq_true q489; have p492 : 0 ≤ (((rd_T41 t465 x10_3).f1) : Int) := oT (by first | (with_reducible assumption) | assumption); have q492 : ((rd_T41 t465 x10_3).f1) < (t470.length : Int) := oT (by first | (with_reducible assumption) | assumption); obtain ⟨ad492, e492, hx492_0⟩ := Kd.at_int (Kd.R_reads' HO_5.out).2.2 ((rd_T41 t465 x10_3).f1) p492 q492; obtain rfl : ad489 = ad492 := (by injection e492); have hn492_0 : ad489.block ≠ gb488 := Kd.own_blk (Kd.R_ne HO_5.out BK488.out (by decide)); have hn492_1 : ad489.block ≠ gb488 := Kd.own_blk (Kd.R_ne HO_5.out BK488.out (by decide)); have hn492_2 : ad489.block ≠ gb488 := Kd.own_blk (Kd.R_ne HO_5.out BK488.out (by decide)); have hn492_3 : ad489.block ≠ gb488 := Kd.own_blk (Kd.R_ne HO_5.out BK488.out (by decide)); have hn492_4 : ad489.block ≠ gb488 := Kd.own_blk (Kd.R_ne HO_5.out BK488.out (by decide)); replace hx492_0 := (cell_far (p := ⟨gb488, 0, none⟩) (by first | (rw [add_block]; exact hn492_0) | (show (Addr.add _ _).block ≠ _; rw [add_block]; exact hn492_0) | exact hn492_0) (.int .i64 ((rd_T41 t465 x10_3).f0))).trans hx492_0; replace hx492_0 := (cell_far (p := ⟨gb488, 1, none⟩) (by first | (rw [add_block]; exact hn492_1) | (show (Addr.add _ _).block ≠ _; rw [add_block]; exact hn492_1) | exact hn492_1) (.int .i64 ((rd_T41 t465 x10_3).f1))).trans hx492_0; replace hx492_0 := (cell_far (p := ⟨gb488, 2, none⟩) (by first | (rw [add_block]; exact hn492_2) | (show (Addr.add _ _).block ≠ _; rw [add_block]; exact hn492_2) | exact hn492_2) (.int .i64 ((rd_T41 t465 x10_3).f2))).trans hx492_0; replace hx492_0 := (cell_far (p := ⟨gb488, 3, none⟩) (by first | (rw [add_block]; exact hn492_3) | (show (Addr.add _ _).block ≠ _; rw [add_block]; exact hn492_3) | exact hn492_3) (.int .i64 ((rd_T41 t465 x10_3).f3))).trans hx492_0; replace hx492_0 := (cell_far (p := ⟨gb488, 4, none⟩) (by first | (rw [add_block]; exact hn492_4) | (show (Addr.add _ _).block ≠ _; rw [add_block]; exact hn492_4) | exact hn492_4) (.int .i64 ((rd_T41 t465 x10_3).f4))).trans hx492_0; clear hn492_0; clear hn492_1; clear hn492_2; clear hn492_3; clear hn492_4; replace p492 := eq_true p492; replace q492 := eq_true q492))
     go_roundg k3
     case measure => have := HJ4.out; have := HK2.out; have := HK3.out; omega
     case rel => exact ⟨(wrap64 (x10_3 + 1)), (by first | rfl | (simp; done) | (simp [*]; done)), H', ⟨by have := HJ4.out; have := HK2.out; have := HK3.out; omega⟩, ⟨by (with_reducible repeat (first | apply Kd.R_alloc | apply Kd.R_drewN | apply Kd.R_drew)); exact Kd.R_mono (Kd.R_far (p := ⟨gb488, 4, none⟩) (Kd.R_far (p := ⟨gb488, 3, none⟩) (Kd.R_far (p := ⟨gb488, 2, none⟩) (Kd.R_far (p := ⟨gb488, 1, none⟩) (Kd.R_far (p := ⟨gb488, 0, none⟩) (Kd.R_types HO_5.out BK488.out (by decide)) (fun _ hk => hk.2) (.int .i64 ((rd_T41 t465 x10_3).f0))) (fun _ hk => hk.2) (.int .i64 ((rd_T41 t465 x10_3).f1))) (fun _ hk => hk.2) (.int .i64 ((rd_T41 t465 x10_3).f2))) (fun _ hk => hk.2) (.int .i64 ((rd_T41 t465 x10_3).f3))) (fun _ hk => hk.2) (.int .i64 ((rd_T41 t465 x10_3).f4))) (fun _ hk => trivial)⟩, ⟨by (with_reducible repeat (first | apply Kd.R_alloc | apply Kd.R_drewN | apply Kd.R_drew)); exact Kd.R_mono (Kd.R_far (p := ⟨gb488, 4, none⟩) (Kd.R_far (p := ⟨gb488, 3, none⟩) (Kd.R_far (p := ⟨gb488, 2, none⟩) (Kd.R_far (p := ⟨gb488, 1, none⟩) (Kd.R_far (p := ⟨gb488, 0, none⟩) (Kd.R_mono HO_470001.out (fun k_ hk => (⟨hk, hk.2⟩ : _ ∧ k_ ≠ gb488))) (fun _ hk => hk.2) (.int .i64 ((rd_T41 t465 x10_3).f0))) (fun _ hk => hk.2) (.int .i64 ((rd_T41 t465 x10_3).f1))) (fun _ hk => hk.2) (.int .i64 ((rd_T41 t465 x10_3).f2))) (fun _ hk => hk.2) (.int .i64 ((rd_T41 t465 x10_3).f3))) (fun _ hk => hk.2) (.int .i64 ((rd_T41 t465 x10_3).f4))) (fun _ hk => trivial)⟩, ⟨by (with_reducible repeat (first | refine blk_drewN ?_ _ | refine blk_drew ?_ | refine blk_alloc ?_ _)); refine blk_far ?_ NB469_488.out _; refine blk_far ?_ NB469_488.out _; refine blk_far ?_ NB469_488.out _; refine blk_far ?_ NB469_488.out _; refine blk_far ?_ NB469_488.out _; (with_reducible repeat (first | refine blk_drewN ?_ _ | refine blk_drew ?_ | refine blk_alloc ?_ _)); exact BK469.out⟩, ⟨bl2 HB GE469 GE488⟩⟩
    rw [if_pos c44] at H
    have c44b0 : decide ((rd t470 ((rd_T41 t465 x10_3).f0)) < ((rd_T41 t465 x10_3).f4)) = true := decide_eq_true c44
    clear c44
    by_cases c45 : 0 ≤ ((rd_T41 t465 x10_3).f1)
    rotate_left
    ·rw [if_neg c45] at H
     exact absurd H (by simp)
    rw [if_pos c45] at H
    have c45b0 : decide (0 ≤ ((rd_T41 t465 x10_3).f1)) = true := decide_eq_true c45
    clear c45
    by_cases c46 : ((rd_T41 t465 x10_3).f1) < (t470.length : Int)
    rotate_left
    ·rw [if_neg c46] at H
     exact absurd H (by simp)
    rw [if_pos c46] at H
    have c46b0 : decide (((rd_T41 t465 x10_3).f1) < (t470.length : Int)) = true := decide_eq_true c46
    clear c46
    by_cases c47 : (rd t470 ((rd_T41 t465 x10_3).f1)) < (rd t470 ((rd_T41 t465 x10_3).f0))
    ·rw [if_pos c47] at H
     have c47b0 : decide ((rd t470 ((rd_T41 t465 x10_3).f1)) < (rd t470 ((rd_T41 t465 x10_3).f0))) = true := decide_eq_true c47
     clear c47
     exact absurd ((Option.some.inj H).trans hr_) Bool.false_ne_true
    rw [if_neg c47] at H
    have c47b0 : decide ((rd t470 ((rd_T41 t465 x10_3).f1)) < (rd t470 ((rd_T41 t465 x10_3).f0))) = false := decide_eq_false c47
    clear c47
    have H' := Aside0.mk H
    clear H
    have hcz48_0 : wr.cell? ⟨gb469, 0, none⟩ = some (.int .i64 t464) := (blk_cell BK469.out 0).trans rfl
    have hcz48_1 : wr.cell? ⟨gb469, 1, none⟩ = some (.slice Ao9 t465.length co9) := (blk_cell BK469.out 1).trans rfl
    have hfz48_0 := blk_frozen BK469.out 0
    have hfz48_1 := blk_frozen BK469.out 1
    have p487 : 0 ≤ (x10_3 : Int) := oT (by first | (with_reducible assumption) | assumption)
    have q487 : x10_3 < (t465.length : Int) := oT (by first | (with_reducible assumption) | assumption)
    obtain ⟨ad487, e487, hx487_0, hx487_1, hx487_2, hx487_3, hx487_4⟩ := at_T41 (Kd.R_reads' HO_470001.out).2.2 x10_3 p487 q487
    cases e487
    replace p487 := eq_true p487
    replace q487 := eq_true q487
    go_wp2_with (first | ((with_reducible refine gate_dst (N := 11) rfl ?_); refine box_event ?hg (N := 11) ?hd (cs := #[.int .i64 0, .int .i64 0, .int .i64 0, .int .i64 0, .int .i64 0]) (t := 41) ?hr ?_; (case hd => rfl); (case hg => rfl); (case hr => first | (go_simp; done) | (go_simp; rfl)); intro gb488 hg w49 hbox hb; replace HO_5 := Aside0.mk (Kd.R_below (rk HO_5) hb); replace HO_470001 := Aside0.mk (Kd.R_below (Kd.R_elderB (rk HO_470001) gb488 (Nat.le_of_eq hg.symm)) hb); have BK488 := Aside0.mk (hbox); have GW488 := Aside0.mk ((by rw [hg]; exact (below_size (bl1 HB GE469)) : w.heap.size ≤ gb488)); have GE488 := Aside0.mk ((by rw [hg]; exact (below_size (bl1 HB GE469)) : w.heap.size ≤ gb488)); replace HB := Aside0.mk (below_step (bl1 HB GE469) hb); have NB469_488 := Aside0.mk ((by rw [hg]; exact Nat.ne_of_lt (blk_lt (bk BK469)) : gb469 ≠ gb488)); have NB488_469 := Aside0.mk ((by rw [hg]; exact Nat.ne_of_gt (blk_lt (bk BK469)) : gb488 ≠ gb469)); replace BK469 := Aside0.mk (blk_below (bk BK469) hb); clear hb hbox hg; have hnb50 := NB488_469.out; have hnc50 := NB469_488.out; have hcz51_0 : w49.cell? ⟨gb488, 0, none⟩ = some (.int .i64 0) := (blk_cell BK488.out 0).trans rfl; have hcz51_1 : w49.cell? ⟨gb488, 1, none⟩ = some (.int .i64 0) := (blk_cell BK488.out 1).trans rfl; have hcz51_2 : w49.cell? ⟨gb488, 2, none⟩ = some (.int .i64 0) := (blk_cell BK488.out 2).trans rfl; have hcz51_3 : w49.cell? ⟨gb488, 3, none⟩ = some (.int .i64 0) := (blk_cell BK488.out 3).trans rfl; have hcz51_4 : w49.cell? ⟨gb488, 4, none⟩ = some (.int .i64 0) := (blk_cell BK488.out 4).trans rfl; have hfz51_0 := blk_frozen BK488.out 0; have hfz51_1 := blk_frozen BK488.out 1; have hfz51_2 := blk_frozen BK488.out 2; have hfz51_3 := blk_frozen BK488.out 3; have hfz51_4 := blk_frozen BK488.out 4; obtain ⟨Ao52, co52, eo52⟩ := Kd.R_slice HO_5.out; subst eo52; have p489 : 0 ≤ (((rd_T41 t465 x10_3).f0) : Int) := oT (by first | (with_reducible assumption) | assumption); have q489 : ((rd_T41 t465 x10_3).f0) < (t470.length : Int) := oT (by first | (with_reducible assumption) | assumption); obtain ⟨ad489, e489, hx489_0⟩ := Kd.at_int (Kd.R_reads' HO_5.out).2.2 ((rd_T41 t465 x10_3).f0) p489 q489; cases e489; have hn489_0 : ad489.block ≠ gb488 := Kd.own_blk (Kd.R_ne HO_5.out BK488.out (by decide)); have hn489_1 : ad489.block ≠ gb488 := Kd.own_blk (Kd.R_ne HO_5.out BK488.out (by decide)); have hn489_2 : ad489.block ≠ gb488 := Kd.own_blk (Kd.R_ne HO_5.out BK488.out (by decide)); have hn489_3 : ad489.block ≠ gb488 := Kd.own_blk (Kd.R_ne HO_5.out BK488.out (by decide)); have hn489_4 : ad489.block ≠ gb488 := Kd.own_blk (Kd.R_ne HO_5.out BK488.out (by decide)); replace hx489_0 := (cell_far (p := ⟨gb488, 0, none⟩) (by first | (rw [add_block]; exact hn489_0) | (show (Addr.add _ _).block ≠ _; rw [add_block]; exact hn489_0) | exact hn489_0) (.int .i64 ((rd_T41 t465 x10_3).f0))).trans hx489_0; replace hx489_0 := (cell_far (p := ⟨gb488, 1, none⟩) (by first | (rw [add_block]; exact hn489_1) | (show (Addr.add _ _).block ≠ _; rw [add_block]; exact hn489_1) | exact hn489_1) (.int .i64 ((rd_T41 t465 x10_3).f1))).trans hx489_0; replace hx489_0 := (cell_far (p := ⟨gb488, 2, none⟩) (by first | (rw [add_block]; exact hn489_2) | (show (Addr.add _ _).block ≠ _; rw [add_block]; exact hn489_2) | exact hn489_2) (.int .i64 ((rd_T41 t465 x10_3).f2))).trans hx489_0; replace hx489_0 := (cell_far (p := ⟨gb488, 3, none⟩) (by first | (rw [add_block]; exact hn489_3) | (show (Addr.add _ _).block ≠ _; rw [add_block]; exact hn489_3) | exact hn489_3) (.int .i64 ((rd_T41 t465 x10_3).f3))).trans hx489_0; replace hx489_0 := (cell_far (p := ⟨gb488, 4, none⟩) (by first | (rw [add_block]; exact hn489_4) | (show (Addr.add _ _).block ≠ _; rw [add_block]; exact hn489_4) | exact hn489_4) (.int .i64 ((rd_T41 t465 x10_3).f4))).trans hx489_0; clear hn489_0; clear hn489_1; clear hn489_2; clear hn489_3; clear hn489_4; replace p489 := eq_true p489; replace q489 := eq_true q489; have p490 : 0 ≤ (((rd_T41 t465 x10_3).f0) : Int) := oT (by first | (with_reducible assumption) | assumption); have q490 : ((rd_T41 t465 x10_3).f0) < (t470.length : Int) := oT (by first | (with_reducible assumption) | assumption); obtain ⟨ad490, e490, hx490_0⟩ := Kd.at_int (Kd.R_reads' HO_5.out).2.2 ((rd_T41 t465 x10_3).f0) p490 q490; obtain rfl : ad489 = ad490 := (by injection e490); have hn490_0 : ad489.block ≠ gb488 := Kd.own_blk (Kd.R_ne HO_5.out BK488.out (by decide)); have hn490_1 : ad489.block ≠ gb488 := Kd.own_blk (Kd.R_ne HO_5.out BK488.out (by decide)); have hn490_2 : ad489.block ≠ gb488 := Kd.own_blk (Kd.R_ne HO_5.out BK488.out (by decide)); have hn490_3 : ad489.block ≠ gb488 := Kd.own_blk (Kd.R_ne HO_5.out BK488.out (by decide)); have hn490_4 : ad489.block ≠ gb488 := Kd.own_blk (Kd.R_ne HO_5.out BK488.out (by decide)); replace hx490_0 := (cell_far (p := ⟨gb488, 0, none⟩) (by first | (rw [add_block]; exact hn490_0) | (show (Addr.add _ _).block ≠ _; rw [add_block]; exact hn490_0) | exact hn490_0) (.int .i64 ((rd_T41 t465 x10_3).f0))).trans hx490_0; replace hx490_0 := (cell_far (p := ⟨gb488, 1, none⟩) (by first | (rw [add_block]; exact hn490_1) | (show (Addr.add _ _).block ≠ _; rw [add_block]; exact hn490_1) | exact hn490_1) (.int .i64 ((rd_T41 t465 x10_3).f1))).trans hx490_0; replace hx490_0 := (cell_far (p := ⟨gb488, 2, none⟩) (by first | (rw [add_block]; exact hn490_2) | (show (Addr.add _ _).block ≠ _; rw [add_block]; exact hn490_2) | exact hn490_2) (.int .i64 ((rd_T41 t465 x10_3).f2))).trans hx490_0; replace hx490_0 := (cell_far (p := ⟨gb488, 3, none⟩) (by first | (rw [add_block]; exact hn490_3) | (show (Addr.add _ _).block ≠ _; rw [add_block]; exact hn490_3) | exact hn490_3) (.int .i64 ((rd_T41 t465 x10_3).f3))).trans hx490_0; replace hx490_0 := (cell_far (p := ⟨gb488, 4, none⟩) (by first | (rw [add_block]; exact hn490_4) | (show (Addr.add _ _).block ≠ _; rw [add_block]; exact hn490_4) | exact hn490_4) (.int .i64 ((rd_T41 t465 x10_3).f4))).trans hx490_0; clear hn490_0; clear hn490_1; clear hn490_2; clear hn490_3; clear hn490_4; replace p490 := eq_true p490; replace q490 := eq_true q490; have p491 : 0 ≤ (((rd_T41 t465 x10_3).f1) : Int) := oT (by first | (with_reducible assumption) | assumption); have q491 : ((rd_T41 t465 x10_3).f1) < (t470.length : Int) := oT (by first | (with_reducible assumption) | assumption); obtain ⟨ad491, e491, hx491_0⟩ := Kd.at_int (Kd.R_reads' HO_5.out).2.2 ((rd_T41 t465 x10_3).f1) p491 q491; obtain rfl : ad489 = ad491 := (by injection e491); have hn491_0 : ad489.block ≠ gb488 := Kd.own_blk (Kd.R_ne HO_5.out BK488.out (by decide)); have hn491_1 : ad489.block ≠ gb488 := Kd.own_blk (Kd.R_ne HO_5.out BK488.out (by decide)); have hn491_2 : ad489.block ≠ gb488 := Kd.own_blk (Kd.R_ne HO_5.out BK488.out (by decide)); have hn491_3 : ad489.block ≠ gb488 := Kd.own_blk (Kd.R_ne HO_5.out BK488.out (by decide)); have hn491_4 : ad489.block ≠ gb488 := Kd.own_blk (Kd.R_ne HO_5.out BK488.out (by decide)); replace hx491_0 := (cell_far (p := ⟨gb488, 0, none⟩) (by first | (rw [add_block]; exact hn491_0) | (show (Addr.add _ _).block ≠ _; rw [add_block]; exact hn491_0) | exact hn491_0) (.int .i64 ((rd_T41 t465 x10_3).f0))).trans hx491_0; replace hx491_0 := (cell_far (p := ⟨gb488, 1, none⟩) (by first | (rw [add_block]; exact hn491_1) | (show (Addr.add _ _).block ≠ _; rw [add_block]; exact hn491_1) | exact hn491_1) (.int .i64 ((rd_T41 t465 x10_3).f1))).trans hx491_0; replace hx491_0 := (cell_far (p := ⟨gb488, 2, none⟩) (by first | (rw [add_block]; exact hn491_2) | (show (Addr.add _ _).block ≠ _; rw [add_block]; exact hn491_2) | exact hn491_2) (.int .i64 ((rd_T41 t465 x10_3).f2))).trans hx491_0; replace hx491_0 := (cell_far (p := ⟨gb488, 3, none⟩) (by first | (rw [add_block]; exact hn491_3) | (show (Addr.add _ _).block ≠ _; rw [add_block]; exact hn491_3) | exact hn491_3) (.int .i64 ((rd_T41 t465 x10_3).f3))).trans hx491_0; replace hx491_0 := (cell_far (p := ⟨gb488, 4, none⟩) (by first | (rw [add_block]; exact hn491_4) | (show (Addr.add _ _).block ≠ _; rw [add_block]; exact hn491_4) | exact hn491_4) (.int .i64 ((rd_T41 t465 x10_3).f4))).trans hx491_0; clear hn491_0; clear hn491_1; clear hn491_2; clear hn491_3; clear hn491_4; replace p491 := eq_true p491; replace q491 := eq_true q491))
    go_roundg k3
    case measure => have := HJ4.out; have := HK2.out; have := HK3.out; omega
    case rel => exact ⟨(wrap64 (x10_3 + 1)), (by first | rfl | (simp; done) | (simp [*]; done)), H', ⟨by have := HJ4.out; have := HK2.out; have := HK3.out; omega⟩, ⟨by (with_reducible repeat (first | apply Kd.R_alloc | apply Kd.R_drewN | apply Kd.R_drew)); exact Kd.R_mono (Kd.R_far (p := ⟨gb488, 4, none⟩) (Kd.R_far (p := ⟨gb488, 3, none⟩) (Kd.R_far (p := ⟨gb488, 2, none⟩) (Kd.R_far (p := ⟨gb488, 1, none⟩) (Kd.R_far (p := ⟨gb488, 0, none⟩) (Kd.R_types HO_5.out BK488.out (by decide)) (fun _ hk => hk.2) (.int .i64 ((rd_T41 t465 x10_3).f0))) (fun _ hk => hk.2) (.int .i64 ((rd_T41 t465 x10_3).f1))) (fun _ hk => hk.2) (.int .i64 ((rd_T41 t465 x10_3).f2))) (fun _ hk => hk.2) (.int .i64 ((rd_T41 t465 x10_3).f3))) (fun _ hk => hk.2) (.int .i64 ((rd_T41 t465 x10_3).f4))) (fun _ hk => trivial)⟩, ⟨by (with_reducible repeat (first | apply Kd.R_alloc | apply Kd.R_drewN | apply Kd.R_drew)); exact Kd.R_mono (Kd.R_far (p := ⟨gb488, 4, none⟩) (Kd.R_far (p := ⟨gb488, 3, none⟩) (Kd.R_far (p := ⟨gb488, 2, none⟩) (Kd.R_far (p := ⟨gb488, 1, none⟩) (Kd.R_far (p := ⟨gb488, 0, none⟩) (Kd.R_mono HO_470001.out (fun k_ hk => (⟨hk, hk.2⟩ : _ ∧ k_ ≠ gb488))) (fun _ hk => hk.2) (.int .i64 ((rd_T41 t465 x10_3).f0))) (fun _ hk => hk.2) (.int .i64 ((rd_T41 t465 x10_3).f1))) (fun _ hk => hk.2) (.int .i64 ((rd_T41 t465 x10_3).f2))) (fun _ hk => hk.2) (.int .i64 ((rd_T41 t465 x10_3).f3))) (fun _ hk => hk.2) (.int .i64 ((rd_T41 t465 x10_3).f4))) (fun _ hk => trivial)⟩, ⟨by (with_reducible repeat (first | refine blk_drewN ?_ _ | refine blk_drew ?_ | refine blk_alloc ?_ _)); refine blk_far ?_ NB469_488.out _; refine blk_far ?_ NB469_488.out _; refine blk_far ?_ NB469_488.out _; refine blk_far ?_ NB469_488.out _; refine blk_far ?_ NB469_488.out _; (with_reducible repeat (first | refine blk_drewN ?_ _ | refine blk_drew ?_ | refine blk_alloc ?_ _)); exact BK469.out⟩, ⟨bl2 HB GE469 GE488⟩⟩

/-- THE ONE PURE STATEMENT of laws_FnLoadAll: yours. -/
def laws_FnLoadAll.Pure : Prop := ∀ (l0 : List Int), l0.length ≤ maxLen → l0.length * 1 ≤ 140737488351232 → (∀ x ∈ l0, (Lit.int .u8 x).wf = true) → ∃ k, laws_FnLoadAll.f k l0 = some true
theorem laws_FnLoadAll.walk (P : laws_FnLoadAll.Pure) (a0 : Option Addr) (len0 cap0 : Nat) (z0 : List Int) (w : World) (w0 : (a0 = none ∧ len0 = 0 ∧ cap0 = 0 ∧ z0 = []) ∨ ∃ x, a0 = some x ∧ len0 ≤ cap0 ∧ cap0 ≤ maxLen ∧ z0.length = cap0 ∧ (∀ i, i < z0.length → w.cell? (x.add i) = some (.int .u8 (z0.getD i 0))) ∧ ∀ n ∈ z0, (Lit.int .u8 n).wf = true) (y0 : len0 * 1 ≤ 140737488351232) :
  Calls Try.prog 5 #[.slice a0 len0 cap0] w fun e w' => e = .returned (.bool true) ∧ Below w.heap.size w w' := by
 obtain ⟨l0, rfl, hr0, hm0, hw0, hc0⟩ := ReadsInt.ofRowC w0
 obtain ⟨k, h⟩ := P l0 hm0 y0 hw0
 refine (laws_FnLoadAll.calls k _ _ l0 true w (Kd.C_of_reads (d := (0 : Int)) (h1 := fun _ => rfl) hr0) hc0 h rfl).mono ?_
 rintro e w' ⟨rfl, hd⟩
 exact ⟨rfl, hd⟩

end Go.Proofs.Ytgickejeakmenaa.F
