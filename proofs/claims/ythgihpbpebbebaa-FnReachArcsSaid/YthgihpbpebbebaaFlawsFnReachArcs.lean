-- Printed by wip/px/px.py of this claim's repository (the kit's printer, extended there). Lean checks it.
import Derived.Test.YthgihpbpebbebaaFKinds
import Derived.Test.YthgihpbpebbebaaFwkNet
import Derived.Test.YthgihpbpebbebaaFspecDrawReachArcs
import Derived.Test.YthgihpbpebbebaaFimplReachArcs
import Derived.Test.YthgihpbpebbebaaFspecReachArcs
import Derived.Test.YthgihpbpebbebaaFimplReachIn
import Derived.Test.YthgihpbpebbebaaFwkNet
namespace Go.Proofs.Ythgihpbpebbebaa.F
open Go.RowKit Go.Proofs.YthgihpbpebbebaaW.PrintWords Go.Proofs.YthgihpbpebbebaaW.PrintLast Go.Proofs.YthgihpbpebbebaaW.PrintMore
attribute [local go_sem] max2_int min2_int max_two min_two max_three min_three max_four min_four   -- for this text's walks alone
set_option linter.unusedVariables false
set_option linter.unusedSimpArgs false

/-! ### laws_FnReachArcs: function 12 -/
mutual
def laws_FnReachArcs.j0 : Nat → Int → Int → List Int → Bool → Int → List (S31) → Option (Bool)
 | 0, _, _, _, _, _, _ => none
 | k + 1, x4, x5, x6, x34, x967000, x967001 => if x34 = true then ((spec_ReachArcs.f k x967000 x967001 x4 x5).bind fun t974 => ((laws_wkInts.f k x6 t974).bind fun t977 => (some t977))) else ((impl_ReachIn.f k x967000 x967001 x4 x5).bind fun t978 => (laws_FnReachArcs.l0 k x6 t978 0 x967000 x967001))
def laws_FnReachArcs.l0 : Nat → List Int → List Int → Int → Int → List (S31) → Option (Bool)
 | 0, _, _, _, _, _ => none
 | k + 1, x6, x7, x8, x967000, x967001 => if x8 < (x6.length : Int) then (if 0 ≤ x8 then (if x8 < (x967001.length : Int) then ((laws_wkIn.f k x7 ((rd_T31 x967001 x8).f0)).bind fun t984 => (if ((decide ((rd x6 x8) ≥ 0)) != t984) = true then (some false) else (if (rd x6 x8) > ((rd_T31 x967001 x8).f2) then (some false) else (if (rd x6 x8) = ((rd_T31 x967001 x8).f2) then ((laws_wkIn.f k x7 ((rd_T31 x967001 x8).f1)).bind fun t987 => (if t987 = true then (laws_FnReachArcs.l0 k x6 x7 (wrap64 (x8 + 1)) x967000 x967001) else (some false))) else (laws_FnReachArcs.l0 k x6 x7 (wrap64 (x8 + 1)) x967000 x967001))))) else (none)) else (none)) else (some ((x6.length : Int) == (x967001.length : Int)))
end
def laws_FnReachArcs.f (k : Nat) (l0 : List Int) : Option (Bool) := if (l0.length : Int) > 1048576 then (some true) else ((spec_DrawReachArcs.f k l0).bind fun bt960 => ((impl_ReachArcs.f k bt960.1 bt960.2.1 bt960.2.2.1 bt960.2.2.2).bind fun t967 => ((spec_ReachArcs.f k bt960.1 bt960.2.1 bt960.2.2.1 bt960.2.2.2).bind fun t970 => ((laws_wkInts.f k t967 t970).bind fun t973 => (if t973 = true then (laws_FnReachArcs.j0 k bt960.2.2.1 bt960.2.2.2 t967 ((t967.length : Int) == 0) bt960.1 bt960.2.1) else (laws_FnReachArcs.j0 k bt960.2.2.1 bt960.2.2.2 t967 true bt960.1 bt960.2.1))))))
theorem laws_FnReachArcs.mono_l : ∀ k, (∀ y0 y1 y2 y3 y4 y5, LeO (laws_FnReachArcs.j0 k y0 y1 y2 y3 y4 y5) (laws_FnReachArcs.j0 (k + 1) y0 y1 y2 y3 y4 y5)) ∧ (∀ y0 y1 y2 y3 y4, LeO (laws_FnReachArcs.l0 k y0 y1 y2 y3 y4) (laws_FnReachArcs.l0 (k + 1) y0 y1 y2 y3 y4))
 | 0 => ⟨fun _ _ _ _ _ _ r h => by simp [laws_FnReachArcs.j0] at h, fun _ _ _ _ _ r h => by simp [laws_FnReachArcs.l0] at h⟩
 | k + 1 => by
  obtain ⟨ih0, ih1⟩ := laws_FnReachArcs.mono_l k
  refine ⟨?_, ?_⟩
  ·intro y0 y1 y2 y3 y4 y5
   unfold laws_FnReachArcs.j0
   repeat' first
   | (with_reducible exact ih0 _ _ _ _ _ _)
   | (with_reducible exact ih1 _ _ _ _ _)
   | (with_reducible exact impl_ReachArcs.mono _ _ _ _ _)
   | (with_reducible exact impl_ReachIn.mono _ _ _ _ _)
   | (with_reducible exact laws_wkIn.mono _ _ _)
   | (with_reducible exact laws_wkInts.mono _ _ _)
   | (with_reducible exact spec_DrawReachArcs.mono _ _)
   | (with_reducible exact spec_ReachArcs.mono _ _ _ _ _)
   | (with_reducible exact LeO.refl _)
   | (with_reducible exact LeO.none _)
   | (with_reducible refine LeO.ite ?_ ?_)
   | (with_reducible refine LeO.bind ?_ (fun _ => ?_))
   | exact ih0 _ _ _ _ _ _
   | exact ih1 _ _ _ _ _
   | exact impl_ReachArcs.mono _ _ _ _ _
   | exact impl_ReachIn.mono _ _ _ _ _
   | exact laws_wkIn.mono _ _ _
   | exact laws_wkInts.mono _ _ _
   | exact spec_DrawReachArcs.mono _ _
   | exact spec_ReachArcs.mono _ _ _ _ _
   | exact LeO.none _
   | refine LeO.ite ?_ ?_
   | refine LeO.bind ?_ (fun _ => ?_)
  ·intro y0 y1 y2 y3 y4
   unfold laws_FnReachArcs.l0
   repeat' first
   | (with_reducible exact ih0 _ _ _ _ _ _)
   | (with_reducible exact ih1 _ _ _ _ _)
   | (with_reducible exact impl_ReachArcs.mono _ _ _ _ _)
   | (with_reducible exact impl_ReachIn.mono _ _ _ _ _)
   | (with_reducible exact laws_wkIn.mono _ _ _)
   | (with_reducible exact laws_wkInts.mono _ _ _)
   | (with_reducible exact spec_DrawReachArcs.mono _ _)
   | (with_reducible exact spec_ReachArcs.mono _ _ _ _ _)
   | (with_reducible exact LeO.refl _)
   | (with_reducible exact LeO.none _)
   | (with_reducible refine LeO.ite ?_ ?_)
   | (with_reducible refine LeO.bind ?_ (fun _ => ?_))
   | exact ih0 _ _ _ _ _ _
   | exact ih1 _ _ _ _ _
   | exact impl_ReachArcs.mono _ _ _ _ _
   | exact impl_ReachIn.mono _ _ _ _ _
   | exact laws_wkIn.mono _ _ _
   | exact laws_wkInts.mono _ _ _
   | exact spec_DrawReachArcs.mono _ _
   | exact spec_ReachArcs.mono _ _ _ _ _
   | exact LeO.none _
   | refine LeO.ite ?_ ?_
   | refine LeO.bind ?_ (fun _ => ?_)
theorem laws_FnReachArcs.mono : ∀ a0 k, LeO (laws_FnReachArcs.f k a0) (laws_FnReachArcs.f (k + 1) a0) := by
 intro a0 k
 obtain ⟨ih0, ih1⟩ := laws_FnReachArcs.mono_l k
 unfold laws_FnReachArcs.f
 repeat' first
   | (with_reducible exact ih0 _ _ _ _ _ _)
   | (with_reducible exact ih1 _ _ _ _ _)
   | (with_reducible exact impl_ReachArcs.mono _ _ _ _ _)
   | (with_reducible exact impl_ReachIn.mono _ _ _ _ _)
   | (with_reducible exact laws_wkIn.mono _ _ _)
   | (with_reducible exact laws_wkInts.mono _ _ _)
   | (with_reducible exact spec_DrawReachArcs.mono _ _)
   | (with_reducible exact spec_ReachArcs.mono _ _ _ _ _)
   | (with_reducible exact LeO.refl _)
   | (with_reducible exact LeO.none _)
   | (with_reducible refine LeO.ite ?_ ?_)
   | (with_reducible refine LeO.bind ?_ (fun _ => ?_))
   | exact ih0 _ _ _ _ _ _
   | exact ih1 _ _ _ _ _
   | exact impl_ReachArcs.mono _ _ _ _ _
   | exact impl_ReachIn.mono _ _ _ _ _
   | exact laws_wkIn.mono _ _ _
   | exact laws_wkInts.mono _ _ _
   | exact spec_DrawReachArcs.mono _ _
   | exact spec_ReachArcs.mono _ _ _ _ _
   | exact LeO.none _
   | refine LeO.ite ?_ ?_
   | refine LeO.bind ?_ (fun _ => ?_)
def laws_FnReachArcs.T12 : Bool × List (List Nat × List Nat) := (true, [([], []), ([], []), ([0, 1], [0, 1]), ([2], [2]), ([3], [3]), ([], []), ([], []), ([6], [6]), ([5, 7], [5, 7]), ([4, 8], [4, 8]), ([9, 8], [9]), ([10], [10]), ([10], [10]), ([11, 12, 10], [10, 11, 12]), ([13, 10], [10, 13]), ([10], [10]), ([15, 10], [10, 15]), ([14, 16, 10], [10, 14, 16]), ([10, 17], [10, 17]), ([18, 10], [18]), ([19], [19]), ([19], [19]), ([20, 21, 19], [19, 20, 21]), ([22, 19], [19, 22]), ([19], [19]), ([24, 19], [19, 24]), ([23, 25, 19], [19, 23, 25]), ([26, 19, 19], [19, 26]), ([27], [27]), ([27], [27]), ([29, 27], [27, 29]), ([28, 30, 27, 27], [27, 28, 30]), ([31, 27], [27, 31]), ([27, 32, 19], [19, 27, 32]), ([19, 33], [19, 33])])
def laws_FnReachArcs.B12 : List Nat := [0, 0, 3, 7, 15, 0, 0, 64, 224, 511, 1023, 2047, 2047, 8191, 16383, 2047, 34815, 131071, 262143, 524287, 1048575, 1048575, 4194303, 8388607, 1048575, 17825791, 67108863, 134217727, 268435455, 268435455, 805306367, 2147483647, 4294967295, 8589934591, 17179869183]
theorem laws_FnReachArcs.tab12 : rtab .any (opsOf Try.f12 12) = laws_FnReachArcs.T12 := by kernel_rfl
theorem laws_FnReachArcs.bits12 : waitsOk laws_FnReachArcs.T12.2 laws_FnReachArcs.B12 = true := by kernel_rfl
set_option maxHeartbeats 8000000 in
set_option maxRecDepth 100000 in
theorem laws_FnReachArcs.calls (k : Nat) (A0 : Option Addr) (c0 : Nat) (l0 : List Int) (r : Bool) (w : World) (hr0 : Kd.C (Kd.int .u8) w A0 l0.length l0) (hc0 : l0.length ≤ c0) (h : laws_FnReachArcs.f k l0 = some r) (hr_ : r = true) :
  Calls Try.prog 12 #[.slice A0 l0.length c0] w fun e w' => e = .returned (.bool r) ∧ Below w.heap.size w w' := by
 have hu25 := Try.underlying25
 have hu31 := Try.underlying31
 have HR0 := Aside0.mk hr0
 have HC0 := Aside0.mk hc0
 clear hr0 hc0
 have HB := Aside0.mk (Below.refl w.heap.size w)
 have H : (if (l0.length : Int) > 1048576 then (some true) else ((spec_DrawReachArcs.f k l0).bind fun bt960 => ((impl_ReachArcs.f k bt960.1 bt960.2.1 bt960.2.2.1 bt960.2.2.2).bind fun t967 => ((spec_ReachArcs.f k bt960.1 bt960.2.1 bt960.2.2.1 bt960.2.2.2).bind fun t970 => ((laws_wkInts.f k t967 t970).bind fun t973 => (if t973 = true then (laws_FnReachArcs.j0 k bt960.2.2.1 bt960.2.2.2 t967 ((t967.length : Int) == 0) bt960.1 bt960.2.1) else (laws_FnReachArcs.j0 k bt960.2.2.1 bt960.2.2.2 t967 true bt960.1 bt960.2.1))))))) = some r := h
 clear h
 by_cases c2 : (l0.length : Int) > 1048576
 ·rw [if_pos c2] at H
  have c2b0 : decide (1048576 < (l0.length : Int)) = true := decide_eq_true c2
  have c2b1 : decide (1048576 < l0.length) = true := decide_eq_true (by omega)
  clear c2
  obtain rfl := Option.some.inj H
  go_enter Try.func12, Try.ntmps12
  go_wp2
  go_ret
  exact ⟨by first | rfl | (simp [errW_none, errW_some] <;> rfl) | (simp [*, errW_none, errW_some] <;> rfl), bl HB⟩
 ·rw [if_neg c2] at H
  have c2b0 : decide (1048576 < (l0.length : Int)) = false := decide_eq_false c2
  have c2b1 : decide (1048576 < l0.length) = false := decide_eq_false (by omega)
  clear c2
  replace H := Option.bind_eq_some_iff.mp H
  obtain ⟨⟨t960, t961, t964, t965⟩, A30, H⟩ := H
  have A3 := Aside0.mk A30
  clear A30
  replace H := Option.bind_eq_some_iff.mp H
  obtain ⟨t967, A40, H⟩ := H
  have A4 := Aside0.mk A40
  clear A40
  have HC5 := Aside0.mk H
  clear H
  go_enter Try.func12, Try.ntmps12
  go_upto_region 5 with (first | ((with_reducible refine gate_callee (f := 49) rfl ?_); refine goesL_ (some 15) rfl rfl Try.func49 (by kernel_rfl) rfl #[.slice A0 l0.length c0] rfl (by (try simp only [List.map_toArray, List.map_cons, List.map_nil]); first | done | rfl | (simp only [List.length_drop, List.length_take]; rfl)) ?_; (with_reducible refine (spec_DrawReachArcs.calls k _ _ l0 t960 t961 t964 t965 _ ?side1 ?side2 A3.out).mono ?_); (case side1 => repeat (first | exact HR0.out | (with_reducible refine Kd.C_alloc ?_ _) | (with_reducible refine Kd.C_drewN ?_ _) | (with_reducible refine Kd.C_drew ?_))); (case side2 => exact HC0.out); rintro e w6 ⟨v962, rfl, ho0, hb⟩; refine ⟨_, rfl, ?_⟩; have n0_ := Aside0.mk (Kd.R_lower ho0 (below_size (bl HB))); have n1_ := Aside0.mk (below_step (bl HB) hb); clear HB; have HO963 := n0_; have HB := n1_; clear n0_ n1_; (try clear hb); (try clear hb2); (try clear hk); (try clear hi); (try clear ho0)) | ((with_reducible refine gate_dst (N := 3) rfl ?_); refine box_event ?hg (N := 3) ?hd (cs := #[.int .i64 0, .slice none 0 0]) (t := 25) ?hr ?_; (case hd => rfl); (case hg => rfl); (case hr => first | (go_simp; done) | (go_simp; rfl)); intro gb966 hg w7 hbox hb; have n0_ := Aside0.mk (Kd.R_below (rk HO963) hb); have n1_ := Aside0.mk (below_step (bl HB) hb); have n2_ := Aside0.mk (hbox); have n3_ := Aside0.mk ((by rw [hg]; exact (below_size (bl HB)) : w.heap.size ≤ gb966)); have n4_ := Aside0.mk ((by rw [hg]; exact (below_size (bl HB)) : w.heap.size ≤ gb966)); clear HO963; clear HB; have HO963 := n0_; have HB := n1_; have BK966 := n2_; have GW966 := n3_; have GE966 := n4_; clear n0_ n1_ n2_ n3_ n4_; clear hb hbox hg; have hcz8_0 : w7.cell? ⟨gb966, 0, none⟩ = some (.int .i64 0) := (blk_cell BK966.out 0).trans rfl; have hcz8_1 : w7.cell? ⟨gb966, 1, none⟩ = some (.slice none 0 0) := (blk_cell BK966.out 1).trans rfl; have hfz8_0 := blk_frozen BK966.out 0; have hfz8_1 := blk_frozen BK966.out 1; obtain ⟨Ao9, co9, eo9⟩ := Kd.R_slice HO963.out; subst eo9) | ((with_reducible refine gate_callee (f := 50) rfl ?_); refine goesL_ (some 22) rfl rfl Try.func50 (by kernel_rfl) rfl #[.agg #[.int .i64 t960, .slice Ao9 t961.length co9], .int .i64 t964, .int .i64 t965] rfl (by (try simp only [List.map_toArray, List.map_cons, List.map_nil]); first | done | rfl | (simp only [List.length_drop, List.length_take]; rfl)) ?_; (with_reducible refine (impl_ReachArcs.calls k t960 _ _ t961 t964 t965 t967 _ ?side1 ?side2 A4.out).mono ?_); (case side1 => refine (Kd.R_reads' (e := 31) (base := w.heap.size) (ok := fun k_ => True) (n := t961.length) (c := co9) ?_).2.2; exact (by (with_reducible repeat (first | apply Kd.R_alloc | apply Kd.R_drewN | apply Kd.R_drew)); exact (Kd.R_mono (Kd.R_far (p := ⟨gb966, 1, none⟩) (Kd.R_far (p := ⟨gb966, 0, none⟩) (Kd.R_types HO963.out BK966.out (by decide)) (fun _ hk => hk.2) (.int .i64 t960)) (fun _ hk => hk.2) (.slice Ao9 t961.length co9)) (fun _ h_ => h_.1)))); (case side2 => exact (Kd.R_reads' HO963.out).2.1); rintro e w10 ⟨v968, rfl, ho0, hb⟩; refine ⟨_, rfl, ?_⟩; have n0_ := Aside0.mk (Kd.R_below (by (with_reducible repeat (first | apply Kd.R_alloc | apply Kd.R_drewN | apply Kd.R_drew)); exact (Kd.R_mono (Kd.R_far (p := ⟨gb966, 1, none⟩) (Kd.R_far (p := ⟨gb966, 0, none⟩) (Kd.R_types HO963.out BK966.out (by decide)) (fun _ hk => hk.2) (.int .i64 t960)) (fun _ hk => hk.2) (.slice Ao9 t961.length co9)) (fun _ h_ => h_.1))) hb); have n1_ := Aside0.mk (Kd.R_lower ho0 (below_size (bl1 HB GE966))); have n2_ := Aside0.mk (blk_below (g := gb966) (o := .cells #[.int .i64 t960, .slice Ao9 t961.length co9] 25 (0, 0)) (by (with_reducible repeat (first | refine blk_drewN ?_ _ | refine blk_drew ?_ | refine blk_alloc ?_ _)); refine blk_put (cs := #[.int .i64 t960, .slice none 0 0]) ?_ 1 _ rfl; (with_reducible repeat (first | refine blk_drewN ?_ _ | refine blk_drew ?_ | refine blk_alloc ?_ _)); refine blk_put (cs := #[.int .i64 0, .slice none 0 0]) ?_ 0 _ rfl; (with_reducible repeat (first | refine blk_drewN ?_ _ | refine blk_drew ?_ | refine blk_alloc ?_ _)); exact BK966.out) hb); have n3_ := Aside0.mk (below_step (bl1 HB GE966) hb); clear HO963; clear BK966; clear HB; have HO963 := n0_; have HO969 := n1_; have BK966 := n2_; have HB := n3_; clear n0_ n1_ n2_ n3_; (try clear hb); (try clear hb2); (try clear hk); (try clear hi); (try clear ho0)))
  (try simp only [Act.put, List.setIfInBounds_toArray, List.set_cons_zero, List.set_cons_succ])
  go_cut [34] (fun v34 wc => ∃ (kq : Nat) (x34_4 : Bool), v34 = .bool x34_4 ∧ Aside0 (laws_FnReachArcs.j0 kq t964 t965 t967 x34_4 t960 t961 = some r) ∧ Aside0 (kq ≤ k) ∧ Aside0 (Kd.R (Kd.int .i64) 3 wc w.heap.size (fun _ => True) v968 t967) ∧ Aside0 (Kd.R k31 31 wc w.heap.size (fun _ => True) (.slice Ao9 t961.length co9) t961) ∧ Aside0 (wc.heap[gb966]? = some (.cells #[.int .i64 t960, (.slice Ao9 t961.length co9)] 25 (0, 0))) ∧ Aside0 (Below w.heap.size w wc))
  case first =>
   have H := HC5.out
   clear HC5
   replace H := Option.bind_eq_some_iff.mp H
   obtain ⟨t970, A110, H⟩ := H
   have A11 := Aside0.mk A110
   clear A110
   replace H := Option.bind_eq_some_iff.mp H
   obtain ⟨t973, A120, H⟩ := H
   have A12 := Aside0.mk A120
   clear A120
   by_cases c13 : t973 = true
   ·subst c13
    rw [if_pos rfl] at H
    have H' := Aside0.mk H
    clear H
    have hcz14_0 : w10.cell? ⟨gb966, 0, none⟩ = some (.int .i64 t960) := (blk_cell BK966.out 0).trans rfl
    have hcz14_1 : w10.cell? ⟨gb966, 1, none⟩ = some (.slice Ao9 t961.length co9) := (blk_cell BK966.out 1).trans rfl
    have hfz14_0 := blk_frozen BK966.out 0
    have hfz14_1 := blk_frozen BK966.out 1
    go_wp2_with (first | ((with_reducible refine gate_callee (f := 51) rfl ?_); refine goesL_ (some 27) rfl rfl Try.func51 (by kernel_rfl) rfl #[.agg #[.int .i64 t960, .slice Ao9 t961.length co9], .int .i64 t964, .int .i64 t965] rfl (by (try simp only [List.map_toArray, List.map_cons, List.map_nil]); first | done | rfl | (simp only [List.length_drop, List.length_take]; rfl)) ?_; (with_reducible refine (spec_ReachArcs.calls k t960 _ _ t961 t964 t965 t970 _ ?side1 ?side2 A11.out).mono ?_); (case side1 => repeat (first | exact (Kd.R_reads' HO963.out).2.2 | (with_reducible refine Kd.C_alloc ?_ _) | (with_reducible refine Kd.C_drewN ?_ _) | (with_reducible refine Kd.C_drew ?_))); (case side2 => exact (Kd.R_reads' HO963.out).2.1); rintro e w15 ⟨v971, rfl, ho0, hb⟩; refine ⟨_, rfl, ?_⟩; have n0_ := Aside0.mk (Kd.R_below (rk HO963) hb); have n1_ := Aside0.mk (Kd.R_elder' (rk HO969) (Kd.R_base ho0) hb); have n2_ := Aside0.mk (Kd.R_lower (Kd.R_new' ho0 (Kd.R_lt (rk HO969))) (below_size (bl1 HB GE966))); have n3_ := Aside0.mk (blk_below (bk BK966) hb); have n4_ := Aside0.mk (below_step (bl1 HB GE966) hb); clear HO963; clear HO969; clear BK966; clear HB; have HO963 := n0_; have HO969 := n1_; have HO972 := n2_; have BK966 := n3_; have HB := n4_; clear n0_ n1_ n2_ n3_ n4_; (try clear hb); (try clear hb2); (try clear hk); (try clear hi); (try clear ho0); obtain ⟨Ao16, co16, eo16⟩ := Kd.R_slice HO969.out; subst eo16; obtain ⟨Ao17, co17, eo17⟩ := Kd.R_slice HO972.out; subst eo17) | ((with_reducible refine gate_callee (f := 44) rfl ?_); refine goesL_ (some 28) rfl rfl Try.func44 (by kernel_rfl) rfl #[.slice Ao16 t967.length co16, .slice Ao17 t970.length co17] rfl (by (try simp only [List.map_toArray, List.map_cons, List.map_nil]); first | done | rfl | (simp only [List.length_drop, List.length_take]; rfl)) ?_; (with_reducible refine (laws_wkInts.calls k _ _ t967 _ _ t970 true _ ?side1 ?side2 ?side3 ?side4 A12.out).mono ?_); (case side1 => repeat (first | exact (Kd.R_reads' HO969.out).2.2 | (with_reducible refine Kd.C_alloc ?_ _) | (with_reducible refine Kd.C_drewN ?_ _) | (with_reducible refine Kd.C_drew ?_))); (case side2 => exact (Kd.R_reads' HO969.out).2.1); (case side3 => repeat (first | exact (Kd.R_reads' HO972.out).2.2 | (with_reducible refine Kd.C_alloc ?_ _) | (with_reducible refine Kd.C_drewN ?_ _) | (with_reducible refine Kd.C_drew ?_))); (case side4 => exact (Kd.R_reads' HO972.out).2.1); rintro e w' ⟨rfl, ⟨nd, rfl⟩⟩; refine ⟨_, rfl, ?_⟩))
    go_meet
    case rel => exact ⟨_, (((t967.length : Int) == 0)), (by first | rfl | (simp; done) | (simp [*]; done)), H', ⟨by first | omega | exact Nat.le_refl _⟩, ⟨by (with_reducible repeat (first | apply Kd.R_alloc | apply Kd.R_drewN | apply Kd.R_drew)); exact Kd.R_mono HO969.out (fun _ hk => trivial)⟩, ⟨rk HO963⟩, ⟨bk BK966⟩, ⟨bl1 HB GE966⟩⟩
   ·replace c13 := Bool.eq_false_iff.mpr c13
    subst c13
    rw [if_neg (show ¬ (false = true) by decide)] at H
    have H' := Aside0.mk H
    clear H
    have hcz18_0 : w10.cell? ⟨gb966, 0, none⟩ = some (.int .i64 t960) := (blk_cell BK966.out 0).trans rfl
    have hcz18_1 : w10.cell? ⟨gb966, 1, none⟩ = some (.slice Ao9 t961.length co9) := (blk_cell BK966.out 1).trans rfl
    have hfz18_0 := blk_frozen BK966.out 0
    have hfz18_1 := blk_frozen BK966.out 1
    go_wp2_with (first | ((with_reducible refine gate_callee (f := 51) rfl ?_); refine goesL_ (some 27) rfl rfl Try.func51 (by kernel_rfl) rfl #[.agg #[.int .i64 t960, .slice Ao9 t961.length co9], .int .i64 t964, .int .i64 t965] rfl (by (try simp only [List.map_toArray, List.map_cons, List.map_nil]); first | done | rfl | (simp only [List.length_drop, List.length_take]; rfl)) ?_; (with_reducible refine (spec_ReachArcs.calls k t960 _ _ t961 t964 t965 t970 _ ?side1 ?side2 A11.out).mono ?_); (case side1 => repeat (first | exact (Kd.R_reads' HO963.out).2.2 | (with_reducible refine Kd.C_alloc ?_ _) | (with_reducible refine Kd.C_drewN ?_ _) | (with_reducible refine Kd.C_drew ?_))); (case side2 => exact (Kd.R_reads' HO963.out).2.1); rintro e w19 ⟨v971, rfl, ho0, hb⟩; refine ⟨_, rfl, ?_⟩; have n0_ := Aside0.mk (Kd.R_below (rk HO963) hb); have n1_ := Aside0.mk (Kd.R_elder' (rk HO969) (Kd.R_base ho0) hb); have n2_ := Aside0.mk (Kd.R_lower (Kd.R_new' ho0 (Kd.R_lt (rk HO969))) (below_size (bl1 HB GE966))); have n3_ := Aside0.mk (blk_below (bk BK966) hb); have n4_ := Aside0.mk (below_step (bl1 HB GE966) hb); clear HO963; clear HO969; clear BK966; clear HB; have HO963 := n0_; have HO969 := n1_; have HO972 := n2_; have BK966 := n3_; have HB := n4_; clear n0_ n1_ n2_ n3_ n4_; (try clear hb); (try clear hb2); (try clear hk); (try clear hi); (try clear ho0); obtain ⟨Ao20, co20, eo20⟩ := Kd.R_slice HO969.out; subst eo20; obtain ⟨Ao21, co21, eo21⟩ := Kd.R_slice HO972.out; subst eo21) | ((with_reducible refine gate_callee (f := 44) rfl ?_); refine goesL_ (some 28) rfl rfl Try.func44 (by kernel_rfl) rfl #[.slice Ao20 t967.length co20, .slice Ao21 t970.length co21] rfl (by (try simp only [List.map_toArray, List.map_cons, List.map_nil]); first | done | rfl | (simp only [List.length_drop, List.length_take]; rfl)) ?_; (with_reducible refine (laws_wkInts.calls k _ _ t967 _ _ t970 false _ ?side1 ?side2 ?side3 ?side4 A12.out).mono ?_); (case side1 => repeat (first | exact (Kd.R_reads' HO969.out).2.2 | (with_reducible refine Kd.C_alloc ?_ _) | (with_reducible refine Kd.C_drewN ?_ _) | (with_reducible refine Kd.C_drew ?_))); (case side2 => exact (Kd.R_reads' HO969.out).2.1); (case side3 => repeat (first | exact (Kd.R_reads' HO972.out).2.2 | (with_reducible refine Kd.C_alloc ?_ _) | (with_reducible refine Kd.C_drewN ?_ _) | (with_reducible refine Kd.C_drew ?_))); (case side4 => exact (Kd.R_reads' HO972.out).2.1); rintro e w' ⟨rfl, ⟨nd, rfl⟩⟩; refine ⟨_, rfl, ?_⟩))
    go_meet
    case rel => exact ⟨_, (true), (by first | rfl | (simp; done) | (simp [*]; done)), H', ⟨by first | omega | exact Nat.le_refl _⟩, ⟨by (with_reducible repeat (first | apply Kd.R_alloc | apply Kd.R_drewN | apply Kd.R_drew)); exact Kd.R_mono HO969.out (fun _ hk => trivial)⟩, ⟨rk HO963⟩, ⟨bk BK966⟩, ⟨bl1 HB GE966⟩⟩
  case rest =>
   clear HC5
   try clear c1
   try clear c2
   try clear c2b0
   try clear c2b1
   try clear p2
   try clear c4
   try clear c5
   try clear c12
   try clear c13
   try clear hcz14_0
   try clear hcz14_1
   try clear hcz18_0
   try clear hcz18_1
   try clear hcz8_0
   try clear hcz8_1
   try clear hfz14_0
   try clear hfz14_1
   try clear hfz18_0
   try clear hfz18_1
   try clear hfz8_0
   try clear hfz8_1
   obtain ⟨kq, x34_4, rfl, HA, HJ4, HO_6, HO_967001, BK966, HB⟩ := hcut
   cases kq with
   | zero => exact absurd HA.out (by simp [laws_FnReachArcs.j0])
   | succ kj4 =>
    have H := HA.out
    clear HA
    simp only [laws_FnReachArcs.j0] at H
    by_cases c22 : x34_4 = true
    ·subst c22
     rw [if_pos rfl] at H
     replace H := Option.bind_eq_some_iff.mp H
     obtain ⟨t974, A230, H⟩ := H
     have A23 := Aside0.mk A230
     clear A230
     replace H := Option.bind_eq_some_iff.mp H
     obtain ⟨t977, A240, H⟩ := H
     have A24 := Aside0.mk A240
     clear A240
     obtain rfl := Option.some.inj H
     have hcz25_0 : wc.cell? ⟨gb966, 0, none⟩ = some (.int .i64 t960) := (blk_cell BK966.out 0).trans rfl
     have hcz25_1 : wc.cell? ⟨gb966, 1, none⟩ = some (.slice Ao9 t961.length co9) := (blk_cell BK966.out 1).trans rfl
     have hfz25_0 := blk_frozen BK966.out 0
     have hfz25_1 := blk_frozen BK966.out 1
     go_wp2_with (first | ((with_reducible refine gate_callee (f := 51) rfl ?_); refine goesL_ (some 39) rfl rfl Try.func51 (by kernel_rfl) rfl #[.agg #[.int .i64 t960, .slice Ao9 t961.length co9], .int .i64 t964, .int .i64 t965] rfl (by (try simp only [List.map_toArray, List.map_cons, List.map_nil]); first | done | rfl | (simp only [List.length_drop, List.length_take]; rfl)) ?_; (with_reducible refine (spec_ReachArcs.calls kj4 t960 _ _ t961 t964 t965 t974 _ ?side1 ?side2 A23.out).mono ?_); (case side1 => repeat (first | exact (Kd.R_reads' HO_967001.out).2.2 | (with_reducible refine Kd.C_alloc ?_ _) | (with_reducible refine Kd.C_drewN ?_ _) | (with_reducible refine Kd.C_drew ?_))); (case side2 => exact (Kd.R_reads' HO_967001.out).2.1); rintro e w26 ⟨v975, rfl, ho0, hb⟩; refine ⟨_, rfl, ?_⟩; have n0_ := Aside0.mk (Kd.R_elder' (rk HO_6) (Kd.R_base ho0) hb); have n1_ := Aside0.mk (Kd.R_below (rk HO_967001) hb); have n2_ := Aside0.mk (Kd.R_lower (Kd.R_new' ho0 (Kd.R_lt (rk HO_6))) (below_size (bl1 HB GE966))); have n3_ := Aside0.mk (blk_below (bk BK966) hb); have n4_ := Aside0.mk (below_step (bl1 HB GE966) hb); clear HO_6; clear HO_967001; clear BK966; clear HB; have HO_6 := n0_; have HO_967001 := n1_; have HO976 := n2_; have BK966 := n3_; have HB := n4_; clear n0_ n1_ n2_ n3_ n4_; (try clear hb); (try clear hb2); (try clear hk); (try clear hi); (try clear ho0); obtain ⟨Ao27, co27, eo27⟩ := Kd.R_slice HO_6.out; subst eo27; obtain ⟨Ao28, co28, eo28⟩ := Kd.R_slice HO976.out; subst eo28) | ((with_reducible refine gate_callee (f := 44) rfl ?_); refine goesL_ (some 40) rfl rfl Try.func44 (by kernel_rfl) rfl #[.slice Ao27 t967.length co27, .slice Ao28 t974.length co28] rfl (by (try simp only [List.map_toArray, List.map_cons, List.map_nil]); first | done | rfl | (simp only [List.length_drop, List.length_take]; rfl)) ?_; (with_reducible refine (laws_wkInts.calls kj4 _ _ t967 _ _ t974 t977 _ ?side1 ?side2 ?side3 ?side4 A24.out).mono ?_); (case side1 => repeat (first | exact (Kd.R_reads' HO_6.out).2.2 | (with_reducible refine Kd.C_alloc ?_ _) | (with_reducible refine Kd.C_drewN ?_ _) | (with_reducible refine Kd.C_drew ?_))); (case side2 => exact (Kd.R_reads' HO_6.out).2.1); (case side3 => repeat (first | exact (Kd.R_reads' HO976.out).2.2 | (with_reducible refine Kd.C_alloc ?_ _) | (with_reducible refine Kd.C_drewN ?_ _) | (with_reducible refine Kd.C_drew ?_))); (case side4 => exact (Kd.R_reads' HO976.out).2.1); rintro e w' ⟨rfl, ⟨nd, rfl⟩⟩; refine ⟨_, rfl, ?_⟩))
     go_ret
     exact ⟨by first | rfl | (simp [errW_none, errW_some] <;> rfl) | (simp [*, errW_none, errW_some] <;> rfl), bl1 HB GE966⟩
    ·replace c22 := Bool.eq_false_iff.mpr c22
     subst c22
     rw [if_neg (show ¬ (false = true) by decide)] at H
     replace H := Option.bind_eq_some_iff.mp H
     obtain ⟨t978, A290, H⟩ := H
     have A29 := Aside0.mk A290
     clear A290
     have H' := Aside0.mk H
     clear H
     have hcz30_0 : wc.cell? ⟨gb966, 0, none⟩ = some (.int .i64 t960) := (blk_cell BK966.out 0).trans rfl
     have hcz30_1 : wc.cell? ⟨gb966, 1, none⟩ = some (.slice Ao9 t961.length co9) := (blk_cell BK966.out 1).trans rfl
     have hfz30_0 := blk_frozen BK966.out 0
     have hfz30_1 := blk_frozen BK966.out 1
     go_wp2_with (first | ((with_reducible refine gate_callee (f := 52) rfl ?_); refine goesL_ (some 44) rfl rfl Try.func52 (by kernel_rfl) rfl #[.agg #[.int .i64 t960, .slice Ao9 t961.length co9], .int .i64 t964, .int .i64 t965] rfl (by (try simp only [List.map_toArray, List.map_cons, List.map_nil]); first | done | rfl | (simp only [List.length_drop, List.length_take]; rfl)) ?_; (with_reducible refine (impl_ReachIn.calls kj4 t960 _ _ t961 t964 t965 t978 _ ?side1 ?side2 A29.out).mono ?_); (case side1 => repeat (first | exact (Kd.R_reads' HO_967001.out).2.2 | (with_reducible refine Kd.C_alloc ?_ _) | (with_reducible refine Kd.C_drewN ?_ _) | (with_reducible refine Kd.C_drew ?_))); (case side2 => exact (Kd.R_reads' HO_967001.out).2.1); rintro e w31 ⟨v979, rfl, ho0, hb⟩; refine ⟨_, rfl, ?_⟩; have n0_ := Aside0.mk (Kd.R_elder' (rk HO_6) (Kd.R_base ho0) hb); have n1_ := Aside0.mk (Kd.R_below (rk HO_967001) hb); have n2_ := Aside0.mk (Kd.R_lower (Kd.R_new' ho0 (Kd.R_lt (rk HO_6))) (below_size (bl1 HB GE966))); have n3_ := Aside0.mk (blk_below (bk BK966) hb); have n4_ := Aside0.mk (below_step (bl1 HB GE966) hb); clear HO_6; clear HO_967001; clear BK966; clear HB; have HO_6 := n0_; have HO_967001 := n1_; have HO980 := n2_; have BK966 := n3_; have HB := n4_; clear n0_ n1_ n2_ n3_ n4_; (try clear hb); (try clear hb2); (try clear hk); (try clear hi); (try clear ho0)))
     go_loopg [8] kj4 (fun kq v8 w' => ∃ (x8_2 : Int), v8 = .int .i64 x8_2 ∧ Aside0 (laws_FnReachArcs.l0 kq t967 t978 x8_2 t960 t961 = some r) ∧ Aside0 (kq ≤ kj4) ∧ Aside0 (Kd.R (Kd.int .i64) 3 w' w.heap.size (fun k_ => some k_ ≠ (v979 : Value).ownBlock) v968 t967) ∧ Aside0 (Kd.R (Kd.int .i64) 3 w' w.heap.size (fun k_ => some k_ ≠ (v968 : Value).ownBlock) v979 t978) ∧ Aside0 (Kd.R k31 31 w' w.heap.size (fun _ => True) (.slice Ao9 t961.length co9) t961) ∧ Aside0 (w'.heap[gb966]? = some (.cells #[.int .i64 t960, (.slice Ao9 t961.length co9)] 25 (0, 0))) ∧ Aside0 (Below w.heap.size w w'))
     case atStart => exact ⟨(0), (by first | rfl | (simp; done) | (simp [*]; done)), H', ⟨Nat.le_refl _⟩, ⟨by (with_reducible repeat (first | apply Kd.R_alloc | apply Kd.R_drewN | apply Kd.R_drew)); exact Kd.R_mono HO_6.out (fun _ hk => hk.2)⟩, ⟨by (with_reducible repeat (first | apply Kd.R_alloc | apply Kd.R_drewN | apply Kd.R_drew)); exact Kd.R_mono HO980.out (fun _ hk => hk.2)⟩, ⟨rk HO_967001⟩, ⟨bk BK966⟩, ⟨bl1 HB GE966⟩⟩
     case round =>
      clear H'
      try clear c1
      try clear c2
      try clear c2b0
      try clear c2b1
      try clear p2
      try clear c4
      try clear c5
      try clear c12
      try clear c13
      try clear c22
      try clear hcz14_0
      try clear hcz14_1
      try clear hcz18_0
      try clear hcz18_1
      try clear hcz25_0
      try clear hcz25_1
      try clear hcz30_0
      try clear hcz30_1
      try clear hcz8_0
      try clear hcz8_1
      try clear hfz14_0
      try clear hfz14_1
      try clear hfz18_0
      try clear hfz18_1
      try clear hfz25_0
      try clear hfz25_1
      try clear hfz30_0
      try clear hfz30_1
      try clear hfz8_0
      try clear hfz8_1
      try clear p2
      obtain ⟨x8_2, rfl, HA, HK2, HO_6, HO_7, HO_967001, BK966, HB⟩ := hrel
      cases gk with
      | zero => exact absurd HA.out (by simp [laws_FnReachArcs.l0])
      | succ k2 =>
       have H := HA.out
       clear HA
       simp only [laws_FnReachArcs.l0] at H
       by_cases c32 : x8_2 < (t967.length : Int)
       ·rw [if_pos c32] at H
        have c32b0 : decide (x8_2 < (t967.length : Int)) = true := decide_eq_true c32
        clear c32
        by_cases c33 : 0 ≤ x8_2
        ·rw [if_pos c33] at H
         have c33b0 : decide (0 ≤ x8_2) = true := decide_eq_true c33
         clear c33
         by_cases c34 : x8_2 < (t961.length : Int)
         ·rw [if_pos c34] at H
          have c34b0 : decide (x8_2 < (t961.length : Int)) = true := decide_eq_true c34
          clear c34
          replace H := Option.bind_eq_some_iff.mp H
          obtain ⟨t984, A350, H⟩ := H
          have A35 := Aside0.mk A350
          clear A350
          by_cases c36 : ((decide ((rd t967 x8_2) ≥ 0)) != t984) = true
          ·rw [if_pos c36] at H
           have c36b0 : ((decide ((rd t967 x8_2) ≥ 0)) != t984) = true := c36
           (try (have c36b1 : decide ((decide ((rd t967 x8_2) ≥ 0)) = t984) = false := by simpa using c36))
           (try (have c36b2 : ((decide ((rd t967 x8_2) ≥ 0)) == t984) = false := by simpa using c36))
           (try (have c36b3 : ¬ ((decide ((rd t967 x8_2) ≥ 0)) = t984) := by simpa using c36))
           clear c36
           exact absurd ((Option.some.inj H).trans hr_) Bool.false_ne_true
          ·rw [if_neg c36] at H
           have c36b0 : ((decide ((rd t967 x8_2) ≥ 0)) != t984) = false := by simpa using c36
           (try (have c36b1 : decide ((decide ((rd t967 x8_2) ≥ 0)) = t984) = true := by simpa using c36))
           (try (have c36b2 : ((decide ((rd t967 x8_2) ≥ 0)) == t984) = true := by simpa using c36))
           clear c36
           by_cases c37 : (rd t967 x8_2) > ((rd_T31 t961 x8_2).f2)
           ·rw [if_pos c37] at H
            have c37b0 : decide (((rd_T31 t961 x8_2).f2) < (rd t967 x8_2)) = true := decide_eq_true c37
            clear c37
            exact absurd ((Option.some.inj H).trans hr_) Bool.false_ne_true
           ·rw [if_neg c37] at H
            have c37b0 : decide (((rd_T31 t961 x8_2).f2) < (rd t967 x8_2)) = false := decide_eq_false c37
            clear c37
            by_cases c38 : (rd t967 x8_2) = ((rd_T31 t961 x8_2).f2)
            ·rw [if_pos c38] at H
             have c38b0 : ((rd t967 x8_2) == ((rd_T31 t961 x8_2).f2)) = true := beq_iff_eq.mpr c38
             have c38b1 : ((rd t967 x8_2) != ((rd_T31 t961 x8_2).f2)) = false := bne_eq_false_iff_eq.mpr c38
             clear c38
             replace H := Option.bind_eq_some_iff.mp H
             obtain ⟨t987, A390, H⟩ := H
             have A39 := Aside0.mk A390
             clear A390
             by_cases c40 : t987 = true
             ·subst c40
              rw [if_pos rfl] at H
              have H' := Aside0.mk H
              clear H
              obtain ⟨Ao41, co41, eo41⟩ := Kd.R_slice HO_6.out
              subst eo41
              have hcz42_0 : wr.cell? ⟨gb966, 0, none⟩ = some (.int .i64 t960) := (blk_cell BK966.out 0).trans rfl
              have hcz42_1 : wr.cell? ⟨gb966, 1, none⟩ = some (.slice Ao9 t961.length co9) := (blk_cell BK966.out 1).trans rfl
              have hfz42_0 := blk_frozen BK966.out 0
              have hfz42_1 := blk_frozen BK966.out 1
              have p981 : 0 ≤ (x8_2 : Int) := oT (by first | (with_reducible assumption) | assumption)
              have q981 : x8_2 < (t961.length : Int) := oT (by first | (with_reducible assumption) | assumption)
              obtain ⟨ad981, e981, hx981_0, hx981_1, hx981_2, hx981_3, hx981_4⟩ := at_T31 (Kd.R_reads' HO_967001.out).2.2 x8_2 p981 q981
              cases e981
              replace p981 := eq_true p981
              replace q981 := eq_true q981
              try go_wp2_with (first | ((with_reducible refine gate_dst (N := 9) rfl ?_); refine box_event ?hg (N := 9) ?hd (cs := #[.int .i64 0, .int .i64 0, .int .i64 0, .int .i64 0, .int .i64 0]) (t := 31) ?hr ?_; (case hd => rfl); (case hg => rfl); (case hr => first | (go_simp; done) | (go_simp; rfl)); intro gb982 hg w43 hbox hb; have n0_ := Aside0.mk (Kd.R_below (rk HO_6) hb); have n1_ := Aside0.mk (Kd.R_below (rk HO_7) hb); have n2_ := Aside0.mk (Kd.R_below (Kd.R_elderB (rk HO_967001) gb982 (Nat.le_of_eq hg.symm)) hb); have n3_ := Aside0.mk (blk_below (bk BK966) hb); have n4_ := Aside0.mk (below_step (bl1 HB GE966) hb); have n5_ := Aside0.mk (hbox); have n6_ := Aside0.mk ((by rw [hg]; exact (below_size (bl1 HB GE966)) : w.heap.size ≤ gb982)); have n7_ := Aside0.mk ((by rw [hg]; exact (below_size (bl1 HB GE966)) : w.heap.size ≤ gb982)); have n8_ := Aside0.mk ((by rw [hg]; exact Nat.ne_of_lt (blk_lt (bk BK966)) : gb966 ≠ gb982)); have n9_ := Aside0.mk ((by rw [hg]; exact Nat.ne_of_gt (blk_lt (bk BK966)) : gb982 ≠ gb966)); clear HO_6; clear HO_7; clear HO_967001; clear BK966; clear HB; have HO_6 := n0_; have HO_7 := n1_; have HO_967001 := n2_; have BK966 := n3_; have HB := n4_; have BK982 := n5_; have GW982 := n6_; have GE982 := n7_; have NB966_982 := n8_; have NB982_966 := n9_; clear n0_ n1_ n2_ n3_ n4_ n5_ n6_ n7_ n8_ n9_; clear hb hbox hg; have hnb44 := NB982_966.out; have hnc44 := NB966_982.out; have hcz45_0 : w43.cell? ⟨gb982, 0, none⟩ = some (.int .i64 0) := (blk_cell BK982.out 0).trans rfl; have hcz45_1 : w43.cell? ⟨gb982, 1, none⟩ = some (.int .i64 0) := (blk_cell BK982.out 1).trans rfl; have hcz45_2 : w43.cell? ⟨gb982, 2, none⟩ = some (.int .i64 0) := (blk_cell BK982.out 2).trans rfl; have hcz45_3 : w43.cell? ⟨gb982, 3, none⟩ = some (.int .i64 0) := (blk_cell BK982.out 3).trans rfl; have hcz45_4 : w43.cell? ⟨gb982, 4, none⟩ = some (.int .i64 0) := (blk_cell BK982.out 4).trans rfl; have hfz45_0 := blk_frozen BK982.out 0; have hfz45_1 := blk_frozen BK982.out 1; have hfz45_2 := blk_frozen BK982.out 2; have hfz45_3 := blk_frozen BK982.out 3; have hfz45_4 := blk_frozen BK982.out 4))
              have n0_ : Aside0 (Kd.R (Kd.int .i64) 3 (((((w43.setCell ⟨gb982, 0, none⟩ (.int .i64 ((rd_T31 t961 x8_2).f0))).setCell ⟨gb982, 1, none⟩ (.int .i64 ((rd_T31 t961 x8_2).f1))).setCell ⟨gb982, 2, none⟩ (.int .i64 ((rd_T31 t961 x8_2).f2))).setCell ⟨gb982, 3, none⟩ (.int .i64 ((rd_T31 t961 x8_2).f3))).setCell ⟨gb982, 4, none⟩ (.int .i64 ((rd_T31 t961 x8_2).f4))) w.heap.size (fun k_ => some k_ ≠ (v979 : Value).ownBlock) (.slice Ao41 t967.length co41) t967) := ⟨by (with_reducible repeat (first | apply Kd.R_alloc | apply Kd.R_drewN | apply Kd.R_drew)); exact Kd.R_mono (Kd.R_far (p := ⟨gb982, 4, none⟩) (Kd.R_far (p := ⟨gb982, 3, none⟩) (Kd.R_far (p := ⟨gb982, 2, none⟩) (Kd.R_far (p := ⟨gb982, 1, none⟩) (Kd.R_far (p := ⟨gb982, 0, none⟩) (Kd.R_types HO_6.out BK982.out (by decide)) (fun _ hk => hk.2) (.int .i64 ((rd_T31 t961 x8_2).f0))) (fun _ hk => hk.2) (.int .i64 ((rd_T31 t961 x8_2).f1))) (fun _ hk => hk.2) (.int .i64 ((rd_T31 t961 x8_2).f2))) (fun _ hk => hk.2) (.int .i64 ((rd_T31 t961 x8_2).f3))) (fun _ hk => hk.2) (.int .i64 ((rd_T31 t961 x8_2).f4))) (fun _ hk => hk.1)⟩
              have n1_ : Aside0 (Kd.R (Kd.int .i64) 3 (((((w43.setCell ⟨gb982, 0, none⟩ (.int .i64 ((rd_T31 t961 x8_2).f0))).setCell ⟨gb982, 1, none⟩ (.int .i64 ((rd_T31 t961 x8_2).f1))).setCell ⟨gb982, 2, none⟩ (.int .i64 ((rd_T31 t961 x8_2).f2))).setCell ⟨gb982, 3, none⟩ (.int .i64 ((rd_T31 t961 x8_2).f3))).setCell ⟨gb982, 4, none⟩ (.int .i64 ((rd_T31 t961 x8_2).f4))) w.heap.size (fun k_ => some k_ ≠ (.slice Ao41 t967.length co41 : Value).ownBlock) v979 t978) := ⟨by (with_reducible repeat (first | apply Kd.R_alloc | apply Kd.R_drewN | apply Kd.R_drew)); exact Kd.R_mono (Kd.R_far (p := ⟨gb982, 4, none⟩) (Kd.R_far (p := ⟨gb982, 3, none⟩) (Kd.R_far (p := ⟨gb982, 2, none⟩) (Kd.R_far (p := ⟨gb982, 1, none⟩) (Kd.R_far (p := ⟨gb982, 0, none⟩) (Kd.R_types HO_7.out BK982.out (by decide)) (fun _ hk => hk.2) (.int .i64 ((rd_T31 t961 x8_2).f0))) (fun _ hk => hk.2) (.int .i64 ((rd_T31 t961 x8_2).f1))) (fun _ hk => hk.2) (.int .i64 ((rd_T31 t961 x8_2).f2))) (fun _ hk => hk.2) (.int .i64 ((rd_T31 t961 x8_2).f3))) (fun _ hk => hk.2) (.int .i64 ((rd_T31 t961 x8_2).f4))) (fun _ hk => hk.1)⟩
              have n2_ : Aside0 (Kd.R k31 31 (((((w43.setCell ⟨gb982, 0, none⟩ (.int .i64 ((rd_T31 t961 x8_2).f0))).setCell ⟨gb982, 1, none⟩ (.int .i64 ((rd_T31 t961 x8_2).f1))).setCell ⟨gb982, 2, none⟩ (.int .i64 ((rd_T31 t961 x8_2).f2))).setCell ⟨gb982, 3, none⟩ (.int .i64 ((rd_T31 t961 x8_2).f3))).setCell ⟨gb982, 4, none⟩ (.int .i64 ((rd_T31 t961 x8_2).f4))) w.heap.size (fun k_ => k_ ≠ gb982) (.slice (some ad981) t961.length co9) t961) := ⟨by (with_reducible repeat (first | apply Kd.R_alloc | apply Kd.R_drewN | apply Kd.R_drew)); exact Kd.R_mono (Kd.R_far (p := ⟨gb982, 4, none⟩) (Kd.R_far (p := ⟨gb982, 3, none⟩) (Kd.R_far (p := ⟨gb982, 2, none⟩) (Kd.R_far (p := ⟨gb982, 1, none⟩) (Kd.R_far (p := ⟨gb982, 0, none⟩) (Kd.R_mono HO_967001.out (fun k_ hk => (⟨hk, hk.2⟩ : _ ∧ k_ ≠ gb982))) (fun _ hk => hk.2) (.int .i64 ((rd_T31 t961 x8_2).f0))) (fun _ hk => hk.2) (.int .i64 ((rd_T31 t961 x8_2).f1))) (fun _ hk => hk.2) (.int .i64 ((rd_T31 t961 x8_2).f2))) (fun _ hk => hk.2) (.int .i64 ((rd_T31 t961 x8_2).f3))) (fun _ hk => hk.2) (.int .i64 ((rd_T31 t961 x8_2).f4))) (fun _ hk => hk.1.2)⟩
              have n3_ : Aside0 ((((((w43.setCell ⟨gb982, 0, none⟩ (.int .i64 ((rd_T31 t961 x8_2).f0))).setCell ⟨gb982, 1, none⟩ (.int .i64 ((rd_T31 t961 x8_2).f1))).setCell ⟨gb982, 2, none⟩ (.int .i64 ((rd_T31 t961 x8_2).f2))).setCell ⟨gb982, 3, none⟩ (.int .i64 ((rd_T31 t961 x8_2).f3))).setCell ⟨gb982, 4, none⟩ (.int .i64 ((rd_T31 t961 x8_2).f4))).heap[gb966]? = some (.cells #[.int .i64 t960, .slice (some ad981) t961.length co9] 25 (0, 0))) := ⟨by (with_reducible repeat (first | refine blk_drewN ?_ _ | refine blk_drew ?_ | refine blk_alloc ?_ _)); refine blk_far ?_ NB966_982.out _; (with_reducible repeat (first | refine blk_drewN ?_ _ | refine blk_drew ?_ | refine blk_alloc ?_ _)); refine blk_far ?_ NB966_982.out _; (with_reducible repeat (first | refine blk_drewN ?_ _ | refine blk_drew ?_ | refine blk_alloc ?_ _)); refine blk_far ?_ NB966_982.out _; (with_reducible repeat (first | refine blk_drewN ?_ _ | refine blk_drew ?_ | refine blk_alloc ?_ _)); refine blk_far ?_ NB966_982.out _; (with_reducible repeat (first | refine blk_drewN ?_ _ | refine blk_drew ?_ | refine blk_alloc ?_ _)); refine blk_far ?_ NB966_982.out _; (with_reducible repeat (first | refine blk_drewN ?_ _ | refine blk_drew ?_ | refine blk_alloc ?_ _)); exact BK966.out⟩
              have n4_ : Aside0 ((((((w43.setCell ⟨gb982, 0, none⟩ (.int .i64 ((rd_T31 t961 x8_2).f0))).setCell ⟨gb982, 1, none⟩ (.int .i64 ((rd_T31 t961 x8_2).f1))).setCell ⟨gb982, 2, none⟩ (.int .i64 ((rd_T31 t961 x8_2).f2))).setCell ⟨gb982, 3, none⟩ (.int .i64 ((rd_T31 t961 x8_2).f3))).setCell ⟨gb982, 4, none⟩ (.int .i64 ((rd_T31 t961 x8_2).f4))).heap[gb982]? = some (.cells #[.int .i64 ((rd_T31 t961 x8_2).f0), .int .i64 ((rd_T31 t961 x8_2).f1), .int .i64 ((rd_T31 t961 x8_2).f2), .int .i64 ((rd_T31 t961 x8_2).f3), .int .i64 ((rd_T31 t961 x8_2).f4)] 31 (0, 0))) := ⟨by (with_reducible repeat (first | refine blk_drewN ?_ _ | refine blk_drew ?_ | refine blk_alloc ?_ _)); refine blk_put (cs := #[.int .i64 ((rd_T31 t961 x8_2).f0), .int .i64 ((rd_T31 t961 x8_2).f1), .int .i64 ((rd_T31 t961 x8_2).f2), .int .i64 ((rd_T31 t961 x8_2).f3), .int .i64 0]) ?_ 4 _ rfl; (with_reducible repeat (first | refine blk_drewN ?_ _ | refine blk_drew ?_ | refine blk_alloc ?_ _)); refine blk_put (cs := #[.int .i64 ((rd_T31 t961 x8_2).f0), .int .i64 ((rd_T31 t961 x8_2).f1), .int .i64 ((rd_T31 t961 x8_2).f2), .int .i64 0, .int .i64 0]) ?_ 3 _ rfl; (with_reducible repeat (first | refine blk_drewN ?_ _ | refine blk_drew ?_ | refine blk_alloc ?_ _)); refine blk_put (cs := #[.int .i64 ((rd_T31 t961 x8_2).f0), .int .i64 ((rd_T31 t961 x8_2).f1), .int .i64 0, .int .i64 0, .int .i64 0]) ?_ 2 _ rfl; (with_reducible repeat (first | refine blk_drewN ?_ _ | refine blk_drew ?_ | refine blk_alloc ?_ _)); refine blk_put (cs := #[.int .i64 ((rd_T31 t961 x8_2).f0), .int .i64 0, .int .i64 0, .int .i64 0, .int .i64 0]) ?_ 1 _ rfl; (with_reducible repeat (first | refine blk_drewN ?_ _ | refine blk_drew ?_ | refine blk_alloc ?_ _)); refine blk_put (cs := #[.int .i64 0, .int .i64 0, .int .i64 0, .int .i64 0, .int .i64 0]) ?_ 0 _ rfl; (with_reducible repeat (first | refine blk_drewN ?_ _ | refine blk_drew ?_ | refine blk_alloc ?_ _)); exact BK982.out⟩
              have n5_ : Aside0 (Below w.heap.size w (((((w43.setCell ⟨gb982, 0, none⟩ (.int .i64 ((rd_T31 t961 x8_2).f0))).setCell ⟨gb982, 1, none⟩ (.int .i64 ((rd_T31 t961 x8_2).f1))).setCell ⟨gb982, 2, none⟩ (.int .i64 ((rd_T31 t961 x8_2).f2))).setCell ⟨gb982, 3, none⟩ (.int .i64 ((rd_T31 t961 x8_2).f3))).setCell ⟨gb982, 4, none⟩ (.int .i64 ((rd_T31 t961 x8_2).f4)))) := ⟨bl2 HB GE966 GE982⟩
              (try clear HO_6)
              (try clear HO_7)
              (try clear HO_967001)
              (try clear BK966)
              (try clear BK982)
              (try clear HB)
              generalize (((((w43.setCell ⟨gb982, 0, none⟩ (.int .i64 ((rd_T31 t961 x8_2).f0))).setCell ⟨gb982, 1, none⟩ (.int .i64 ((rd_T31 t961 x8_2).f1))).setCell ⟨gb982, 2, none⟩ (.int .i64 ((rd_T31 t961 x8_2).f2))).setCell ⟨gb982, 3, none⟩ (.int .i64 ((rd_T31 t961 x8_2).f3))).setCell ⟨gb982, 4, none⟩ (.int .i64 ((rd_T31 t961 x8_2).f4))) = w46 at n0_ n1_ n2_ n3_ n4_ n5_ ⊢
              have HO_6 := n0_
              have HO_7 := n1_
              have HO_967001 := n2_
              have BK966 := n3_
              have BK982 := n4_
              have HB := n5_
              clear n0_ n1_ n2_ n3_ n4_ n5_
              have n0_ := Aside0.mk (Kd.R_drew HO_6.out)
              have n1_ := Aside0.mk (Kd.R_drew HO_7.out)
              have n2_ := Aside0.mk (Kd.R_drew HO_967001.out)
              have n3_ := Aside0.mk (blk_drew BK966.out)
              have n4_ := Aside0.mk (blk_drew BK982.out)
              have n5_ := Aside0.mk (below_drew1 HB.out)
              clear HO_6
              clear HO_7
              clear HO_967001
              clear BK966
              clear BK982
              clear HB
              have HO_6 := n0_
              have HO_7 := n1_
              have HO_967001 := n2_
              have BK966 := n3_
              have BK982 := n4_
              have HB := n5_
              clear n0_ n1_ n2_ n3_ n4_ n5_
              have p983 : 0 ≤ (x8_2 : Int) := oT (by first | (with_reducible assumption) | assumption)
              have q983 : x8_2 < (t967.length : Int) := oT (by first | (with_reducible assumption) | assumption)
              obtain ⟨ad983, e983, hx983_0⟩ := Kd.at_int (Kd.R_reads' HO_6.out).2.2 x8_2 p983 q983
              cases e983
              replace p983 := eq_true p983
              replace q983 := eq_true q983
              obtain ⟨Ao48, co48, eo48⟩ := Kd.R_slice HO_7.out
              (first | subst eo48 | (injection eo48 with f1_ f2_ f3_; have f4_ := f1_.symm; have f5_ := f3_.symm; clear f1_ f2_ f3_; subst f4_; subst f5_))
              have p985 : 0 ≤ (x8_2 : Int) := oT (by first | (with_reducible assumption) | assumption)
              have q985 : x8_2 < (t967.length : Int) := oT (by first | (with_reducible assumption) | assumption)
              obtain ⟨ad985, e985, hx985_0⟩ := Kd.at_int (Kd.R_reads' HO_6.out).2.2 x8_2 p985 q985
              obtain rfl : ad983 = ad985 := (by injection e985)
              replace p985 := eq_true p985
              replace q985 := eq_true q985
              have p986 : 0 ≤ (x8_2 : Int) := oT (by first | (with_reducible assumption) | assumption)
              have q986 : x8_2 < (t967.length : Int) := oT (by first | (with_reducible assumption) | assumption)
              obtain ⟨ad986, e986, hx986_0⟩ := Kd.at_int (Kd.R_reads' HO_6.out).2.2 x8_2 p986 q986
              obtain rfl : ad983 = ad986 := (by injection e986)
              replace p986 := eq_true p986
              replace q986 := eq_true q986
              refine start_ (n := 35) (S := fun w' => w'.cell? ⟨gb982, 0, none⟩ = some (.int .i64 ((rd_T31 t961 x8_2).f0)) ∧ w'.cell? ⟨gb982, 1, none⟩ = some (.int .i64 ((rd_T31 t961 x8_2).f1)) ∧ w'.cell? ⟨gb982, 2, none⟩ = some (.int .i64 ((rd_T31 t961 x8_2).f2)) ∧ w'.cell? ⟨gb982, 3, none⟩ = some (.int .i64 ((rd_T31 t961 x8_2).f3)) ∧ w'.cell? ⟨gb982, 4, none⟩ = some (.int .i64 ((rd_T31 t961 x8_2).f4)) ∧ w'.cell? (ad983.add (x8_2).toNat) = some (.int .i64 (rd t967 x8_2)) ∧ w'.cell? (ad983.add (x8_2).toNat) = some (.int .i64 (rd t967 x8_2)) ∧ w'.cell? (ad983.add (x8_2).toNat) = some (.int .i64 (rd t967 x8_2))) (ds := []) (ms 35 0) (by kernel_rfl) rfl (by kernel_rfl) ⟨(blk_cell BK982.out 0).trans rfl, (blk_cell BK982.out 1).trans rfl, (blk_cell BK982.out 2).trans rfl, (blk_cell BK982.out 3).trans rfl, (blk_cell BK982.out 4).trans rfl, hx983_0, hx985_0, hx986_0⟩ (fun hHeld => ?_); refine with_tabW laws_FnReachArcs.tab12 laws_FnReachArcs.bits12 (fun HT_ HW_ => ?_)
              generalize w46.drew = w47 at HO_6 HO_7 HO_967001 BK966 BK982 HB hx983_0 hx985_0 hx986_0 hHeld ⊢
              refine pure_ (i := 0) (N := some 56) (v := ?_) (a' := ?_) (ms 35 1) rfl rfl (any_of HT_.out (by kernel_rfl)) (fun _ _ _ h => h) (Or.inl ⟨by rfl, ?_⟩) ?_ ?_
              rotate_left
              ·intro w'
               go_simp
               with_reducible rfl
              rotate_left
              ·simp only [Act.put, sA, sB, sC, i64_w, i32_w]
               rfl
              refine pure_ (i := 1) (N := some 57) (v := ?_) (a' := ?_) (ms 35 3) rfl rfl (any_of HT_.out (by kernel_rfl)) (fun _ _ _ h => h) (Or.inl ⟨by rfl, ?_⟩) ?_ ?_
              rotate_left
              ·intro w'
               go_simp
               with_reducible rfl
              rotate_left
              ·simp only [Act.put, sA, sB, sC, i64_w, i32_w]
               rfl
              refine pure_ (i := 2) (N := some 58) (v := ?_) (a' := ?_) (ms 35 7) rfl rfl (any_of HT_.out (by kernel_rfl)) (fun _ _ _ h => h) (Or.inl ⟨by rfl, ?_⟩) ?_ ?_
              rotate_left
              ·intro w'
               go_simp
               with_reducible rfl
              rotate_left
              ·simp only [Act.put, sA, sB, sC, i64_w, i32_w]
               rfl
              refine pure_ (i := 5) (N := some 61) (v := ?_) (a' := ?_) (ms 35 39) rfl rfl (any_of HT_.out (by kernel_rfl)) (fun _ _ _ h => h) (Or.inl ⟨by rfl, ?_⟩) ?_ ?_
              rotate_left
              ·intro w'
               go_simp
               with_reducible rfl
              rotate_left
              ·simp only [Act.put, sA, sB, sC, i64_w, i32_w]
               rfl
              refine pure_ (i := 6) (N := some 62) (v := ?_) (a' := ?_) (ms 35 103) rfl rfl (any_of HT_.out (by kernel_rfl)) (fun _ _ _ h => h) (Or.inl ⟨by rfl, ?_⟩) ?_ ?_
              rotate_left
              ·intro w'
               go_simp
               with_reducible rfl
              rotate_left
              ·simp only [Act.put, sA, sB, sC, i64_w, i32_w]
               rfl
              refine take_ (i := 3) (N := some 59) (v := ?_) (a' := ?_) (ms 35 111) rfl rfl (take_ofW HT_.out HW_.out (by kernel_rfl)) (fun _ _ _ h => h) (Or.inl ⟨by rfl, ?_⟩) hHeld ?_ ?_
              rotate_left
              ·rintro w' ⟨s0, s1, s2, s3, s4, s5, s6, s7⟩
               go_simp
               with_reducible rfl
              rotate_left
              ·simp only [Act.put, sA, sB, sC, i64_w, i32_w]
               rfl
              refine pure_ (i := 4) (N := some 60) (v := ?_) (a' := ?_) (ms 35 127) rfl rfl (any_of HT_.out (by kernel_rfl)) (fun _ _ _ h => h) (Or.inl ⟨by rfl, ?_⟩) ?_ ?_
              rotate_left
              ·intro w'
               go_simp
               with_reducible rfl
              rotate_left
              ·simp only [Act.put, sA, sB, sC, i64_w, i32_w]
               rfl
              refine take_ (i := 7) (N := some 63) (v := ?_) (a' := ?_) (ms 35 255) rfl rfl (take_ofW HT_.out HW_.out (by kernel_rfl)) (fun _ _ _ h => h) (Or.inl ⟨by rfl, ?_⟩) hHeld ?_ ?_
              rotate_left
              ·rintro w' ⟨s0, s1, s2, s3, s4, s5, s6, s7⟩
               go_simp
               with_reducible rfl
              rotate_left
              ·simp only [Act.put, sA, sB, sC, i64_w, i32_w]
               rfl
              refine one_ (i := 8) (N := some 64) (ms 35 511) rfl rfl (one_of HT_.out (by kernel_rfl)) (by decide) (fun K hK => ?_)
              refine goes_ Try.func53 (by kernel_rfl) rfl #[.slice Ao48 t978.length co48, .int .i64 ((rd_T31 t961 x8_2).f0)] (by rfl) rfl rfl (by (try simp only [List.map_toArray, List.map_cons, List.map_nil]); first | done | rfl | (simp only [List.length_drop, List.length_take]; rfl)) ?_
              with_reducible refine (laws_wkIn.calls k2 _ _ t978 ((rd_T31 t961 x8_2).f0) t984 _ ?side1 ?side2 A35.out).mono ?_
              (case side1 => repeat (first | exact (Kd.R_reads' HO_7.out).2.2 | (with_reducible refine Kd.C_alloc ?_ _) | (with_reducible refine Kd.C_drewN ?_ _) | (with_reducible refine Kd.C_drew ?_)))
              (case side2 => exact (Kd.R_reads' HO_7.out).2.1)
              rintro e w' ⟨rfl, ⟨nd, rfl⟩⟩
              refine ⟨_, rfl, ?_⟩
              refine hK.out _ _ ⟨(blk_cell BK982.out 0).trans rfl, (blk_cell BK982.out 1).trans rfl, (blk_cell BK982.out 2).trans rfl, (blk_cell BK982.out 3).trans rfl, (blk_cell BK982.out 4).trans rfl, hHeld.2.2.2.2.2.1, hHeld.2.2.2.2.2.2.1, hHeld.2.2.2.2.2.2.2⟩ (fun hHeld => ?_)
              clear hK K
              refine norm_ (a' := ?_) ?_ ?_
              rotate_left
              ·show Act.put _ (some 64) _ = _
               simp only [Act.put, sA, sB, sC, i64_w, i32_w]
               rfl
              refine pure_ (i := 9) (N := some 65) (v := ?_) (a' := ?_) (ms 35 1023) rfl rfl (any_of HT_.out (by kernel_rfl)) (fun _ _ _ h => h) (Or.inl ⟨by rfl, ?_⟩) ?_ ?_
              rotate_left
              ·intro w'
               go_simp
               with_reducible rfl
              rotate_left
              ·simp only [Act.put, sA, sB, sC, i64_w, i32_w]
               rfl
              refine pure_ (i := 10) (N := some 66) (v := ?_) (a' := ?_) (ms 35 2047) rfl rfl (any_of HT_.out (by kernel_rfl)) (fun _ _ _ h => h) (Or.inl ⟨by rfl, ?_⟩) ?_ ?_
              rotate_left
              ·intro w'
               go_simp
               with_reducible rfl
              rotate_left
              ·simp only [Act.put, sA, sB, sC, i64_w, i32_w]
               rfl
              refine pure_ (i := 11) (N := some 67) (v := ?_) (a' := ?_) (ms 35 4095) rfl rfl (any_of HT_.out (by kernel_rfl)) (fun _ _ _ h => h) (Or.inl ⟨by rfl, ?_⟩) ?_ ?_
              rotate_left
              ·intro w'
               go_simp
               with_reducible rfl
              rotate_left
              ·simp only [Act.put, sA, sB, sC, i64_w, i32_w]
               rfl
              refine pure_ (i := 12) (N := some 68) (v := ?_) (a' := ?_) (ms 35 8191) rfl rfl (any_of HT_.out (by kernel_rfl)) (fun _ _ _ h => h) (Or.inl ⟨by rfl, ?_⟩) ?_ ?_
              rotate_left
              ·intro w'
               go_simp
               with_reducible rfl
              rotate_left
              ·simp only [Act.put, sA, sB, sC, i64_w, i32_w]
               rfl
              refine pure_ (i := 13) (N := some 69) (v := ?_) (a' := ?_) (ms 35 16383) rfl rfl (any_of HT_.out (by kernel_rfl)) (fun _ _ _ h => h) (Or.inl ⟨by rfl, ?_⟩) ?_ ?_
              rotate_left
              ·intro w'
               go_simp
               with_reducible rfl
              rotate_left
              ·simp only [Act.put, sA, sB, sC, i64_w, i32_w]
               rfl
              refine pure_ (i := 15) (N := some 71) (v := ?_) (a' := ?_) (ms 35 49151) rfl rfl (any_of HT_.out (by kernel_rfl)) (fun _ _ _ h => h) (Or.inl ⟨by rfl, ?_⟩) ?_ ?_
              rotate_left
              ·intro w'
               go_simp
               with_reducible rfl
              rotate_left
              ·simp only [Act.put, sA, sB, sC, i64_w, i32_w]
               rfl
              refine take_ (i := 14) (N := some 70) (v := ?_) (a' := ?_) (ms 35 65535) rfl rfl (take_ofW HT_.out HW_.out (by kernel_rfl)) (fun _ _ _ h => h) (Or.inl ⟨by rfl, ?_⟩) hHeld ?_ ?_
              rotate_left
              ·rintro w' ⟨s0, s1, s2, s3, s4, s5, s6, s7⟩
               go_simp
               with_reducible rfl
              rotate_left
              ·simp only [Act.put, sA, sB, sC, i64_w, i32_w]
               rfl
              refine take_ (i := 16) (N := some 72) (v := ?_) (a' := ?_) (ms 35 131071) rfl rfl (take_ofW HT_.out HW_.out (by kernel_rfl)) (fun _ _ _ h => h) (Or.inl ⟨by rfl, ?_⟩) hHeld ?_ ?_
              rotate_left
              ·rintro w' ⟨s0, s1, s2, s3, s4, s5, s6, s7⟩
               go_simp
               with_reducible rfl
              rotate_left
              ·simp only [Act.put, sA, sB, sC, i64_w, i32_w]
               rfl
              refine pure_ (i := 17) (N := some 73) (v := ?_) (a' := ?_) (ms 35 262143) rfl rfl (any_of HT_.out (by kernel_rfl)) (fun _ _ _ h => h) (Or.inl ⟨by rfl, ?_⟩) ?_ ?_
              rotate_left
              ·intro w'
               go_simp
               with_reducible rfl
              rotate_left
              ·simp only [Act.put, sA, sB, sC, i64_w, i32_w]
               rfl
              refine pure_ (i := 18) (N := some 74) (v := ?_) (a' := ?_) (ms 35 524287) rfl rfl (any_of HT_.out (by kernel_rfl)) (fun _ _ _ h => h) (Or.inl ⟨by rfl, ?_⟩) ?_ ?_
              rotate_left
              ·intro w'
               go_simp
               with_reducible rfl
              rotate_left
              ·simp only [Act.put, sA, sB, sC, i64_w, i32_w]
               rfl
              refine pure_ (i := 19) (N := some 75) (v := ?_) (a' := ?_) (ms 35 1048575) rfl rfl (any_of HT_.out (by kernel_rfl)) (fun _ _ _ h => h) (Or.inl ⟨by rfl, ?_⟩) ?_ ?_
              rotate_left
              ·intro w'
               go_simp
               with_reducible rfl
              rotate_left
              ·simp only [Act.put, sA, sB, sC, i64_w, i32_w]
               rfl
              refine pure_ (i := 20) (N := some 76) (v := ?_) (a' := ?_) (ms 35 2097151) rfl rfl (any_of HT_.out (by kernel_rfl)) (fun _ _ _ h => h) (Or.inl ⟨by rfl, ?_⟩) ?_ ?_
              rotate_left
              ·intro w'
               go_simp
               with_reducible rfl
              rotate_left
              ·simp only [Act.put, sA, sB, sC, i64_w, i32_w]
               rfl
              refine pure_ (i := 21) (N := some 77) (v := ?_) (a' := ?_) (ms 35 4194303) rfl rfl (any_of HT_.out (by kernel_rfl)) (fun _ _ _ h => h) (Or.inl ⟨by rfl, ?_⟩) ?_ ?_
              rotate_left
              ·intro w'
               go_simp
               with_reducible rfl
              rotate_left
              ·simp only [Act.put, sA, sB, sC, i64_w, i32_w]
               rfl
              refine pure_ (i := 22) (N := some 78) (v := ?_) (a' := ?_) (ms 35 8388607) rfl rfl (any_of HT_.out (by kernel_rfl)) (fun _ _ _ h => h) (Or.inl ⟨by rfl, ?_⟩) ?_ ?_
              rotate_left
              ·intro w'
               go_simp
               with_reducible rfl
              rotate_left
              ·simp only [Act.put, sA, sB, sC, i64_w, i32_w]
               rfl
              refine pure_ (i := 24) (N := some 80) (v := ?_) (a' := ?_) (ms 35 25165823) rfl rfl (any_of HT_.out (by kernel_rfl)) (fun _ _ _ h => h) (Or.inl ⟨by rfl, ?_⟩) ?_ ?_
              rotate_left
              ·intro w'
               go_simp
               with_reducible rfl
              rotate_left
              ·simp only [Act.put, sA, sB, sC, i64_w, i32_w]
               rfl
              refine take_ (i := 23) (N := some 79) (v := ?_) (a' := ?_) (ms 35 33554431) rfl rfl (take_ofW HT_.out HW_.out (by kernel_rfl)) (fun _ _ _ h => h) (Or.inl ⟨by rfl, ?_⟩) hHeld ?_ ?_
              rotate_left
              ·rintro w' ⟨s0, s1, s2, s3, s4, s5, s6, s7⟩
               go_simp
               with_reducible rfl
              rotate_left
              ·simp only [Act.put, sA, sB, sC, i64_w, i32_w]
               rfl
              refine take_ (i := 25) (N := some 81) (v := ?_) (a' := ?_) (ms 35 67108863) rfl rfl (take_ofW HT_.out HW_.out (by kernel_rfl)) (fun _ _ _ h => h) (Or.inl ⟨by rfl, ?_⟩) hHeld ?_ ?_
              rotate_left
              ·rintro w' ⟨s0, s1, s2, s3, s4, s5, s6, s7⟩
               go_simp
               with_reducible rfl
              rotate_left
              ·simp only [Act.put, sA, sB, sC, i64_w, i32_w]
               rfl
              refine pure_ (i := 26) (N := some 82) (v := ?_) (a' := ?_) (ms 35 134217727) rfl rfl (any_of HT_.out (by kernel_rfl)) (fun _ _ _ h => h) (Or.inl ⟨by rfl, ?_⟩) ?_ ?_
              rotate_left
              ·intro w'
               go_simp
               with_reducible rfl
              rotate_left
              ·simp only [Act.put, sA, sB, sC, i64_w, i32_w]
               rfl
              refine pure_ (i := 27) (N := some 83) (v := ?_) (a' := ?_) (ms 35 268435455) rfl rfl (any_of HT_.out (by kernel_rfl)) (fun _ _ _ h => h) (Or.inl ⟨by rfl, ?_⟩) ?_ ?_
              rotate_left
              ·intro w'
               go_simp
               with_reducible rfl
              rotate_left
              ·simp only [Act.put, sA, sB, sC, i64_w, i32_w]
               rfl
              refine pure_ (i := 28) (N := some 84) (v := ?_) (a' := ?_) (ms 35 536870911) rfl rfl (any_of HT_.out (by kernel_rfl)) (fun _ _ _ h => h) (Or.inl ⟨by rfl, ?_⟩) ?_ ?_
              rotate_left
              ·intro w'
               go_simp
               with_reducible rfl
              rotate_left
              ·simp only [Act.put, sA, sB, sC, i64_w, i32_w]
               rfl
              refine pure_ (i := 29) (N := some 85) (v := ?_) (a' := ?_) (ms 35 1073741823) rfl rfl (any_of HT_.out (by kernel_rfl)) (fun _ _ _ h => h) (Or.inl ⟨by rfl, ?_⟩) ?_ ?_
              rotate_left
              ·intro w'
               go_simp
               with_reducible rfl
              rotate_left
              ·simp only [Act.put, sA, sB, sC, i64_w, i32_w]
               rfl
              refine take_ (i := 30) (N := some 86) (v := ?_) (a' := ?_) (ms 35 2147483647) rfl rfl (take_ofW HT_.out HW_.out (by kernel_rfl)) (fun _ _ _ h => h) (Or.inl ⟨by rfl, ?_⟩) hHeld ?_ ?_
              rotate_left
              ·rintro w' ⟨s0, s1, s2, s3, s4, s5, s6, s7⟩
               go_simp
               with_reducible rfl
              rotate_left
              ·simp only [Act.put, sA, sB, sC, i64_w, i32_w]
               rfl
              refine one_ (i := 31) (N := some 87) (ms 35 4294967295) rfl rfl (one_of HT_.out (by kernel_rfl)) (by decide) (fun K hK => ?_)
              refine goes_ Try.func53 (by kernel_rfl) rfl #[.slice Ao48 t978.length co48, .int .i64 ((rd_T31 t961 x8_2).f1)] (by rfl) rfl rfl (by (try simp only [List.map_toArray, List.map_cons, List.map_nil]); first | done | rfl | (simp only [List.length_drop, List.length_take]; rfl)) ?_
              with_reducible refine (laws_wkIn.calls k2 _ _ t978 ((rd_T31 t961 x8_2).f1) true _ ?side1 ?side2 A39.out).mono ?_
              (case side1 => repeat (first | exact (Kd.R_reads' HO_7.out).2.2 | (with_reducible refine Kd.C_alloc ?_ _) | (with_reducible refine Kd.C_drewN ?_ _) | (with_reducible refine Kd.C_drew ?_)))
              (case side2 => exact (Kd.R_reads' HO_7.out).2.1)
              rintro e w' ⟨rfl, ⟨nd, rfl⟩⟩
              refine ⟨_, rfl, ?_⟩
              refine hK.out _ _ ⟨(blk_cell BK982.out 0).trans rfl, (blk_cell BK982.out 1).trans rfl, (blk_cell BK982.out 2).trans rfl, (blk_cell BK982.out 3).trans rfl, (blk_cell BK982.out 4).trans rfl, hHeld.2.2.2.2.2.1, hHeld.2.2.2.2.2.2.1, hHeld.2.2.2.2.2.2.2⟩ (fun hHeld => ?_)
              clear hK K
              refine norm_ (a' := ?_) ?_ ?_
              rotate_left
              ·show Act.put _ (some 87) _ = _
               simp only [Act.put, sA, sB, sC, i64_w, i32_w]
               rfl
              refine pure_ (i := 32) (N := some 88) (v := ?_) (a' := ?_) (ms 35 8589934591) rfl rfl (any_of HT_.out (by kernel_rfl)) (fun _ _ _ h => h) (Or.inl ⟨by rfl, ?_⟩) ?_ ?_
              rotate_left
              ·intro w'
               go_simp
               with_reducible rfl
              rotate_left
              ·simp only [Act.put, sA, sB, sC, i64_w, i32_w]
               rfl
              refine pure_ (i := 33) (N := some 89) (v := ?_) (a' := ?_) (ms 35 17179869183) rfl rfl (any_of HT_.out (by kernel_rfl)) (fun _ _ _ h => h) (Or.inl ⟨by rfl, ?_⟩) ?_ ?_
              rotate_left
              ·intro w'
               go_simp
               with_reducible rfl
              rotate_left
              ·simp only [Act.put, sA, sB, sC, i64_w, i32_w]
               rfl
              refine pure_ (i := 34) (N := some 90) (v := ?_) (a' := ?_) (ms 35 34359738367) rfl rfl (any_of HT_.out (by kernel_rfl)) (fun _ _ _ h => h) (Or.inl ⟨by rfl, ?_⟩) ?_ ?_
              rotate_left
              ·intro w'
               go_simp
               with_reducible rfl
              rotate_left
              ·simp only [Act.put, sA, sB, sC, i64_w, i32_w]
               rfl
              refine done_ (done_of HT_.out (by kernel_rfl)) ?_
              try go_wp2
              go_roundg k2
              case measure => have := HJ4.out; have := HK2.out; omega
              case rel => exact ⟨(wrap64 (x8_2 + 1)), (by first | rfl | (simp; done) | (simp [*]; done)), H', ⟨by have := HJ4.out; have := HK2.out; omega⟩, ⟨rk HO_6⟩, ⟨rk HO_7⟩, ⟨by (with_reducible repeat (first | apply Kd.R_alloc | apply Kd.R_drewN | apply Kd.R_drew)); exact Kd.R_mono HO_967001.out (fun _ hk => trivial)⟩, ⟨bk BK966⟩, ⟨bl2 HB GE966 GE982⟩⟩
             ·replace c40 := Bool.eq_false_iff.mpr c40
              subst c40
              rw [if_neg (show ¬ (false = true) by decide)] at H
              exact absurd ((Option.some.inj H).trans hr_) Bool.false_ne_true
            ·rw [if_neg c38] at H
             have c38b0 : ((rd t967 x8_2) == ((rd_T31 t961 x8_2).f2)) = false := beq_eq_false_iff_ne.mpr c38
             have c38b1 : ((rd t967 x8_2) != ((rd_T31 t961 x8_2).f2)) = true := bne_iff_ne.mpr c38
             have H' := Aside0.mk H
             clear H
             obtain ⟨Ao49, co49, eo49⟩ := Kd.R_slice HO_6.out
             subst eo49
             have hcz50_0 : wr.cell? ⟨gb966, 0, none⟩ = some (.int .i64 t960) := (blk_cell BK966.out 0).trans rfl
             have hcz50_1 : wr.cell? ⟨gb966, 1, none⟩ = some (.slice Ao9 t961.length co9) := (blk_cell BK966.out 1).trans rfl
             have hfz50_0 := blk_frozen BK966.out 0
             have hfz50_1 := blk_frozen BK966.out 1
             have p981 : 0 ≤ (x8_2 : Int) := oT (by first | (with_reducible assumption) | assumption)
             have q981 : x8_2 < (t961.length : Int) := oT (by first | (with_reducible assumption) | assumption)
             obtain ⟨ad981, e981, hx981_0, hx981_1, hx981_2, hx981_3, hx981_4⟩ := at_T31 (Kd.R_reads' HO_967001.out).2.2 x8_2 p981 q981
             cases e981
             replace p981 := eq_true p981
             replace q981 := eq_true q981
             try go_wp2_with (first | ((with_reducible refine gate_dst (N := 9) rfl ?_); refine box_event ?hg (N := 9) ?hd (cs := #[.int .i64 0, .int .i64 0, .int .i64 0, .int .i64 0, .int .i64 0]) (t := 31) ?hr ?_; (case hd => rfl); (case hg => rfl); (case hr => first | (go_simp; done) | (go_simp; rfl)); intro gb982 hg w51 hbox hb; have n0_ := Aside0.mk (Kd.R_below (rk HO_6) hb); have n1_ := Aside0.mk (Kd.R_below (rk HO_7) hb); have n2_ := Aside0.mk (Kd.R_below (Kd.R_elderB (rk HO_967001) gb982 (Nat.le_of_eq hg.symm)) hb); have n3_ := Aside0.mk (blk_below (bk BK966) hb); have n4_ := Aside0.mk (below_step (bl1 HB GE966) hb); have n5_ := Aside0.mk (hbox); have n6_ := Aside0.mk ((by rw [hg]; exact (below_size (bl1 HB GE966)) : w.heap.size ≤ gb982)); have n7_ := Aside0.mk ((by rw [hg]; exact (below_size (bl1 HB GE966)) : w.heap.size ≤ gb982)); have n8_ := Aside0.mk ((by rw [hg]; exact Nat.ne_of_lt (blk_lt (bk BK966)) : gb966 ≠ gb982)); have n9_ := Aside0.mk ((by rw [hg]; exact Nat.ne_of_gt (blk_lt (bk BK966)) : gb982 ≠ gb966)); clear HO_6; clear HO_7; clear HO_967001; clear BK966; clear HB; have HO_6 := n0_; have HO_7 := n1_; have HO_967001 := n2_; have BK966 := n3_; have HB := n4_; have BK982 := n5_; have GW982 := n6_; have GE982 := n7_; have NB966_982 := n8_; have NB982_966 := n9_; clear n0_ n1_ n2_ n3_ n4_ n5_ n6_ n7_ n8_ n9_; clear hb hbox hg; have hnb52 := NB982_966.out; have hnc52 := NB966_982.out; have hcz53_0 : w51.cell? ⟨gb982, 0, none⟩ = some (.int .i64 0) := (blk_cell BK982.out 0).trans rfl; have hcz53_1 : w51.cell? ⟨gb982, 1, none⟩ = some (.int .i64 0) := (blk_cell BK982.out 1).trans rfl; have hcz53_2 : w51.cell? ⟨gb982, 2, none⟩ = some (.int .i64 0) := (blk_cell BK982.out 2).trans rfl; have hcz53_3 : w51.cell? ⟨gb982, 3, none⟩ = some (.int .i64 0) := (blk_cell BK982.out 3).trans rfl; have hcz53_4 : w51.cell? ⟨gb982, 4, none⟩ = some (.int .i64 0) := (blk_cell BK982.out 4).trans rfl; have hfz53_0 := blk_frozen BK982.out 0; have hfz53_1 := blk_frozen BK982.out 1; have hfz53_2 := blk_frozen BK982.out 2; have hfz53_3 := blk_frozen BK982.out 3; have hfz53_4 := blk_frozen BK982.out 4))
             have n0_ : Aside0 (Kd.R (Kd.int .i64) 3 (((((w51.setCell ⟨gb982, 0, none⟩ (.int .i64 ((rd_T31 t961 x8_2).f0))).setCell ⟨gb982, 1, none⟩ (.int .i64 ((rd_T31 t961 x8_2).f1))).setCell ⟨gb982, 2, none⟩ (.int .i64 ((rd_T31 t961 x8_2).f2))).setCell ⟨gb982, 3, none⟩ (.int .i64 ((rd_T31 t961 x8_2).f3))).setCell ⟨gb982, 4, none⟩ (.int .i64 ((rd_T31 t961 x8_2).f4))) w.heap.size (fun k_ => some k_ ≠ (v979 : Value).ownBlock) (.slice Ao49 t967.length co49) t967) := ⟨by (with_reducible repeat (first | apply Kd.R_alloc | apply Kd.R_drewN | apply Kd.R_drew)); exact Kd.R_mono (Kd.R_far (p := ⟨gb982, 4, none⟩) (Kd.R_far (p := ⟨gb982, 3, none⟩) (Kd.R_far (p := ⟨gb982, 2, none⟩) (Kd.R_far (p := ⟨gb982, 1, none⟩) (Kd.R_far (p := ⟨gb982, 0, none⟩) (Kd.R_types HO_6.out BK982.out (by decide)) (fun _ hk => hk.2) (.int .i64 ((rd_T31 t961 x8_2).f0))) (fun _ hk => hk.2) (.int .i64 ((rd_T31 t961 x8_2).f1))) (fun _ hk => hk.2) (.int .i64 ((rd_T31 t961 x8_2).f2))) (fun _ hk => hk.2) (.int .i64 ((rd_T31 t961 x8_2).f3))) (fun _ hk => hk.2) (.int .i64 ((rd_T31 t961 x8_2).f4))) (fun _ hk => hk.1)⟩
             have n1_ : Aside0 (Kd.R (Kd.int .i64) 3 (((((w51.setCell ⟨gb982, 0, none⟩ (.int .i64 ((rd_T31 t961 x8_2).f0))).setCell ⟨gb982, 1, none⟩ (.int .i64 ((rd_T31 t961 x8_2).f1))).setCell ⟨gb982, 2, none⟩ (.int .i64 ((rd_T31 t961 x8_2).f2))).setCell ⟨gb982, 3, none⟩ (.int .i64 ((rd_T31 t961 x8_2).f3))).setCell ⟨gb982, 4, none⟩ (.int .i64 ((rd_T31 t961 x8_2).f4))) w.heap.size (fun k_ => some k_ ≠ (.slice Ao49 t967.length co49 : Value).ownBlock) v979 t978) := ⟨by (with_reducible repeat (first | apply Kd.R_alloc | apply Kd.R_drewN | apply Kd.R_drew)); exact Kd.R_mono (Kd.R_far (p := ⟨gb982, 4, none⟩) (Kd.R_far (p := ⟨gb982, 3, none⟩) (Kd.R_far (p := ⟨gb982, 2, none⟩) (Kd.R_far (p := ⟨gb982, 1, none⟩) (Kd.R_far (p := ⟨gb982, 0, none⟩) (Kd.R_types HO_7.out BK982.out (by decide)) (fun _ hk => hk.2) (.int .i64 ((rd_T31 t961 x8_2).f0))) (fun _ hk => hk.2) (.int .i64 ((rd_T31 t961 x8_2).f1))) (fun _ hk => hk.2) (.int .i64 ((rd_T31 t961 x8_2).f2))) (fun _ hk => hk.2) (.int .i64 ((rd_T31 t961 x8_2).f3))) (fun _ hk => hk.2) (.int .i64 ((rd_T31 t961 x8_2).f4))) (fun _ hk => hk.1)⟩
             have n2_ : Aside0 (Kd.R k31 31 (((((w51.setCell ⟨gb982, 0, none⟩ (.int .i64 ((rd_T31 t961 x8_2).f0))).setCell ⟨gb982, 1, none⟩ (.int .i64 ((rd_T31 t961 x8_2).f1))).setCell ⟨gb982, 2, none⟩ (.int .i64 ((rd_T31 t961 x8_2).f2))).setCell ⟨gb982, 3, none⟩ (.int .i64 ((rd_T31 t961 x8_2).f3))).setCell ⟨gb982, 4, none⟩ (.int .i64 ((rd_T31 t961 x8_2).f4))) w.heap.size (fun k_ => k_ ≠ gb982) (.slice (some ad981) t961.length co9) t961) := ⟨by (with_reducible repeat (first | apply Kd.R_alloc | apply Kd.R_drewN | apply Kd.R_drew)); exact Kd.R_mono (Kd.R_far (p := ⟨gb982, 4, none⟩) (Kd.R_far (p := ⟨gb982, 3, none⟩) (Kd.R_far (p := ⟨gb982, 2, none⟩) (Kd.R_far (p := ⟨gb982, 1, none⟩) (Kd.R_far (p := ⟨gb982, 0, none⟩) (Kd.R_mono HO_967001.out (fun k_ hk => (⟨hk, hk.2⟩ : _ ∧ k_ ≠ gb982))) (fun _ hk => hk.2) (.int .i64 ((rd_T31 t961 x8_2).f0))) (fun _ hk => hk.2) (.int .i64 ((rd_T31 t961 x8_2).f1))) (fun _ hk => hk.2) (.int .i64 ((rd_T31 t961 x8_2).f2))) (fun _ hk => hk.2) (.int .i64 ((rd_T31 t961 x8_2).f3))) (fun _ hk => hk.2) (.int .i64 ((rd_T31 t961 x8_2).f4))) (fun _ hk => hk.1.2)⟩
             have n3_ : Aside0 ((((((w51.setCell ⟨gb982, 0, none⟩ (.int .i64 ((rd_T31 t961 x8_2).f0))).setCell ⟨gb982, 1, none⟩ (.int .i64 ((rd_T31 t961 x8_2).f1))).setCell ⟨gb982, 2, none⟩ (.int .i64 ((rd_T31 t961 x8_2).f2))).setCell ⟨gb982, 3, none⟩ (.int .i64 ((rd_T31 t961 x8_2).f3))).setCell ⟨gb982, 4, none⟩ (.int .i64 ((rd_T31 t961 x8_2).f4))).heap[gb966]? = some (.cells #[.int .i64 t960, .slice (some ad981) t961.length co9] 25 (0, 0))) := ⟨by (with_reducible repeat (first | refine blk_drewN ?_ _ | refine blk_drew ?_ | refine blk_alloc ?_ _)); refine blk_far ?_ NB966_982.out _; (with_reducible repeat (first | refine blk_drewN ?_ _ | refine blk_drew ?_ | refine blk_alloc ?_ _)); refine blk_far ?_ NB966_982.out _; (with_reducible repeat (first | refine blk_drewN ?_ _ | refine blk_drew ?_ | refine blk_alloc ?_ _)); refine blk_far ?_ NB966_982.out _; (with_reducible repeat (first | refine blk_drewN ?_ _ | refine blk_drew ?_ | refine blk_alloc ?_ _)); refine blk_far ?_ NB966_982.out _; (with_reducible repeat (first | refine blk_drewN ?_ _ | refine blk_drew ?_ | refine blk_alloc ?_ _)); refine blk_far ?_ NB966_982.out _; (with_reducible repeat (first | refine blk_drewN ?_ _ | refine blk_drew ?_ | refine blk_alloc ?_ _)); exact BK966.out⟩
             have n4_ : Aside0 ((((((w51.setCell ⟨gb982, 0, none⟩ (.int .i64 ((rd_T31 t961 x8_2).f0))).setCell ⟨gb982, 1, none⟩ (.int .i64 ((rd_T31 t961 x8_2).f1))).setCell ⟨gb982, 2, none⟩ (.int .i64 ((rd_T31 t961 x8_2).f2))).setCell ⟨gb982, 3, none⟩ (.int .i64 ((rd_T31 t961 x8_2).f3))).setCell ⟨gb982, 4, none⟩ (.int .i64 ((rd_T31 t961 x8_2).f4))).heap[gb982]? = some (.cells #[.int .i64 ((rd_T31 t961 x8_2).f0), .int .i64 ((rd_T31 t961 x8_2).f1), .int .i64 ((rd_T31 t961 x8_2).f2), .int .i64 ((rd_T31 t961 x8_2).f3), .int .i64 ((rd_T31 t961 x8_2).f4)] 31 (0, 0))) := ⟨by (with_reducible repeat (first | refine blk_drewN ?_ _ | refine blk_drew ?_ | refine blk_alloc ?_ _)); refine blk_put (cs := #[.int .i64 ((rd_T31 t961 x8_2).f0), .int .i64 ((rd_T31 t961 x8_2).f1), .int .i64 ((rd_T31 t961 x8_2).f2), .int .i64 ((rd_T31 t961 x8_2).f3), .int .i64 0]) ?_ 4 _ rfl; (with_reducible repeat (first | refine blk_drewN ?_ _ | refine blk_drew ?_ | refine blk_alloc ?_ _)); refine blk_put (cs := #[.int .i64 ((rd_T31 t961 x8_2).f0), .int .i64 ((rd_T31 t961 x8_2).f1), .int .i64 ((rd_T31 t961 x8_2).f2), .int .i64 0, .int .i64 0]) ?_ 3 _ rfl; (with_reducible repeat (first | refine blk_drewN ?_ _ | refine blk_drew ?_ | refine blk_alloc ?_ _)); refine blk_put (cs := #[.int .i64 ((rd_T31 t961 x8_2).f0), .int .i64 ((rd_T31 t961 x8_2).f1), .int .i64 0, .int .i64 0, .int .i64 0]) ?_ 2 _ rfl; (with_reducible repeat (first | refine blk_drewN ?_ _ | refine blk_drew ?_ | refine blk_alloc ?_ _)); refine blk_put (cs := #[.int .i64 ((rd_T31 t961 x8_2).f0), .int .i64 0, .int .i64 0, .int .i64 0, .int .i64 0]) ?_ 1 _ rfl; (with_reducible repeat (first | refine blk_drewN ?_ _ | refine blk_drew ?_ | refine blk_alloc ?_ _)); refine blk_put (cs := #[.int .i64 0, .int .i64 0, .int .i64 0, .int .i64 0, .int .i64 0]) ?_ 0 _ rfl; (with_reducible repeat (first | refine blk_drewN ?_ _ | refine blk_drew ?_ | refine blk_alloc ?_ _)); exact BK982.out⟩
             have n5_ : Aside0 (Below w.heap.size w (((((w51.setCell ⟨gb982, 0, none⟩ (.int .i64 ((rd_T31 t961 x8_2).f0))).setCell ⟨gb982, 1, none⟩ (.int .i64 ((rd_T31 t961 x8_2).f1))).setCell ⟨gb982, 2, none⟩ (.int .i64 ((rd_T31 t961 x8_2).f2))).setCell ⟨gb982, 3, none⟩ (.int .i64 ((rd_T31 t961 x8_2).f3))).setCell ⟨gb982, 4, none⟩ (.int .i64 ((rd_T31 t961 x8_2).f4)))) := ⟨bl2 HB GE966 GE982⟩
             (try clear HO_6)
             (try clear HO_7)
             (try clear HO_967001)
             (try clear BK966)
             (try clear BK982)
             (try clear HB)
             generalize (((((w51.setCell ⟨gb982, 0, none⟩ (.int .i64 ((rd_T31 t961 x8_2).f0))).setCell ⟨gb982, 1, none⟩ (.int .i64 ((rd_T31 t961 x8_2).f1))).setCell ⟨gb982, 2, none⟩ (.int .i64 ((rd_T31 t961 x8_2).f2))).setCell ⟨gb982, 3, none⟩ (.int .i64 ((rd_T31 t961 x8_2).f3))).setCell ⟨gb982, 4, none⟩ (.int .i64 ((rd_T31 t961 x8_2).f4))) = w54 at n0_ n1_ n2_ n3_ n4_ n5_ ⊢
             have HO_6 := n0_
             have HO_7 := n1_
             have HO_967001 := n2_
             have BK966 := n3_
             have BK982 := n4_
             have HB := n5_
             clear n0_ n1_ n2_ n3_ n4_ n5_
             have n0_ := Aside0.mk (Kd.R_drew HO_6.out)
             have n1_ := Aside0.mk (Kd.R_drew HO_7.out)
             have n2_ := Aside0.mk (Kd.R_drew HO_967001.out)
             have n3_ := Aside0.mk (blk_drew BK966.out)
             have n4_ := Aside0.mk (blk_drew BK982.out)
             have n5_ := Aside0.mk (below_drew1 HB.out)
             clear HO_6
             clear HO_7
             clear HO_967001
             clear BK966
             clear BK982
             clear HB
             have HO_6 := n0_
             have HO_7 := n1_
             have HO_967001 := n2_
             have BK966 := n3_
             have BK982 := n4_
             have HB := n5_
             clear n0_ n1_ n2_ n3_ n4_ n5_
             have p983 : 0 ≤ (x8_2 : Int) := oT (by first | (with_reducible assumption) | assumption)
             have q983 : x8_2 < (t967.length : Int) := oT (by first | (with_reducible assumption) | assumption)
             obtain ⟨ad983, e983, hx983_0⟩ := Kd.at_int (Kd.R_reads' HO_6.out).2.2 x8_2 p983 q983
             cases e983
             replace p983 := eq_true p983
             replace q983 := eq_true q983
             obtain ⟨Ao56, co56, eo56⟩ := Kd.R_slice HO_7.out
             (first | subst eo56 | (injection eo56 with f1_ f2_ f3_; have f4_ := f1_.symm; have f5_ := f3_.symm; clear f1_ f2_ f3_; subst f4_; subst f5_))
             have p985 : 0 ≤ (x8_2 : Int) := oT (by first | (with_reducible assumption) | assumption)
             have q985 : x8_2 < (t967.length : Int) := oT (by first | (with_reducible assumption) | assumption)
             obtain ⟨ad985, e985, hx985_0⟩ := Kd.at_int (Kd.R_reads' HO_6.out).2.2 x8_2 p985 q985
             obtain rfl : ad983 = ad985 := (by injection e985)
             replace p985 := eq_true p985
             replace q985 := eq_true q985
             have p986 : 0 ≤ (x8_2 : Int) := oT (by first | (with_reducible assumption) | assumption)
             have q986 : x8_2 < (t967.length : Int) := oT (by first | (with_reducible assumption) | assumption)
             obtain ⟨ad986, e986, hx986_0⟩ := Kd.at_int (Kd.R_reads' HO_6.out).2.2 x8_2 p986 q986
             obtain rfl : ad983 = ad986 := (by injection e986)
             replace p986 := eq_true p986
             replace q986 := eq_true q986
             refine start_ (n := 35) (S := fun w' => w'.cell? ⟨gb982, 0, none⟩ = some (.int .i64 ((rd_T31 t961 x8_2).f0)) ∧ w'.cell? ⟨gb982, 1, none⟩ = some (.int .i64 ((rd_T31 t961 x8_2).f1)) ∧ w'.cell? ⟨gb982, 2, none⟩ = some (.int .i64 ((rd_T31 t961 x8_2).f2)) ∧ w'.cell? ⟨gb982, 3, none⟩ = some (.int .i64 ((rd_T31 t961 x8_2).f3)) ∧ w'.cell? ⟨gb982, 4, none⟩ = some (.int .i64 ((rd_T31 t961 x8_2).f4)) ∧ w'.cell? (ad983.add (x8_2).toNat) = some (.int .i64 (rd t967 x8_2)) ∧ w'.cell? (ad983.add (x8_2).toNat) = some (.int .i64 (rd t967 x8_2)) ∧ w'.cell? (ad983.add (x8_2).toNat) = some (.int .i64 (rd t967 x8_2))) (ds := []) (ms 35 0) (by kernel_rfl) rfl (by kernel_rfl) ⟨(blk_cell BK982.out 0).trans rfl, (blk_cell BK982.out 1).trans rfl, (blk_cell BK982.out 2).trans rfl, (blk_cell BK982.out 3).trans rfl, (blk_cell BK982.out 4).trans rfl, hx983_0, hx985_0, hx986_0⟩ (fun hHeld => ?_); refine with_tabW laws_FnReachArcs.tab12 laws_FnReachArcs.bits12 (fun HT_ HW_ => ?_)
             generalize w54.drew = w55 at HO_6 HO_7 HO_967001 BK966 BK982 HB hx983_0 hx985_0 hx986_0 hHeld ⊢
             refine pure_ (i := 0) (N := some 56) (v := ?_) (a' := ?_) (ms 35 1) rfl rfl (any_of HT_.out (by kernel_rfl)) (fun _ _ _ h => h) (Or.inl ⟨by rfl, ?_⟩) ?_ ?_
             rotate_left
             ·intro w'
              go_simp
              with_reducible rfl
             rotate_left
             ·simp only [Act.put, sA, sB, sC, i64_w, i32_w]
              rfl
             refine pure_ (i := 1) (N := some 57) (v := ?_) (a' := ?_) (ms 35 3) rfl rfl (any_of HT_.out (by kernel_rfl)) (fun _ _ _ h => h) (Or.inl ⟨by rfl, ?_⟩) ?_ ?_
             rotate_left
             ·intro w'
              go_simp
              with_reducible rfl
             rotate_left
             ·simp only [Act.put, sA, sB, sC, i64_w, i32_w]
              rfl
             refine pure_ (i := 2) (N := some 58) (v := ?_) (a' := ?_) (ms 35 7) rfl rfl (any_of HT_.out (by kernel_rfl)) (fun _ _ _ h => h) (Or.inl ⟨by rfl, ?_⟩) ?_ ?_
             rotate_left
             ·intro w'
              go_simp
              with_reducible rfl
             rotate_left
             ·simp only [Act.put, sA, sB, sC, i64_w, i32_w]
              rfl
             refine pure_ (i := 5) (N := some 61) (v := ?_) (a' := ?_) (ms 35 39) rfl rfl (any_of HT_.out (by kernel_rfl)) (fun _ _ _ h => h) (Or.inl ⟨by rfl, ?_⟩) ?_ ?_
             rotate_left
             ·intro w'
              go_simp
              with_reducible rfl
             rotate_left
             ·simp only [Act.put, sA, sB, sC, i64_w, i32_w]
              rfl
             refine pure_ (i := 6) (N := some 62) (v := ?_) (a' := ?_) (ms 35 103) rfl rfl (any_of HT_.out (by kernel_rfl)) (fun _ _ _ h => h) (Or.inl ⟨by rfl, ?_⟩) ?_ ?_
             rotate_left
             ·intro w'
              go_simp
              with_reducible rfl
             rotate_left
             ·simp only [Act.put, sA, sB, sC, i64_w, i32_w]
              rfl
             refine take_ (i := 3) (N := some 59) (v := ?_) (a' := ?_) (ms 35 111) rfl rfl (take_ofW HT_.out HW_.out (by kernel_rfl)) (fun _ _ _ h => h) (Or.inl ⟨by rfl, ?_⟩) hHeld ?_ ?_
             rotate_left
             ·rintro w' ⟨s0, s1, s2, s3, s4, s5, s6, s7⟩
              go_simp
              with_reducible rfl
             rotate_left
             ·simp only [Act.put, sA, sB, sC, i64_w, i32_w]
              rfl
             refine pure_ (i := 4) (N := some 60) (v := ?_) (a' := ?_) (ms 35 127) rfl rfl (any_of HT_.out (by kernel_rfl)) (fun _ _ _ h => h) (Or.inl ⟨by rfl, ?_⟩) ?_ ?_
             rotate_left
             ·intro w'
              go_simp
              with_reducible rfl
             rotate_left
             ·simp only [Act.put, sA, sB, sC, i64_w, i32_w]
              rfl
             refine take_ (i := 7) (N := some 63) (v := ?_) (a' := ?_) (ms 35 255) rfl rfl (take_ofW HT_.out HW_.out (by kernel_rfl)) (fun _ _ _ h => h) (Or.inl ⟨by rfl, ?_⟩) hHeld ?_ ?_
             rotate_left
             ·rintro w' ⟨s0, s1, s2, s3, s4, s5, s6, s7⟩
              go_simp
              with_reducible rfl
             rotate_left
             ·simp only [Act.put, sA, sB, sC, i64_w, i32_w]
              rfl
             refine one_ (i := 8) (N := some 64) (ms 35 511) rfl rfl (one_of HT_.out (by kernel_rfl)) (by decide) (fun K hK => ?_)
             refine goes_ Try.func53 (by kernel_rfl) rfl #[.slice Ao56 t978.length co56, .int .i64 ((rd_T31 t961 x8_2).f0)] (by rfl) rfl rfl (by (try simp only [List.map_toArray, List.map_cons, List.map_nil]); first | done | rfl | (simp only [List.length_drop, List.length_take]; rfl)) ?_
             with_reducible refine (laws_wkIn.calls k2 _ _ t978 ((rd_T31 t961 x8_2).f0) t984 _ ?side1 ?side2 A35.out).mono ?_
             (case side1 => repeat (first | exact (Kd.R_reads' HO_7.out).2.2 | (with_reducible refine Kd.C_alloc ?_ _) | (with_reducible refine Kd.C_drewN ?_ _) | (with_reducible refine Kd.C_drew ?_)))
             (case side2 => exact (Kd.R_reads' HO_7.out).2.1)
             rintro e w' ⟨rfl, ⟨nd, rfl⟩⟩
             refine ⟨_, rfl, ?_⟩
             refine hK.out _ _ ⟨(blk_cell BK982.out 0).trans rfl, (blk_cell BK982.out 1).trans rfl, (blk_cell BK982.out 2).trans rfl, (blk_cell BK982.out 3).trans rfl, (blk_cell BK982.out 4).trans rfl, hHeld.2.2.2.2.2.1, hHeld.2.2.2.2.2.2.1, hHeld.2.2.2.2.2.2.2⟩ (fun hHeld => ?_)
             clear hK K
             refine norm_ (a' := ?_) ?_ ?_
             rotate_left
             ·show Act.put _ (some 64) _ = _
              simp only [Act.put, sA, sB, sC, i64_w, i32_w]
              rfl
             refine pure_ (i := 9) (N := some 65) (v := ?_) (a' := ?_) (ms 35 1023) rfl rfl (any_of HT_.out (by kernel_rfl)) (fun _ _ _ h => h) (Or.inl ⟨by rfl, ?_⟩) ?_ ?_
             rotate_left
             ·intro w'
              go_simp
              with_reducible rfl
             rotate_left
             ·simp only [Act.put, sA, sB, sC, i64_w, i32_w]
              rfl
             refine pure_ (i := 10) (N := some 66) (v := ?_) (a' := ?_) (ms 35 2047) rfl rfl (any_of HT_.out (by kernel_rfl)) (fun _ _ _ h => h) (Or.inl ⟨by rfl, ?_⟩) ?_ ?_
             rotate_left
             ·intro w'
              go_simp
              with_reducible rfl
             rotate_left
             ·simp only [Act.put, sA, sB, sC, i64_w, i32_w]
              rfl
             refine pure_ (i := 11) (N := some 67) (v := ?_) (a' := ?_) (ms 35 4095) rfl rfl (any_of HT_.out (by kernel_rfl)) (fun _ _ _ h => h) (Or.inl ⟨by rfl, ?_⟩) ?_ ?_
             rotate_left
             ·intro w'
              go_simp
              with_reducible rfl
             rotate_left
             ·simp only [Act.put, sA, sB, sC, i64_w, i32_w]
              rfl
             refine pure_ (i := 12) (N := some 68) (v := ?_) (a' := ?_) (ms 35 8191) rfl rfl (any_of HT_.out (by kernel_rfl)) (fun _ _ _ h => h) (Or.inl ⟨by rfl, ?_⟩) ?_ ?_
             rotate_left
             ·intro w'
              go_simp
              with_reducible rfl
             rotate_left
             ·simp only [Act.put, sA, sB, sC, i64_w, i32_w]
              rfl
             refine pure_ (i := 13) (N := some 69) (v := ?_) (a' := ?_) (ms 35 16383) rfl rfl (any_of HT_.out (by kernel_rfl)) (fun _ _ _ h => h) (Or.inl ⟨by rfl, ?_⟩) ?_ ?_
             rotate_left
             ·intro w'
              go_simp
              with_reducible rfl
             rotate_left
             ·simp only [Act.put, sA, sB, sC, i64_w, i32_w]
              rfl
             refine pure_ (i := 15) (N := some 71) (v := ?_) (a' := ?_) (ms 35 49151) rfl rfl (any_of HT_.out (by kernel_rfl)) (fun _ _ _ h => h) (Or.inl ⟨by rfl, ?_⟩) ?_ ?_
             rotate_left
             ·intro w'
              go_simp
              with_reducible rfl
             rotate_left
             ·simp only [Act.put, sA, sB, sC, i64_w, i32_w]
              rfl
             refine take_ (i := 14) (N := some 70) (v := ?_) (a' := ?_) (ms 35 65535) rfl rfl (take_ofW HT_.out HW_.out (by kernel_rfl)) (fun _ _ _ h => h) (Or.inl ⟨by rfl, ?_⟩) hHeld ?_ ?_
             rotate_left
             ·rintro w' ⟨s0, s1, s2, s3, s4, s5, s6, s7⟩
              go_simp
              with_reducible rfl
             rotate_left
             ·simp only [Act.put, sA, sB, sC, i64_w, i32_w]
              rfl
             refine take_ (i := 16) (N := some 72) (v := ?_) (a' := ?_) (ms 35 131071) rfl rfl (take_ofW HT_.out HW_.out (by kernel_rfl)) (fun _ _ _ h => h) (Or.inl ⟨by rfl, ?_⟩) hHeld ?_ ?_
             rotate_left
             ·rintro w' ⟨s0, s1, s2, s3, s4, s5, s6, s7⟩
              go_simp
              with_reducible rfl
             rotate_left
             ·simp only [Act.put, sA, sB, sC, i64_w, i32_w]
              rfl
             refine pure_ (i := 17) (N := some 73) (v := ?_) (a' := ?_) (ms 35 262143) rfl rfl (any_of HT_.out (by kernel_rfl)) (fun _ _ _ h => h) (Or.inl ⟨by rfl, ?_⟩) ?_ ?_
             rotate_left
             ·intro w'
              go_simp
              with_reducible rfl
             rotate_left
             ·simp only [Act.put, sA, sB, sC, i64_w, i32_w]
              rfl
             refine pure_ (i := 18) (N := some 74) (v := ?_) (a' := ?_) (ms 35 524287) rfl rfl (any_of HT_.out (by kernel_rfl)) (fun _ _ _ h => h) (Or.inl ⟨by rfl, ?_⟩) ?_ ?_
             rotate_left
             ·intro w'
              go_simp
              with_reducible rfl
             rotate_left
             ·simp only [Act.put, sA, sB, sC, i64_w, i32_w]
              rfl
             refine pure_ (i := 19) (N := some 75) (v := ?_) (a' := ?_) (ms 35 1048575) rfl rfl (any_of HT_.out (by kernel_rfl)) (fun _ _ _ h => h) (Or.inl ⟨by rfl, ?_⟩) ?_ ?_
             rotate_left
             ·intro w'
              go_simp
              with_reducible rfl
             rotate_left
             ·simp only [Act.put, sA, sB, sC, i64_w, i32_w]
              rfl
             refine pure_ (i := 20) (N := some 76) (v := ?_) (a' := ?_) (ms 35 2097151) rfl rfl (any_of HT_.out (by kernel_rfl)) (fun _ _ _ h => h) (Or.inl ⟨by rfl, ?_⟩) ?_ ?_
             rotate_left
             ·intro w'
              go_simp
              with_reducible rfl
             rotate_left
             ·simp only [Act.put, sA, sB, sC, i64_w, i32_w]
              rfl
             refine pure_ (i := 21) (N := some 77) (v := ?_) (a' := ?_) (ms 35 4194303) rfl rfl (any_of HT_.out (by kernel_rfl)) (fun _ _ _ h => h) (Or.inl ⟨by rfl, ?_⟩) ?_ ?_
             rotate_left
             ·intro w'
              go_simp
              with_reducible rfl
             rotate_left
             ·simp only [Act.put, sA, sB, sC, i64_w, i32_w]
              rfl
             refine pure_ (i := 22) (N := some 78) (v := ?_) (a' := ?_) (ms 35 8388607) rfl rfl (any_of HT_.out (by kernel_rfl)) (fun _ _ _ h => h) (Or.inl ⟨by rfl, ?_⟩) ?_ ?_
             rotate_left
             ·intro w'
              go_simp
              with_reducible rfl
             rotate_left
             ·simp only [Act.put, sA, sB, sC, i64_w, i32_w]
              rfl
             refine pure_ (i := 24) (N := some 80) (v := ?_) (a' := ?_) (ms 35 25165823) rfl rfl (any_of HT_.out (by kernel_rfl)) (fun _ _ _ h => h) (Or.inl ⟨by rfl, ?_⟩) ?_ ?_
             rotate_left
             ·intro w'
              go_simp
              with_reducible rfl
             rotate_left
             ·simp only [Act.put, sA, sB, sC, i64_w, i32_w]
              rfl
             refine take_ (i := 23) (N := some 79) (v := ?_) (a' := ?_) (ms 35 33554431) rfl rfl (take_ofW HT_.out HW_.out (by kernel_rfl)) (fun _ _ _ h => h) (Or.inl ⟨by rfl, ?_⟩) hHeld ?_ ?_
             rotate_left
             ·rintro w' ⟨s0, s1, s2, s3, s4, s5, s6, s7⟩
              go_simp
              with_reducible rfl
             rotate_left
             ·simp only [Act.put, sA, sB, sC, i64_w, i32_w]
              rfl
             refine take_ (i := 25) (N := some 81) (v := ?_) (a' := ?_) (ms 35 67108863) rfl rfl (take_ofW HT_.out HW_.out (by kernel_rfl)) (fun _ _ _ h => h) (Or.inl ⟨by rfl, ?_⟩) hHeld ?_ ?_
             rotate_left
             ·rintro w' ⟨s0, s1, s2, s3, s4, s5, s6, s7⟩
              go_simp
              with_reducible rfl
             rotate_left
             ·simp only [Act.put, sA, sB, sC, i64_w, i32_w]
              rfl
             refine pure_ (i := 26) (N := some 82) (v := ?_) (a' := ?_) (ms 35 134217727) rfl rfl (any_of HT_.out (by kernel_rfl)) (fun _ _ _ h => h) (Or.inl ⟨by rfl, ?_⟩) ?_ ?_
             rotate_left
             ·intro w'
              go_simp
              with_reducible rfl
             rotate_left
             ·simp only [Act.put, sA, sB, sC, i64_w, i32_w]
              rfl
             refine pure_ (i := 27) (N := some 83) (v := ?_) (a' := ?_) (ms 35 268435455) rfl rfl (any_of HT_.out (by kernel_rfl)) (fun _ _ _ h => h) (Or.inl ⟨by rfl, ?_⟩) ?_ ?_
             rotate_left
             ·intro w'
              go_simp
              with_reducible rfl
             rotate_left
             ·simp only [Act.put, sA, sB, sC, i64_w, i32_w]
              rfl
             refine pure_ (i := 28) (N := some 84) (v := undef) (a' := ?_) (ms 35 536870911) rfl rfl (any_of HT_.out (by kernel_rfl)) (fun _ _ _ h => h) (Or.inr ⟨by rfl, rfl⟩) ?_ ?_
             rotate_left
             ·simp only [Act.put, sA, sB, sC, i64_w, i32_w]
              rfl
             refine pure_ (i := 29) (N := some 85) (v := undef) (a' := ?_) (ms 35 1073741823) rfl rfl (any_of HT_.out (by kernel_rfl)) (fun _ _ _ h => h) (Or.inr ⟨by rfl, rfl⟩) ?_ ?_
             rotate_left
             ·simp only [Act.put, sA, sB, sC, i64_w, i32_w]
              rfl
             refine pure_ (i := 30) (N := some 86) (v := undef) (a' := ?_) (ms 35 2147483647) rfl rfl (any_of HT_.out (by kernel_rfl)) (fun _ _ _ h => h) (Or.inr ⟨by rfl, rfl⟩) ?_ ?_
             rotate_left
             ·simp only [Act.put, sA, sB, sC, i64_w, i32_w]
              rfl
             refine pure_ (i := 31) (N := some 87) (v := undef) (a' := ?_) (ms 35 4294967295) rfl rfl (any_of HT_.out (by kernel_rfl)) (fun _ _ _ h => h) (Or.inr ⟨by rfl, rfl⟩) ?_ ?_
             rotate_left
             ·simp only [Act.put, sA, sB, sC, i64_w, i32_w]
              rfl
             refine pure_ (i := 32) (N := some 88) (v := undef) (a' := ?_) (ms 35 8589934591) rfl rfl (any_of HT_.out (by kernel_rfl)) (fun _ _ _ h => h) (Or.inr ⟨by rfl, rfl⟩) ?_ ?_
             rotate_left
             ·simp only [Act.put, sA, sB, sC, i64_w, i32_w]
              rfl
             refine pure_ (i := 33) (N := some 89) (v := ?_) (a' := ?_) (ms 35 17179869183) rfl rfl (any_of HT_.out (by kernel_rfl)) (fun _ _ _ h => h) (Or.inl ⟨by rfl, ?_⟩) ?_ ?_
             rotate_left
             ·intro w'
              go_simp
              with_reducible rfl
             rotate_left
             ·simp only [Act.put, sA, sB, sC, i64_w, i32_w]
              rfl
             refine pure_ (i := 34) (N := some 90) (v := ?_) (a' := ?_) (ms 35 34359738367) rfl rfl (any_of HT_.out (by kernel_rfl)) (fun _ _ _ h => h) (Or.inl ⟨by rfl, ?_⟩) ?_ ?_
             rotate_left
             ·intro w'
              go_simp
              with_reducible rfl
             rotate_left
             ·simp only [Act.put, sA, sB, sC, i64_w, i32_w]
              rfl
             refine done_ (done_of HT_.out (by kernel_rfl)) ?_
             try go_wp2
             go_roundg k2
             case measure => have := HJ4.out; have := HK2.out; omega
             case rel => exact ⟨(wrap64 (x8_2 + 1)), (by first | rfl | (simp; done) | (simp [*]; done)), H', ⟨by have := HJ4.out; have := HK2.out; omega⟩, ⟨rk HO_6⟩, ⟨rk HO_7⟩, ⟨by (with_reducible repeat (first | apply Kd.R_alloc | apply Kd.R_drewN | apply Kd.R_drew)); exact Kd.R_mono HO_967001.out (fun _ hk => trivial)⟩, ⟨bk BK966⟩, ⟨bl2 HB GE966 GE982⟩⟩
         ·rw [if_neg c34] at H
          exact absurd H (by simp)
        ·rw [if_neg c33] at H
         exact absurd H (by simp)
       ·rw [if_neg c32] at H
        have c32b0 : decide (x8_2 < (t967.length : Int)) = false := decide_eq_false c32
        clear c32
        obtain rfl := Option.some.inj H
        obtain ⟨Ao57, co57, eo57⟩ := Kd.R_slice HO_6.out
        subst eo57
        have hcz58_0 : wr.cell? ⟨gb966, 0, none⟩ = some (.int .i64 t960) := (blk_cell BK966.out 0).trans rfl
        have hcz58_1 : wr.cell? ⟨gb966, 1, none⟩ = some (.slice Ao9 t961.length co9) := (blk_cell BK966.out 1).trans rfl
        have hfz58_0 := blk_frozen BK966.out 0
        have hfz58_1 := blk_frozen BK966.out 1
        go_wp2
        go_ret
        exact ⟨by first | rfl | (simp [errW_none, errW_some] <;> rfl) | (simp [*, errW_none, errW_some] <;> rfl), bl1 HB GE966⟩

/-- THE ONE PURE STATEMENT of laws_FnReachArcs: yours. -/
def laws_FnReachArcs.Pure : Prop := ∀ (l0 : List Int), l0.length ≤ maxLen → l0.length * 1 ≤ 140737488351232 → (∀ x ∈ l0, (Lit.int .u8 x).wf = true) → ∃ k, laws_FnReachArcs.f k l0 = some true
theorem laws_FnReachArcs.walk (P : laws_FnReachArcs.Pure) (a0 : Option Addr) (len0 cap0 : Nat) (z0 : List Int) (w : World) (w0 : (a0 = none ∧ len0 = 0 ∧ cap0 = 0 ∧ z0 = []) ∨ ∃ x, a0 = some x ∧ len0 ≤ cap0 ∧ cap0 ≤ maxLen ∧ z0.length = cap0 ∧ (∀ i, i < z0.length → w.cell? (x.add i) = some (.int .u8 (z0.getD i 0))) ∧ ∀ n ∈ z0, (Lit.int .u8 n).wf = true) (y0 : len0 * 1 ≤ 140737488351232) :
  Calls Try.prog 12 #[.slice a0 len0 cap0] w fun e w' => e = .returned (.bool true) ∧ Below w.heap.size w w' := by
 obtain ⟨l0, rfl, hr0, hm0, hw0, hc0⟩ := ReadsInt.ofRowC w0
 obtain ⟨k, h⟩ := P l0 hm0 y0 hw0
 refine (laws_FnReachArcs.calls k _ _ l0 true w (Kd.C_of_reads (d := (0 : Int)) (h1 := fun _ => rfl) hr0) hc0 h rfl).mono ?_
 rintro e w' ⟨rfl, hd⟩
 exact ⟨rfl, hd⟩

end Go.Proofs.Ythgihpbpebbebaa.F
