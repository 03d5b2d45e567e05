-- Printed by wip/px/px.py of this claim's repository (the kit's printer, extended there). Lean checks it.
import Derived.Test.YthgihpbpebbebaaFKinds
import Derived.Test.YthgihpbpebbebaaFEq31
import Derived.Test.YthgihpbpebbebaaFspecDrawLoadNet
import Derived.Test.YthgihpbpebbebaaFimplNetOk
import Derived.Test.YthgihpbpebbebaaFimplLoadNet
import Derived.Test.YthgihpbpebbebaaFwkNet
import Derived.Test.YthgihpbpebbebaaFspecLoadNet
namespace Go.Proofs.Ythgihpbpebbebaa.F
open Go.RowKit Go.Proofs.YthgihpbpebbebaaW.PrintWords Go.Proofs.YthgihpbpebbebaaW.PrintLast Go.Proofs.YthgihpbpebbebaaW.PrintMore
attribute [local go_sem] max2_int min2_int max_two min_two max_three min_three max_four min_four   -- for this text's walks alone
set_option linter.unusedVariables false
set_option linter.unusedSimpArgs false

attribute [local go_sem high] eqA31
/-! ### laws_FnLoadNet: function 3 -/
mutual
def laws_FnLoadNet.j0 : Nat → Int → Bool → Int → List (S31) → Int → List (S31) → Option (Bool)
 | 0, _, _, _, _, _, _ => none
 | k + 1, x4, x29, x250000, x250001, x255000, x255001 => if x29 = true then ((spec_LoadNet.f k x250000 x250001 x4).bind fun bt260 => ((laws_wkNet.f k x255000 x255001 bt260.1 bt260.2).bind fun t264 => (some t264))) else (laws_FnLoadNet.l0 k x4 0 0 x250000 x250001 x255000 x255001)
def laws_FnLoadNet.l0 : Nat → Int → Int → Int → Int → List (S31) → Int → List (S31) → Option (Bool)
 | 0, _, _, _, _, _, _, _ => none
 | k + 1, x4, x6, x7, x250000, x250001, x255000, x255001 => if x7 < (x250001.length : Int) then (if 0 ≤ x7 then (if ((rd_T31 x250001 x7).f4) ≥ x4 then (if x6 ≥ (x255001.length : Int) then (some false) else (if 0 ≤ x6 then (if x6 < (x255001.length : Int) then (if (!(((rd_T31 x255001 x6).f0) == ((rd_T31 x250001 x7).f0)) || (!(((rd_T31 x255001 x6).f1) == ((rd_T31 x250001 x7).f1)) || (!(((rd_T31 x255001 x6).f2) == ((rd_T31 x250001 x7).f2)) || (!(((rd_T31 x255001 x6).f3) == ((rd_T31 x250001 x7).f3)) || (!(((rd_T31 x255001 x6).f4) == ((rd_T31 x250001 x7).f4))))))) = true then (some false) else (laws_FnLoadNet.l0 k x4 (wrap64 (x6 + 1)) (wrap64 (x7 + 1)) x250000 x250001 x255000 x255001)) else (none)) else (none))) else (laws_FnLoadNet.l0 k x4 x6 (wrap64 (x7 + 1)) x250000 x250001 x255000 x255001)) else (none)) else ((impl_NetOk.f x255000 x255001).bind fun t268 => (if t268 = true then (if x6 = (x255001.length : Int) then ((impl_LoadNet.f k x255000 x255001 x4).bind fun bt269 => ((laws_wkNet.f k bt269.1 bt269.2 x255000 x255001).bind fun t273 => (if t273 = true then ((impl_LoadNet.f k x250000 x250001 0).bind fun bt274 => ((laws_wkNet.f k bt274.1 bt274.2 x250000 x250001).bind fun t278 => (some t278))) else (some false)))) else (some false)) else (some false)))
end
def laws_FnLoadNet.f (k : Nat) (l0 : List Int) : Option (Bool) := if (l0.length : Int) > 1048576 then (some true) else ((spec_DrawLoadNet.f k l0).bind fun bt244 => ((impl_LoadNet.f k bt244.1 bt244.2.1 bt244.2.2).bind fun bt250 => ((spec_LoadNet.f k bt244.1 bt244.2.1 bt244.2.2).bind fun bt255 => ((laws_wkNet.f k bt250.1 bt250.2 bt255.1 bt255.2).bind fun t259 => (if t259 = true then (laws_FnLoadNet.j0 k bt244.2.2 (bt250.1 == 0) bt244.1 bt244.2.1 bt250.1 bt250.2) else (laws_FnLoadNet.j0 k bt244.2.2 true bt244.1 bt244.2.1 bt250.1 bt250.2))))))
theorem laws_FnLoadNet.mono_l : ∀ k, (∀ y0 y1 y2 y3 y4 y5, LeO (laws_FnLoadNet.j0 k y0 y1 y2 y3 y4 y5) (laws_FnLoadNet.j0 (k + 1) y0 y1 y2 y3 y4 y5)) ∧ (∀ y0 y1 y2 y3 y4 y5 y6, LeO (laws_FnLoadNet.l0 k y0 y1 y2 y3 y4 y5 y6) (laws_FnLoadNet.l0 (k + 1) y0 y1 y2 y3 y4 y5 y6))
 | 0 => ⟨fun _ _ _ _ _ _ r h => by simp [laws_FnLoadNet.j0] at h, fun _ _ _ _ _ _ _ r h => by simp [laws_FnLoadNet.l0] at h⟩
 | k + 1 => by
  obtain ⟨ih0, ih1⟩ := laws_FnLoadNet.mono_l k
  refine ⟨?_, ?_⟩
  ·intro y0 y1 y2 y3 y4 y5
   unfold laws_FnLoadNet.j0
   repeat' first
   | (with_reducible exact ih0 _ _ _ _ _ _)
   | (with_reducible exact ih1 _ _ _ _ _ _ _)
   | (with_reducible exact impl_LoadNet.mono _ _ _ _)
   | (with_reducible exact laws_wkNet.mono _ _ _ _ _)
   | (with_reducible exact spec_DrawLoadNet.mono _ _)
   | (with_reducible exact spec_LoadNet.mono _ _ _ _)
   | (with_reducible exact LeO.refl _)
   | (with_reducible exact LeO.none _)
   | (with_reducible refine LeO.ite ?_ ?_)
   | (with_reducible refine LeO.bind ?_ (fun _ => ?_))
   | exact ih0 _ _ _ _ _ _
   | exact ih1 _ _ _ _ _ _ _
   | exact impl_LoadNet.mono _ _ _ _
   | exact laws_wkNet.mono _ _ _ _ _
   | exact spec_DrawLoadNet.mono _ _
   | exact spec_LoadNet.mono _ _ _ _
   | exact LeO.none _
   | refine LeO.ite ?_ ?_
   | refine LeO.bind ?_ (fun _ => ?_)
  ·intro y0 y1 y2 y3 y4 y5 y6
   unfold laws_FnLoadNet.l0
   repeat' first
   | (with_reducible exact ih0 _ _ _ _ _ _)
   | (with_reducible exact ih1 _ _ _ _ _ _ _)
   | (with_reducible exact impl_LoadNet.mono _ _ _ _)
   | (with_reducible exact laws_wkNet.mono _ _ _ _ _)
   | (with_reducible exact spec_DrawLoadNet.mono _ _)
   | (with_reducible exact spec_LoadNet.mono _ _ _ _)
   | (with_reducible exact LeO.refl _)
   | (with_reducible exact LeO.none _)
   | (with_reducible refine LeO.ite ?_ ?_)
   | (with_reducible refine LeO.bind ?_ (fun _ => ?_))
   | exact ih0 _ _ _ _ _ _
   | exact ih1 _ _ _ _ _ _ _
   | exact impl_LoadNet.mono _ _ _ _
   | exact laws_wkNet.mono _ _ _ _ _
   | exact spec_DrawLoadNet.mono _ _
   | exact spec_LoadNet.mono _ _ _ _
   | exact LeO.none _
   | refine LeO.ite ?_ ?_
   | refine LeO.bind ?_ (fun _ => ?_)
theorem laws_FnLoadNet.mono : ∀ a0 k, LeO (laws_FnLoadNet.f k a0) (laws_FnLoadNet.f (k + 1) a0) := by
 intro a0 k
 obtain ⟨ih0, ih1⟩ := laws_FnLoadNet.mono_l k
 unfold laws_FnLoadNet.f
 repeat' first
   | (with_reducible exact ih0 _ _ _ _ _ _)
   | (with_reducible exact ih1 _ _ _ _ _ _ _)
   | (with_reducible exact impl_LoadNet.mono _ _ _ _)
   | (with_reducible exact laws_wkNet.mono _ _ _ _ _)
   | (with_reducible exact spec_DrawLoadNet.mono _ _)
   | (with_reducible exact spec_LoadNet.mono _ _ _ _)
   | (with_reducible exact LeO.refl _)
   | (with_reducible exact LeO.none _)
   | (with_reducible refine LeO.ite ?_ ?_)
   | (with_reducible refine LeO.bind ?_ (fun _ => ?_))
   | exact ih0 _ _ _ _ _ _
   | exact ih1 _ _ _ _ _ _ _
   | exact impl_LoadNet.mono _ _ _ _
   | exact laws_wkNet.mono _ _ _ _ _
   | exact spec_DrawLoadNet.mono _ _
   | exact spec_LoadNet.mono _ _ _ _
   | exact LeO.none _
   | refine LeO.ite ?_ ?_
   | refine LeO.bind ?_ (fun _ => ?_)
def laws_FnLoadNet.T5 : Bool × List (List Nat × List Nat) := (true, [([], []), ([], []), ([], []), ([1, 2], [1, 2]), ([0, 3, 3], [0, 3]), ([4], [4]), ([5, 4], [5]), ([6], [6]), ([7, 6], [6, 7]), ([8, 6], [6, 8]), ([6, 9], [6, 9])])
def laws_FnLoadNet.B5 : List Nat := [0, 0, 0, 6, 15, 31, 63, 127, 255, 511, 1023]
theorem laws_FnLoadNet.tab5 : rtab .any (opsOf Try.f3 5) = laws_FnLoadNet.T5 := by kernel_rfl
theorem laws_FnLoadNet.bits5 : waitsOk laws_FnLoadNet.T5.2 laws_FnLoadNet.B5 = true := by kernel_rfl
def laws_FnLoadNet.T12 : Bool × List (List Nat × List Nat) := (true, [([], []), ([], []), ([1], [1]), ([2], [2]), ([0, 3], [0, 3]), ([4], [4]), ([5], [5]), ([6, 5], [5, 6]), ([5], [5]), ([7, 8, 5], [5, 7, 8]), ([9, 5], [5, 9]), ([5], [5]), ([11, 5], [5, 11]), ([5], [5]), ([12, 13, 5], [5, 12, 13]), ([14, 5], [5, 14]), ([10, 15, 5], [5, 10, 15]), ([5, 16], [5, 16])])
def laws_FnLoadNet.B12 : List Nat := [0, 0, 2, 6, 15, 31, 63, 127, 63, 511, 1023, 63, 2111, 63, 14399, 30783, 65535, 131071]
theorem laws_FnLoadNet.tab12 : rtab .any (opsOf Try.f3 12) = laws_FnLoadNet.T12 := by kernel_rfl
theorem laws_FnLoadNet.bits12 : waitsOk laws_FnLoadNet.T12.2 laws_FnLoadNet.B12 = true := by kernel_rfl
def laws_FnLoadNet.T15 : Bool × List (List Nat × List Nat) := (true, [([], []), ([0], [0]), ([1, 1], [1]), ([2], [2]), ([2], [2]), ([4, 2], [2, 4]), ([5, 2], [2, 5]), ([3, 6, 2], [2, 3, 6]), ([2, 7], [2, 7]), ([8, 2], [8]), ([9], [9]), ([9], [9]), ([10, 11, 9, 9], [9, 10, 11]), ([9], [9]), ([12, 13, 12, 9], [9, 12, 13]), ([9, 14], [9, 14]), ([15, 14], [15]), ([16], [16]), ([17, 16, 16], [16, 17]), ([16], [16]), ([18, 19, 18, 16], [16, 18, 19]), ([16, 20], [16, 20]), ([21, 20, 0, 1, 2, 3, 4, 5, 6, 7, 8, 9, 10, 11, 12, 13, 14, 15, 16, 17, 18, 19, 20, 21], [21])])
def laws_FnLoadNet.B15 : List Nat := [0, 1, 3, 7, 7, 23, 55, 127, 255, 511, 1023, 1023, 4095, 1023, 16383, 32767, 65535, 131071, 262143, 131071, 1048575, 2097151, 4194303]
theorem laws_FnLoadNet.tab15 : rtab .any (opsOf Try.f3 15) = laws_FnLoadNet.T15 := by kernel_rfl
theorem laws_FnLoadNet.bits15 : waitsOk laws_FnLoadNet.T15.2 laws_FnLoadNet.B15 = true := by kernel_rfl
set_option maxHeartbeats 8000000 in
set_option maxRecDepth 100000 in
theorem laws_FnLoadNet.calls (k : Nat) (A0 : Option Addr) (c0 : Nat) (l0 : List Int) (r : Bool) (w : World) (hr0 : Kd.C (Kd.int .u8) w A0 l0.length l0) (hc0 : l0.length ≤ c0) (h : laws_FnLoadNet.f k l0 = some r) (hr_ : r = true) :
  Calls Try.prog 3 #[.slice A0 l0.length c0] w fun e w' => e = .returned (.bool r) ∧ Below w.heap.size w w' := by
 have hu25 := Try.underlying25
 have hu31 := Try.underlying31
 have HR0 := Aside0.mk hr0
 have HC0 := Aside0.mk hc0
 clear hr0 hc0
 have HB := Aside0.mk (Below.refl w.heap.size w)
 have H : (if (l0.length : Int) > 1048576 then (some true) else ((spec_DrawLoadNet.f k l0).bind fun bt244 => ((impl_LoadNet.f k bt244.1 bt244.2.1 bt244.2.2).bind fun bt250 => ((spec_LoadNet.f k bt244.1 bt244.2.1 bt244.2.2).bind fun bt255 => ((laws_wkNet.f k bt250.1 bt250.2 bt255.1 bt255.2).bind fun t259 => (if t259 = true then (laws_FnLoadNet.j0 k bt244.2.2 (bt250.1 == 0) bt244.1 bt244.2.1 bt250.1 bt250.2) else (laws_FnLoadNet.j0 k bt244.2.2 true bt244.1 bt244.2.1 bt250.1 bt250.2))))))) = some r := h
 clear h
 by_cases c2 : (l0.length : Int) > 1048576
 ·rw [if_pos c2] at H
  have c2b0 : decide (1048576 < (l0.length : Int)) = true := decide_eq_true c2
  have c2b1 : decide (1048576 < l0.length) = true := decide_eq_true (by omega)
  clear c2
  obtain rfl := Option.some.inj H
  go_enter Try.func3, Try.ntmps3
  go_wp2
  go_ret
  exact ⟨by first | rfl | (simp [errW_none, errW_some] <;> rfl) | (simp [*, errW_none, errW_some] <;> rfl), bl HB⟩
 ·rw [if_neg c2] at H
  have c2b0 : decide (1048576 < (l0.length : Int)) = false := decide_eq_false c2
  have c2b1 : decide (1048576 < l0.length) = false := decide_eq_false (by omega)
  clear c2
  replace H := Option.bind_eq_some_iff.mp H
  obtain ⟨⟨t244, t245, t248⟩, A30, H⟩ := H
  have A3 := Aside0.mk A30
  clear A30
  replace H := Option.bind_eq_some_iff.mp H
  obtain ⟨⟨t250, t251⟩, A40, H⟩ := H
  have A4 := Aside0.mk A40
  clear A40
  have HC5 := Aside0.mk H
  clear H
  go_enter Try.func3, Try.ntmps3
  go_upto_region 5 with (first | ((with_reducible refine gate_callee (f := 15) rfl ?_); refine goesL_ (some 13) rfl rfl Try.func15 (by kernel_rfl) rfl #[.slice A0 l0.length c0] rfl (by (try simp only [List.map_toArray, List.map_cons, List.map_nil]); first | done | rfl | (simp only [List.length_drop, List.length_take]; rfl)) ?_; (with_reducible refine (spec_DrawLoadNet.calls k _ _ l0 t244 t245 t248 _ ?side1 ?side2 A3.out).mono ?_); (case side1 => repeat (first | exact HR0.out | (with_reducible refine Kd.C_alloc ?_ _) | (with_reducible refine Kd.C_drewN ?_ _) | (with_reducible refine Kd.C_drew ?_))); (case side2 => exact HC0.out); rintro e w6 ⟨v246, rfl, ho0, hb⟩; refine ⟨_, rfl, ?_⟩; have n0_ := Aside0.mk (Kd.R_lower ho0 (below_size (bl HB))); have n1_ := Aside0.mk (below_step (bl HB) hb); clear HB; have HO247 := n0_; have HB := n1_; clear n0_ n1_; (try clear hb); (try clear hb2); (try clear hk); (try clear hi); (try clear ho0)) | ((with_reducible refine gate_dst (N := 3) rfl ?_); refine box_event ?hg (N := 3) ?hd (cs := #[.int .i64 0, .slice none 0 0]) (t := 25) ?hr ?_; (case hd => rfl); (case hg => rfl); (case hr => first | (go_simp; done) | (go_simp; rfl)); intro gb249 hg w7 hbox hb; have n0_ := Aside0.mk (Kd.R_below (rk HO247) hb); have n1_ := Aside0.mk (below_step (bl HB) hb); have n2_ := Aside0.mk (hbox); have n3_ := Aside0.mk ((by rw [hg]; exact (below_size (bl HB)) : w.heap.size ≤ gb249)); have n4_ := Aside0.mk ((by rw [hg]; exact (below_size (bl HB)) : w.heap.size ≤ gb249)); clear HO247; clear HB; have HO247 := n0_; have HB := n1_; have BK249 := n2_; have GW249 := n3_; have GE249 := n4_; clear n0_ n1_ n2_ n3_ n4_; clear hb hbox hg; have hcz8_0 : w7.cell? ⟨gb249, 0, none⟩ = some (.int .i64 0) := (blk_cell BK249.out 0).trans rfl; have hcz8_1 : w7.cell? ⟨gb249, 1, none⟩ = some (.slice none 0 0) := (blk_cell BK249.out 1).trans rfl; have hfz8_0 := blk_frozen BK249.out 0; have hfz8_1 := blk_frozen BK249.out 1; obtain ⟨Ao9, co9, eo9⟩ := Kd.R_slice HO247.out; subst eo9) | ((with_reducible refine gate_callee (f := 16) rfl ?_); refine goesL_ (some 18) rfl rfl Try.func16 (by kernel_rfl) rfl #[.agg #[.int .i64 t244, .slice Ao9 t245.length co9], .int .i64 t248] rfl (by (try simp only [List.map_toArray, List.map_cons, List.map_nil]); first | done | rfl | (simp only [List.length_drop, List.length_take]; rfl)) ?_; (with_reducible refine (impl_LoadNet.calls k t244 _ _ t245 t248 t250 t251 _ ?side1 ?side2 A4.out).mono ?_); (case side1 => refine (Kd.R_reads' (e := 31) (base := w.heap.size) (ok := fun k_ => True) (n := t245.length) (c := co9) ?_).2.2; exact (by (with_reducible repeat (first | apply Kd.R_alloc | apply Kd.R_drewN | apply Kd.R_drew)); exact (Kd.R_mono (Kd.R_far (p := ⟨gb249, 1, none⟩) (Kd.R_far (p := ⟨gb249, 0, none⟩) (Kd.R_types HO247.out BK249.out (by decide)) (fun _ hk => hk.2) (.int .i64 t244)) (fun _ hk => hk.2) (.slice Ao9 t245.length co9)) (fun _ h_ => h_.1)))); (case side2 => exact (Kd.R_reads' HO247.out).2.1); rintro e w10 ⟨v252, rfl, ho0, hb⟩; refine ⟨_, rfl, ?_⟩; have n0_ := Aside0.mk (Kd.R_elder' (by (with_reducible repeat (first | apply Kd.R_alloc | apply Kd.R_drewN | apply Kd.R_drew)); exact (Kd.R_mono (Kd.R_far (p := ⟨gb249, 1, none⟩) (Kd.R_far (p := ⟨gb249, 0, none⟩) (Kd.R_types HO247.out BK249.out (by decide)) (fun _ hk => hk.2) (.int .i64 t244)) (fun _ hk => hk.2) (.slice Ao9 t245.length co9)) (fun _ h_ => h_.1))) (Kd.R_base ho0) hb); have n1_ := Aside0.mk (Kd.R_lower (Kd.R_new' ho0 (Kd.R_lt (by (with_reducible repeat (first | apply Kd.R_alloc | apply Kd.R_drewN | apply Kd.R_drew)); exact (Kd.R_mono (Kd.R_far (p := ⟨gb249, 1, none⟩) (Kd.R_far (p := ⟨gb249, 0, none⟩) (Kd.R_types HO247.out BK249.out (by decide)) (fun _ hk => hk.2) (.int .i64 t244)) (fun _ hk => hk.2) (.slice Ao9 t245.length co9)) (fun _ h_ => h_.1))))) (below_size (bl1 HB GE249))); have n2_ := Aside0.mk (blk_below (g := gb249) (o := .cells #[.int .i64 t244, .slice Ao9 t245.length co9] 25 (0, 0)) (by (with_reducible repeat (first | refine blk_drewN ?_ _ | refine blk_drew ?_ | refine blk_alloc ?_ _)); refine blk_put (cs := #[.int .i64 t244, .slice none 0 0]) ?_ 1 _ rfl; (with_reducible repeat (first | refine blk_drewN ?_ _ | refine blk_drew ?_ | refine blk_alloc ?_ _)); refine blk_put (cs := #[.int .i64 0, .slice none 0 0]) ?_ 0 _ rfl; (with_reducible repeat (first | refine blk_drewN ?_ _ | refine blk_drew ?_ | refine blk_alloc ?_ _)); exact BK249.out) hb); have n3_ := Aside0.mk (below_step (bl1 HB GE249) hb); clear HO247; clear BK249; clear HB; have HO247 := n0_; have HO253 := n1_; have BK249 := n2_; have HB := n3_; clear n0_ n1_ n2_ n3_; (try clear hb); (try clear hb2); (try clear hk); (try clear hi); (try clear ho0)) | ((with_reducible refine gate_dst (N := 5) rfl ?_); refine box_event ?hg (N := 5) ?hd (cs := #[.int .i64 0, .slice none 0 0]) (t := 25) ?hr ?_; (case hd => rfl); (case hg => rfl); (case hr => first | (go_simp; done) | (go_simp; rfl)); intro gb254 hg w11 hbox hb; have n0_ := Aside0.mk (Kd.R_below (rk HO247) hb); have n1_ := Aside0.mk (Kd.R_below (rk HO253) hb); have n2_ := Aside0.mk (blk_below (bk BK249) hb); have n3_ := Aside0.mk (below_step (bl1 HB GE249) hb); have n4_ := Aside0.mk (hbox); have n5_ := Aside0.mk ((by rw [hg]; exact (below_size (bl1 HB GE249)) : w.heap.size ≤ gb254)); have n6_ := Aside0.mk ((by rw [hg]; exact (below_size (bl1 HB GE249)) : w.heap.size ≤ gb254)); have n7_ := Aside0.mk ((by rw [hg]; exact Nat.ne_of_lt (blk_lt (bk BK249)) : gb249 ≠ gb254)); have n8_ := Aside0.mk ((by rw [hg]; exact Nat.ne_of_gt (blk_lt (bk BK249)) : gb254 ≠ gb249)); clear HO247; clear HO253; clear BK249; clear HB; have HO247 := n0_; have HO253 := n1_; have BK249 := n2_; have HB := n3_; have BK254 := n4_; have GW254 := n5_; have GE254 := n6_; have NB249_254 := n7_; have NB254_249 := n8_; clear n0_ n1_ n2_ n3_ n4_ n5_ n6_ n7_ n8_; clear hb hbox hg; have hnb12 := NB254_249.out; have hnc12 := NB249_254.out; have hcz13_0 : w11.cell? ⟨gb254, 0, none⟩ = some (.int .i64 0) := (blk_cell BK254.out 0).trans rfl; have hcz13_1 : w11.cell? ⟨gb254, 1, none⟩ = some (.slice none 0 0) := (blk_cell BK254.out 1).trans rfl; have hfz13_0 := blk_frozen BK254.out 0; have hfz13_1 := blk_frozen BK254.out 1; obtain ⟨Ao14, co14, eo14⟩ := Kd.R_slice HO253.out; subst eo14))
  (try simp only [Act.put, List.setIfInBounds_toArray, List.set_cons_zero, List.set_cons_succ])
  go_cut [29] (fun v29 wc => ∃ (kq : Nat) (x29_4 : Bool), v29 = .bool x29_4 ∧ Aside0 (laws_FnLoadNet.j0 kq t248 x29_4 t244 t245 t250 t251 = some r) ∧ Aside0 (kq ≤ k) ∧ Aside0 (Kd.R k31 31 wc w.heap.size (fun k_ => some k_ ≠ ((.slice Ao14 t251.length co14) : Value).ownBlock) (.slice Ao9 t245.length co9) t245) ∧ Aside0 (Kd.R k31 31 wc w.heap.size (fun k_ => some k_ ≠ ((.slice Ao9 t245.length co9) : Value).ownBlock) (.slice Ao14 t251.length co14) t251) ∧ Aside0 (wc.heap[gb249]? = some (.cells #[.int .i64 t244, (.slice Ao9 t245.length co9)] 25 (0, 0))) ∧ Aside0 (wc.heap[gb254]? = some (.cells #[.int .i64 t250, (.slice Ao14 t251.length co14)] 25 (0, 0))) ∧ Aside0 (Below w.heap.size w wc))
  case first =>
   have H := HC5.out
   clear HC5
   replace H := Option.bind_eq_some_iff.mp H
   obtain ⟨⟨t255, t256⟩, A150, H⟩ := H
   have A15 := Aside0.mk A150
   clear A150
   replace H := Option.bind_eq_some_iff.mp H
   obtain ⟨t259, A160, H⟩ := H
   have A16 := Aside0.mk A160
   clear A160
   by_cases c17 : t259 = true
   ·subst c17
    rw [if_pos rfl] at H
    have H' := Aside0.mk H
    clear H
    try go_wp2
    have n0_ : Aside0 (Kd.R k31 31 ((w11.setCell ⟨gb254, 0, none⟩ (.int .i64 t250)).setCell ⟨gb254, 1, none⟩ (.slice Ao14 t251.length co14)) w.heap.size (fun k_ => some k_ ≠ (.slice Ao14 t251.length co14 : Value).ownBlock) (.slice Ao9 t245.length co9) t245) := ⟨by (with_reducible repeat (first | apply Kd.R_alloc | apply Kd.R_drewN | apply Kd.R_drew)); exact Kd.R_mono (Kd.R_far (p := ⟨gb254, 1, none⟩) (Kd.R_far (p := ⟨gb254, 0, none⟩) (Kd.R_types HO247.out BK254.out (by decide)) (fun _ hk => hk.2) (.int .i64 t250)) (fun _ hk => hk.2) (.slice Ao14 t251.length co14)) (fun _ hk => hk.1.2)⟩
    have n1_ : Aside0 (Kd.R k31 31 ((w11.setCell ⟨gb254, 0, none⟩ (.int .i64 t250)).setCell ⟨gb254, 1, none⟩ (.slice Ao14 t251.length co14)) w.heap.size (fun k_ => some k_ ≠ (.slice Ao9 t245.length co9 : Value).ownBlock) (.slice Ao14 t251.length co14) t251) := ⟨by (with_reducible repeat (first | apply Kd.R_alloc | apply Kd.R_drewN | apply Kd.R_drew)); exact Kd.R_mono (Kd.R_far (p := ⟨gb254, 1, none⟩) (Kd.R_far (p := ⟨gb254, 0, none⟩) (Kd.R_types HO253.out BK254.out (by decide)) (fun _ hk => hk.2) (.int .i64 t250)) (fun _ hk => hk.2) (.slice Ao14 t251.length co14)) (fun _ hk => hk.1.2)⟩
    have n2_ : Aside0 (((w11.setCell ⟨gb254, 0, none⟩ (.int .i64 t250)).setCell ⟨gb254, 1, none⟩ (.slice Ao14 t251.length co14)).heap[gb249]? = some (.cells #[.int .i64 t244, .slice Ao9 t245.length co9] 25 (0, 0))) := ⟨by (with_reducible repeat (first | refine blk_drewN ?_ _ | refine blk_drew ?_ | refine blk_alloc ?_ _)); refine blk_far ?_ NB249_254.out _; (with_reducible repeat (first | refine blk_drewN ?_ _ | refine blk_drew ?_ | refine blk_alloc ?_ _)); refine blk_far ?_ NB249_254.out _; (with_reducible repeat (first | refine blk_drewN ?_ _ | refine blk_drew ?_ | refine blk_alloc ?_ _)); exact BK249.out⟩
    have n3_ : Aside0 (((w11.setCell ⟨gb254, 0, none⟩ (.int .i64 t250)).setCell ⟨gb254, 1, none⟩ (.slice Ao14 t251.length co14)).heap[gb254]? = some (.cells #[.int .i64 t250, .slice Ao14 t251.length co14] 25 (0, 0))) := ⟨by (with_reducible repeat (first | refine blk_drewN ?_ _ | refine blk_drew ?_ | refine blk_alloc ?_ _)); refine blk_put (cs := #[.int .i64 t250, .slice none 0 0]) ?_ 1 _ rfl; (with_reducible repeat (first | refine blk_drewN ?_ _ | refine blk_drew ?_ | refine blk_alloc ?_ _)); refine blk_put (cs := #[.int .i64 0, .slice none 0 0]) ?_ 0 _ rfl; (with_reducible repeat (first | refine blk_drewN ?_ _ | refine blk_drew ?_ | refine blk_alloc ?_ _)); exact BK254.out⟩
    have n4_ : Aside0 (Below w.heap.size w ((w11.setCell ⟨gb254, 0, none⟩ (.int .i64 t250)).setCell ⟨gb254, 1, none⟩ (.slice Ao14 t251.length co14))) := ⟨bl2 HB GE249 GE254⟩
    (try clear HO247)
    (try clear HO253)
    (try clear BK249)
    (try clear BK254)
    (try clear HB)
    generalize ((w11.setCell ⟨gb254, 0, none⟩ (.int .i64 t250)).setCell ⟨gb254, 1, none⟩ (.slice Ao14 t251.length co14)) = w18 at n0_ n1_ n2_ n3_ n4_ ⊢
    have HO247 := n0_
    have HO253 := n1_
    have BK249 := n2_
    have BK254 := n3_
    have HB := n4_
    clear n0_ n1_ n2_ n3_ n4_
    have n0_ := Aside0.mk (Kd.R_drew HO247.out)
    have n1_ := Aside0.mk (Kd.R_drew HO253.out)
    have n2_ := Aside0.mk (blk_drew BK249.out)
    have n3_ := Aside0.mk (blk_drew BK254.out)
    have n4_ := Aside0.mk (below_drew1 HB.out)
    clear HO247
    clear HO253
    clear BK249
    clear BK254
    clear HB
    have HO247 := n0_
    have HO253 := n1_
    have BK249 := n2_
    have BK254 := n3_
    have HB := n4_
    clear n0_ n1_ n2_ n3_ n4_
    refine start_ (n := 11) (S := fun w' => w'.cell? ⟨gb254, 0, none⟩ = some (.int .i64 t250) ∧ w'.cell? ⟨gb254, 1, none⟩ = some (.slice Ao14 t251.length co14) ∧ w'.cell? ⟨gb249, 0, none⟩ = some (.int .i64 t244) ∧ w'.cell? ⟨gb249, 1, none⟩ = some (.slice Ao9 t245.length co9)) (ds := []) (ms 11 0) (by kernel_rfl) rfl (by kernel_rfl) ⟨(blk_cell BK254.out 0).trans rfl, (blk_cell BK254.out 1).trans rfl, (blk_cell BK249.out 0).trans rfl, (blk_cell BK249.out 1).trans rfl⟩ (fun hHeld => ?_); refine with_tabW laws_FnLoadNet.tab5 laws_FnLoadNet.bits5 (fun HT_ HW_ => ?_)
    generalize w18.drew = w19 at HO247 HO253 BK249 BK254 HB hHeld ⊢
    refine pure_ (i := 2) (N := some 21) (v := ?_) (a' := ?_) (ms 11 4) rfl rfl (any_of HT_.out (by kernel_rfl)) (fun _ _ _ h => h) (Or.inl ⟨by rfl, ?_⟩) ?_ ?_
    rotate_left
    ·intro w'
     go_simp
     with_reducible rfl
    rotate_left
    ·simp only [Act.put, sA, sB, sC, i64_w, i32_w]
     rfl
    refine take_ (i := 0) (N := some 19) (v := ?_) (a' := ?_) (ms 11 5) rfl rfl (take_ofW HT_.out HW_.out (by kernel_rfl)) (fun _ _ _ h => h) (Or.inl ⟨by rfl, ?_⟩) hHeld ?_ ?_
    rotate_left
    ·rintro w' ⟨s0, s1, s2, s3⟩
     go_simp
     with_reducible rfl
    rotate_left
    ·simp only [Act.put, sA, sB, sC, i64_w, i32_w]
     rfl
    refine take_ (i := 1) (N := some 20) (v := ?_) (a' := ?_) (ms 11 7) rfl rfl (take_ofW HT_.out HW_.out (by kernel_rfl)) (fun _ _ _ h => h) (Or.inl ⟨by rfl, ?_⟩) hHeld ?_ ?_
    rotate_left
    ·rintro w' ⟨s0, s1, s2, s3⟩
     go_simp
     with_reducible rfl
    rotate_left
    ·simp only [Act.put, sA, sB, sC, i64_w, i32_w]
     rfl
    refine one_ (i := 3) (N := some 22) (ms 11 15) rfl rfl (one_of HT_.out (by kernel_rfl)) (by decide) (fun K hK => ?_)
    refine goes_ Try.func18 (by kernel_rfl) rfl #[.agg #[.int .i64 t244, .slice Ao9 t245.length co9], .int .i64 t248] (by rfl) rfl rfl (by (try simp only [List.map_toArray, List.map_cons, List.map_nil]); first | done | rfl | (simp only [List.length_drop, List.length_take]; rfl)) ?_
    with_reducible refine (spec_LoadNet.calls k t244 _ _ t245 t248 t255 t256 _ ?side1 ?side2 A15.out).mono ?_
    (case side1 => repeat (first | exact (Kd.R_reads' HO247.out).2.2 | (with_reducible refine Kd.C_alloc ?_ _) | (with_reducible refine Kd.C_drewN ?_ _) | (with_reducible refine Kd.C_drew ?_)))
    (case side2 => exact (Kd.R_reads' HO247.out).2.1)
    rintro e w20 ⟨v257, rfl, ho0, hb⟩
    refine ⟨_, rfl, ?_⟩
    have n0_ := Aside0.mk (Kd.R_elder' (rk HO247) (Kd.R_base ho0) hb)
    have n1_ := Aside0.mk (Kd.R_elder' (rk HO253) (Kd.R_base ho0) hb)
    have n2_ := Aside0.mk (Kd.R_lower (Kd.R_new' (Kd.R_new' ho0 (Kd.R_lt (rk HO247))) (Kd.R_lt (rk HO253))) (below_size (bl2 HB GE249 GE254)))
    have n3_ := Aside0.mk (blk_below (bk BK249) hb)
    have n4_ := Aside0.mk (blk_below (bk BK254) hb)
    have n5_ := Aside0.mk (below_step (bl2 HB GE249 GE254) hb)
    clear HO247
    clear HO253
    clear BK249
    clear BK254
    clear HB
    have HO247 := n0_
    have HO253 := n1_
    have HO258 := n2_
    have BK249 := n3_
    have BK254 := n4_
    have HB := n5_
    clear n0_ n1_ n2_ n3_ n4_ n5_
    (try clear hb)
    (try clear hb2)
    (try clear hk)
    (try clear hi)
    (try clear ho0)
    obtain ⟨Ao21, co21, eo21⟩ := Kd.R_slice HO258.out
    (first | subst eo21 | (injection eo21 with f1_ f2_ f3_; have f4_ := f1_.symm; have f5_ := f3_.symm; clear f1_ f2_ f3_; subst f4_; subst f5_))
    refine hK.out _ _ ⟨(blk_cell BK254.out 0).trans rfl, (blk_cell BK254.out 1).trans rfl, (blk_cell BK249.out 0).trans rfl, (blk_cell BK249.out 1).trans rfl⟩ (fun hHeld => ?_)
    clear hK K
    refine norm_ (a' := ?_) ?_ ?_
    rotate_left
    ·show Act.put _ (some 22) _ = _
     simp only [Act.put, sA, sB, sC, i64_w, i32_w]
     rfl
    refine one_ (i := 4) (N := some 23) (ms 11 31) rfl rfl (one_of HT_.out (by kernel_rfl)) (by decide) (fun K hK => ?_)
    refine goes_ Try.func17 (by kernel_rfl) rfl #[.agg #[.int .i64 t250, .slice Ao14 t251.length co14], .agg #[.int .i64 t255, .slice Ao21 t256.length co21]] (by rfl) rfl rfl (by (try simp only [List.map_toArray, List.map_cons, List.map_nil]); first | done | rfl | (simp only [List.length_drop, List.length_take]; rfl)) ?_
    with_reducible refine (laws_wkNet.calls k t250 _ _ t251 t255 _ _ t256 true _ ?side1 ?side2 ?side3 ?side4 A16.out).mono ?_
    (case side1 => repeat (first | exact (Kd.R_reads' HO253.out).2.2 | (with_reducible refine Kd.C_alloc ?_ _) | (with_reducible refine Kd.C_drewN ?_ _) | (with_reducible refine Kd.C_drew ?_)))
    (case side2 => exact (Kd.R_reads' HO253.out).2.1)
    (case side3 => repeat (first | exact (Kd.R_reads' HO258.out).2.2 | (with_reducible refine Kd.C_alloc ?_ _) | (with_reducible refine Kd.C_drewN ?_ _) | (with_reducible refine Kd.C_drew ?_)))
    (case side4 => exact (Kd.R_reads' HO258.out).2.1)
    rintro e w22 ⟨rfl, hb⟩
    refine ⟨_, rfl, ?_⟩
    have n0_ := Aside0.mk (Kd.R_below (rk HO247) hb)
    have n1_ := Aside0.mk (Kd.R_below (rk HO253) hb)
    have n2_ := Aside0.mk (Kd.R_below (rk HO258) hb)
    have n3_ := Aside0.mk (blk_below (bk BK249) hb)
    have n4_ := Aside0.mk (blk_below (bk BK254) hb)
    have n5_ := Aside0.mk (below_step (bl2 HB GE249 GE254) hb)
    clear HO247
    clear HO253
    clear HO258
    clear BK249
    clear BK254
    clear HB
    have HO247 := n0_
    have HO253 := n1_
    have HO258 := n2_
    have BK249 := n3_
    have BK254 := n4_
    have HB := n5_
    clear n0_ n1_ n2_ n3_ n4_ n5_
    (try clear hb)
    (try clear hb2)
    (try clear hk)
    (try clear hi)
    refine hK.out _ _ ⟨(blk_cell BK254.out 0).trans rfl, (blk_cell BK254.out 1).trans rfl, (blk_cell BK249.out 0).trans rfl, (blk_cell BK249.out 1).trans rfl⟩ (fun hHeld => ?_)
    clear hK K
    refine norm_ (a' := ?_) ?_ ?_
    rotate_left
    ·show Act.put _ (some 23) _ = _
     simp only [Act.put, sA, sB, sC, i64_w, i32_w]
     rfl
    refine pure_ (i := 5) (N := some 24) (v := ?_) (a' := ?_) (ms 11 63) rfl rfl (any_of HT_.out (by kernel_rfl)) (fun _ _ _ h => h) (Or.inl ⟨by rfl, ?_⟩) ?_ ?_
    rotate_left
    ·intro w'
     go_simp
     with_reducible rfl
    rotate_left
    ·simp only [Act.put, sA, sB, sC, i64_w, i32_w]
     rfl
    refine pure_ (i := 6) (N := some 25) (v := ?_) (a' := ?_) (ms 11 127) rfl rfl (any_of HT_.out (by kernel_rfl)) (fun _ _ _ h => h) (Or.inl ⟨by rfl, ?_⟩) ?_ ?_
    rotate_left
    ·intro w'
     go_simp
     with_reducible rfl
    rotate_left
    ·simp only [Act.put, sA, sB, sC, i64_w, i32_w]
     rfl
    refine pure_ (i := 7) (N := some 26) (v := ?_) (a' := ?_) (ms 11 255) rfl rfl (any_of HT_.out (by kernel_rfl)) (fun _ _ _ h => h) (Or.inl ⟨by rfl, ?_⟩) ?_ ?_
    rotate_left
    ·intro w'
     go_simp
     with_reducible rfl
    rotate_left
    ·simp only [Act.put, sA, sB, sC, i64_w, i32_w]
     rfl
    refine take_ (i := 8) (N := some 27) (v := ?_) (a' := ?_) (ms 11 511) rfl rfl (take_ofW HT_.out HW_.out (by kernel_rfl)) (fun _ _ _ h => h) (Or.inl ⟨by rfl, ?_⟩) hHeld ?_ ?_
    rotate_left
    ·rintro w' ⟨s0, s1, s2, s3⟩
     go_simp
     with_reducible rfl
    rotate_left
    ·simp only [Act.put, sA, sB, sC, i64_w, i32_w]
     rfl
    refine pure_ (i := 9) (N := some 28) (v := ?_) (a' := ?_) (ms 11 1023) rfl rfl (any_of HT_.out (by kernel_rfl)) (fun _ _ _ h => h) (Or.inl ⟨by rfl, ?_⟩) ?_ ?_
    rotate_left
    ·intro w'
     go_simp
     with_reducible rfl
    rotate_left
    ·simp only [Act.put, sA, sB, sC, i64_w, i32_w]
     rfl
    refine pure_ (i := 10) (N := some 29) (v := ?_) (a' := ?_) (ms 11 2047) rfl rfl (any_of HT_.out (by kernel_rfl)) (fun _ _ _ h => h) (Or.inl ⟨by rfl, ?_⟩) ?_ ?_
    rotate_left
    ·intro w'
     go_simp
     with_reducible rfl
    rotate_left
    ·simp only [Act.put, sA, sB, sC, i64_w, i32_w]
     rfl
    refine done_ (done_of HT_.out (by kernel_rfl)) ?_
    try go_wp2
    go_meet
    case rel => exact ⟨_, ((t250 == 0)), (by first | rfl | (simp; done) | (simp [*]; done)), H', ⟨by first | omega | exact Nat.le_refl _⟩, ⟨by (with_reducible repeat (first | apply Kd.R_alloc | apply Kd.R_drewN | apply Kd.R_drew)); exact Kd.R_mono HO247.out (fun _ hk => hk.1)⟩, ⟨by (with_reducible repeat (first | apply Kd.R_alloc | apply Kd.R_drewN | apply Kd.R_drew)); exact Kd.R_mono HO253.out (fun _ hk => hk.1)⟩, ⟨bk BK249⟩, ⟨bk BK254⟩, ⟨bl2 HB GE249 GE254⟩⟩
   ·replace c17 := Bool.eq_false_iff.mpr c17
    subst c17
    rw [if_neg (show ¬ (false = true) by decide)] at H
    have H' := Aside0.mk H
    clear H
    try go_wp2
    have n0_ : Aside0 (Kd.R k31 31 ((w11.setCell ⟨gb254, 0, none⟩ (.int .i64 t250)).setCell ⟨gb254, 1, none⟩ (.slice Ao14 t251.length co14)) w.heap.size (fun k_ => some k_ ≠ (.slice Ao14 t251.length co14 : Value).ownBlock) (.slice Ao9 t245.length co9) t245) := ⟨by (with_reducible repeat (first | apply Kd.R_alloc | apply Kd.R_drewN | apply Kd.R_drew)); exact Kd.R_mono (Kd.R_far (p := ⟨gb254, 1, none⟩) (Kd.R_far (p := ⟨gb254, 0, none⟩) (Kd.R_types HO247.out BK254.out (by decide)) (fun _ hk => hk.2) (.int .i64 t250)) (fun _ hk => hk.2) (.slice Ao14 t251.length co14)) (fun _ hk => hk.1.2)⟩
    have n1_ : Aside0 (Kd.R k31 31 ((w11.setCell ⟨gb254, 0, none⟩ (.int .i64 t250)).setCell ⟨gb254, 1, none⟩ (.slice Ao14 t251.length co14)) w.heap.size (fun k_ => some k_ ≠ (.slice Ao9 t245.length co9 : Value).ownBlock) (.slice Ao14 t251.length co14) t251) := ⟨by (with_reducible repeat (first | apply Kd.R_alloc | apply Kd.R_drewN | apply Kd.R_drew)); exact Kd.R_mono (Kd.R_far (p := ⟨gb254, 1, none⟩) (Kd.R_far (p := ⟨gb254, 0, none⟩) (Kd.R_types HO253.out BK254.out (by decide)) (fun _ hk => hk.2) (.int .i64 t250)) (fun _ hk => hk.2) (.slice Ao14 t251.length co14)) (fun _ hk => hk.1.2)⟩
    have n2_ : Aside0 (((w11.setCell ⟨gb254, 0, none⟩ (.int .i64 t250)).setCell ⟨gb254, 1, none⟩ (.slice Ao14 t251.length co14)).heap[gb249]? = some (.cells #[.int .i64 t244, .slice Ao9 t245.length co9] 25 (0, 0))) := ⟨by (with_reducible repeat (first | refine blk_drewN ?_ _ | refine blk_drew ?_ | refine blk_alloc ?_ _)); refine blk_far ?_ NB249_254.out _; (with_reducible repeat (first | refine blk_drewN ?_ _ | refine blk_drew ?_ | refine blk_alloc ?_ _)); refine blk_far ?_ NB249_254.out _; (with_reducible repeat (first | refine blk_drewN ?_ _ | refine blk_drew ?_ | refine blk_alloc ?_ _)); exact BK249.out⟩
    have n3_ : Aside0 (((w11.setCell ⟨gb254, 0, none⟩ (.int .i64 t250)).setCell ⟨gb254, 1, none⟩ (.slice Ao14 t251.length co14)).heap[gb254]? = some (.cells #[.int .i64 t250, .slice Ao14 t251.length co14] 25 (0, 0))) := ⟨by (with_reducible repeat (first | refine blk_drewN ?_ _ | refine blk_drew ?_ | refine blk_alloc ?_ _)); refine blk_put (cs := #[.int .i64 t250, .slice none 0 0]) ?_ 1 _ rfl; (with_reducible repeat (first | refine blk_drewN ?_ _ | refine blk_drew ?_ | refine blk_alloc ?_ _)); refine blk_put (cs := #[.int .i64 0, .slice none 0 0]) ?_ 0 _ rfl; (with_reducible repeat (first | refine blk_drewN ?_ _ | refine blk_drew ?_ | refine blk_alloc ?_ _)); exact BK254.out⟩
    have n4_ : Aside0 (Below w.heap.size w ((w11.setCell ⟨gb254, 0, none⟩ (.int .i64 t250)).setCell ⟨gb254, 1, none⟩ (.slice Ao14 t251.length co14))) := ⟨bl2 HB GE249 GE254⟩
    (try clear HO247)
    (try clear HO253)
    (try clear BK249)
    (try clear BK254)
    (try clear HB)
    generalize ((w11.setCell ⟨gb254, 0, none⟩ (.int .i64 t250)).setCell ⟨gb254, 1, none⟩ (.slice Ao14 t251.length co14)) = w23 at n0_ n1_ n2_ n3_ n4_ ⊢
    have HO247 := n0_
    have HO253 := n1_
    have BK249 := n2_
    have BK254 := n3_
    have HB := n4_
    clear n0_ n1_ n2_ n3_ n4_
    have n0_ := Aside0.mk (Kd.R_drew HO247.out)
    have n1_ := Aside0.mk (Kd.R_drew HO253.out)
    have n2_ := Aside0.mk (blk_drew BK249.out)
    have n3_ := Aside0.mk (blk_drew BK254.out)
    have n4_ := Aside0.mk (below_drew1 HB.out)
    clear HO247
    clear HO253
    clear BK249
    clear BK254
    clear HB
    have HO247 := n0_
    have HO253 := n1_
    have BK249 := n2_
    have BK254 := n3_
    have HB := n4_
    clear n0_ n1_ n2_ n3_ n4_
    refine start_ (n := 11) (S := fun w' => w'.cell? ⟨gb254, 0, none⟩ = some (.int .i64 t250) ∧ w'.cell? ⟨gb254, 1, none⟩ = some (.slice Ao14 t251.length co14) ∧ w'.cell? ⟨gb249, 0, none⟩ = some (.int .i64 t244) ∧ w'.cell? ⟨gb249, 1, none⟩ = some (.slice Ao9 t245.length co9)) (ds := []) (ms 11 0) (by kernel_rfl) rfl (by kernel_rfl) ⟨(blk_cell BK254.out 0).trans rfl, (blk_cell BK254.out 1).trans rfl, (blk_cell BK249.out 0).trans rfl, (blk_cell BK249.out 1).trans rfl⟩ (fun hHeld => ?_); refine with_tabW laws_FnLoadNet.tab5 laws_FnLoadNet.bits5 (fun HT_ HW_ => ?_)
    generalize w23.drew = w24 at HO247 HO253 BK249 BK254 HB hHeld ⊢
    refine pure_ (i := 2) (N := some 21) (v := ?_) (a' := ?_) (ms 11 4) rfl rfl (any_of HT_.out (by kernel_rfl)) (fun _ _ _ h => h) (Or.inl ⟨by rfl, ?_⟩) ?_ ?_
    rotate_left
    ·intro w'
     go_simp
     with_reducible rfl
    rotate_left
    ·simp only [Act.put, sA, sB, sC, i64_w, i32_w]
     rfl
    refine take_ (i := 0) (N := some 19) (v := ?_) (a' := ?_) (ms 11 5) rfl rfl (take_ofW HT_.out HW_.out (by kernel_rfl)) (fun _ _ _ h => h) (Or.inl ⟨by rfl, ?_⟩) hHeld ?_ ?_
    rotate_left
    ·rintro w' ⟨s0, s1, s2, s3⟩
     go_simp
     with_reducible rfl
    rotate_left
    ·simp only [Act.put, sA, sB, sC, i64_w, i32_w]
     rfl
    refine take_ (i := 1) (N := some 20) (v := ?_) (a' := ?_) (ms 11 7) rfl rfl (take_ofW HT_.out HW_.out (by kernel_rfl)) (fun _ _ _ h => h) (Or.inl ⟨by rfl, ?_⟩) hHeld ?_ ?_
    rotate_left
    ·rintro w' ⟨s0, s1, s2, s3⟩
     go_simp
     with_reducible rfl
    rotate_left
    ·simp only [Act.put, sA, sB, sC, i64_w, i32_w]
     rfl
    refine one_ (i := 3) (N := some 22) (ms 11 15) rfl rfl (one_of HT_.out (by kernel_rfl)) (by decide) (fun K hK => ?_)
    refine goes_ Try.func18 (by kernel_rfl) rfl #[.agg #[.int .i64 t244, .slice Ao9 t245.length co9], .int .i64 t248] (by rfl) rfl rfl (by (try simp only [List.map_toArray, List.map_cons, List.map_nil]); first | done | rfl | (simp only [List.length_drop, List.length_take]; rfl)) ?_
    with_reducible refine (spec_LoadNet.calls k t244 _ _ t245 t248 t255 t256 _ ?side1 ?side2 A15.out).mono ?_
    (case side1 => repeat (first | exact (Kd.R_reads' HO247.out).2.2 | (with_reducible refine Kd.C_alloc ?_ _) | (with_reducible refine Kd.C_drewN ?_ _) | (with_reducible refine Kd.C_drew ?_)))
    (case side2 => exact (Kd.R_reads' HO247.out).2.1)
    rintro e w25 ⟨v257, rfl, ho0, hb⟩
    refine ⟨_, rfl, ?_⟩
    have n0_ := Aside0.mk (Kd.R_elder' (rk HO247) (Kd.R_base ho0) hb)
    have n1_ := Aside0.mk (Kd.R_elder' (rk HO253) (Kd.R_base ho0) hb)
    have n2_ := Aside0.mk (Kd.R_lower (Kd.R_new' (Kd.R_new' ho0 (Kd.R_lt (rk HO247))) (Kd.R_lt (rk HO253))) (below_size (bl2 HB GE249 GE254)))
    have n3_ := Aside0.mk (blk_below (bk BK249) hb)
    have n4_ := Aside0.mk (blk_below (bk BK254) hb)
    have n5_ := Aside0.mk (below_step (bl2 HB GE249 GE254) hb)
    clear HO247
    clear HO253
    clear BK249
    clear BK254
    clear HB
    have HO247 := n0_
    have HO253 := n1_
    have HO258 := n2_
    have BK249 := n3_
    have BK254 := n4_
    have HB := n5_
    clear n0_ n1_ n2_ n3_ n4_ n5_
    (try clear hb)
    (try clear hb2)
    (try clear hk)
    (try clear hi)
    (try clear ho0)
    obtain ⟨Ao26, co26, eo26⟩ := Kd.R_slice HO258.out
    (first | subst eo26 | (injection eo26 with f1_ f2_ f3_; have f4_ := f1_.symm; have f5_ := f3_.symm; clear f1_ f2_ f3_; subst f4_; subst f5_))
    refine hK.out _ _ ⟨(blk_cell BK254.out 0).trans rfl, (blk_cell BK254.out 1).trans rfl, (blk_cell BK249.out 0).trans rfl, (blk_cell BK249.out 1).trans rfl⟩ (fun hHeld => ?_)
    clear hK K
    refine norm_ (a' := ?_) ?_ ?_
    rotate_left
    ·show Act.put _ (some 22) _ = _
     simp only [Act.put, sA, sB, sC, i64_w, i32_w]
     rfl
    refine one_ (i := 4) (N := some 23) (ms 11 31) rfl rfl (one_of HT_.out (by kernel_rfl)) (by decide) (fun K hK => ?_)
    refine goes_ Try.func17 (by kernel_rfl) rfl #[.agg #[.int .i64 t250, .slice Ao14 t251.length co14], .agg #[.int .i64 t255, .slice Ao26 t256.length co26]] (by rfl) rfl rfl (by (try simp only [List.map_toArray, List.map_cons, List.map_nil]); first | done | rfl | (simp only [List.length_drop, List.length_take]; rfl)) ?_
    with_reducible refine (laws_wkNet.calls k t250 _ _ t251 t255 _ _ t256 false _ ?side1 ?side2 ?side3 ?side4 A16.out).mono ?_
    (case side1 => repeat (first | exact (Kd.R_reads' HO253.out).2.2 | (with_reducible refine Kd.C_alloc ?_ _) | (with_reducible refine Kd.C_drewN ?_ _) | (with_reducible refine Kd.C_drew ?_)))
    (case side2 => exact (Kd.R_reads' HO253.out).2.1)
    (case side3 => repeat (first | exact (Kd.R_reads' HO258.out).2.2 | (with_reducible refine Kd.C_alloc ?_ _) | (with_reducible refine Kd.C_drewN ?_ _) | (with_reducible refine Kd.C_drew ?_)))
    (case side4 => exact (Kd.R_reads' HO258.out).2.1)
    rintro e w27 ⟨rfl, hb⟩
    refine ⟨_, rfl, ?_⟩
    have n0_ := Aside0.mk (Kd.R_below (rk HO247) hb)
    have n1_ := Aside0.mk (Kd.R_below (rk HO253) hb)
    have n2_ := Aside0.mk (Kd.R_below (rk HO258) hb)
    have n3_ := Aside0.mk (blk_below (bk BK249) hb)
    have n4_ := Aside0.mk (blk_below (bk BK254) hb)
    have n5_ := Aside0.mk (below_step (bl2 HB GE249 GE254) hb)
    clear HO247
    clear HO253
    clear HO258
    clear BK249
    clear BK254
    clear HB
    have HO247 := n0_
    have HO253 := n1_
    have HO258 := n2_
    have BK249 := n3_
    have BK254 := n4_
    have HB := n5_
    clear n0_ n1_ n2_ n3_ n4_ n5_
    (try clear hb)
    (try clear hb2)
    (try clear hk)
    (try clear hi)
    refine hK.out _ _ ⟨(blk_cell BK254.out 0).trans rfl, (blk_cell BK254.out 1).trans rfl, (blk_cell BK249.out 0).trans rfl, (blk_cell BK249.out 1).trans rfl⟩ (fun hHeld => ?_)
    clear hK K
    refine norm_ (a' := ?_) ?_ ?_
    rotate_left
    ·show Act.put _ (some 23) _ = _
     simp only [Act.put, sA, sB, sC, i64_w, i32_w]
     rfl
    refine pure_ (i := 5) (N := some 24) (v := ?_) (a' := ?_) (ms 11 63) rfl rfl (any_of HT_.out (by kernel_rfl)) (fun _ _ _ h => h) (Or.inl ⟨by rfl, ?_⟩) ?_ ?_
    rotate_left
    ·intro w'
     go_simp
     with_reducible rfl
    rotate_left
    ·simp only [Act.put, sA, sB, sC, i64_w, i32_w]
     rfl
    refine pure_ (i := 6) (N := some 25) (v := ?_) (a' := ?_) (ms 11 127) rfl rfl (any_of HT_.out (by kernel_rfl)) (fun _ _ _ h => h) (Or.inl ⟨by rfl, ?_⟩) ?_ ?_
    rotate_left
    ·intro w'
     go_simp
     with_reducible rfl
    rotate_left
    ·simp only [Act.put, sA, sB, sC, i64_w, i32_w]
     rfl
    refine pure_ (i := 7) (N := some 26) (v := undef) (a' := ?_) (ms 11 255) rfl rfl (any_of HT_.out (by kernel_rfl)) (fun _ _ _ h => h) (Or.inr ⟨by rfl, rfl⟩) ?_ ?_
    rotate_left
    ·simp only [Act.put, sA, sB, sC, i64_w, i32_w]
     rfl
    refine pure_ (i := 8) (N := some 27) (v := undef) (a' := ?_) (ms 11 511) rfl rfl (any_of HT_.out (by kernel_rfl)) (fun _ _ _ h => h) (Or.inr ⟨by rfl, rfl⟩) ?_ ?_
    rotate_left
    ·simp only [Act.put, sA, sB, sC, i64_w, i32_w]
     rfl
    refine pure_ (i := 9) (N := some 28) (v := undef) (a' := ?_) (ms 11 1023) rfl rfl (any_of HT_.out (by kernel_rfl)) (fun _ _ _ h => h) (Or.inr ⟨by rfl, rfl⟩) ?_ ?_
    rotate_left
    ·simp only [Act.put, sA, sB, sC, i64_w, i32_w]
     rfl
    refine pure_ (i := 10) (N := some 29) (v := ?_) (a' := ?_) (ms 11 2047) rfl rfl (any_of HT_.out (by kernel_rfl)) (fun _ _ _ h => h) (Or.inl ⟨by rfl, ?_⟩) ?_ ?_
    rotate_left
    ·intro w'
     go_simp
     with_reducible rfl
    rotate_left
    ·simp only [Act.put, sA, sB, sC, i64_w, i32_w]
     rfl
    refine done_ (done_of HT_.out (by kernel_rfl)) ?_
    try go_wp2
    go_meet
    case rel => exact ⟨_, (true), (by first | rfl | (simp; done) | (simp [*]; done)), H', ⟨by first | omega | exact Nat.le_refl _⟩, ⟨by (with_reducible repeat (first | apply Kd.R_alloc | apply Kd.R_drewN | apply Kd.R_drew)); exact Kd.R_mono HO247.out (fun _ hk => hk.1)⟩, ⟨by (with_reducible repeat (first | apply Kd.R_alloc | apply Kd.R_drewN | apply Kd.R_drew)); exact Kd.R_mono HO253.out (fun _ hk => hk.1)⟩, ⟨bk BK249⟩, ⟨bk BK254⟩, ⟨bl2 HB GE249 GE254⟩⟩
  case rest =>
   clear HC5
   try clear c1
   try clear c2
   try clear c2b0
   try clear c2b1
   try clear p2
   try clear c3
   try clear c12
   try clear c15
   try clear c16
   try clear c17
   try clear c18
   try clear hcz13_0
   try clear hcz13_1
   try clear hcz8_0
   try clear hcz8_1
   try clear hfz13_0
   try clear hfz13_1
   try clear hfz8_0
   try clear hfz8_1
   obtain ⟨kq, x29_4, rfl, HA, HJ4, HO_250001, HO_255001, BK249, BK254, HB⟩ := hcut
   cases kq with
   | zero => exact absurd HA.out (by simp [laws_FnLoadNet.j0])
   | succ kj4 =>
    have H := HA.out
    clear HA
    simp only [laws_FnLoadNet.j0] at H
    by_cases c28 : x29_4 = true
    ·subst c28
     rw [if_pos rfl] at H
     replace H := Option.bind_eq_some_iff.mp H
     obtain ⟨⟨t260, t261⟩, A290, H⟩ := H
     have A29 := Aside0.mk A290
     clear A290
     replace H := Option.bind_eq_some_iff.mp H
     obtain ⟨t264, A300, H⟩ := H
     have A30 := Aside0.mk A300
     clear A300
     obtain rfl := Option.some.inj H
     try go_wp2
     have n0_ := Aside0.mk (Kd.R_drew HO_250001.out)
     have n1_ := Aside0.mk (Kd.R_drew HO_255001.out)
     have n2_ := Aside0.mk (blk_drew BK249.out)
     have n3_ := Aside0.mk (blk_drew BK254.out)
     have n4_ := Aside0.mk (below_drew1 HB.out)
     clear HO_250001
     clear HO_255001
     clear BK249
     clear BK254
     clear HB
     have HO_250001 := n0_
     have HO_255001 := n1_
     have BK249 := n2_
     have BK254 := n3_
     have HB := n4_
     clear n0_ n1_ n2_ n3_ n4_
     refine start_ (n := 6) (S := fun w' => w'.cell? ⟨gb254, 0, none⟩ = some (.int .i64 t250) ∧ w'.cell? ⟨gb254, 1, none⟩ = some (.slice Ao14 t251.length co14) ∧ w'.cell? ⟨gb249, 0, none⟩ = some (.int .i64 t244) ∧ w'.cell? ⟨gb249, 1, none⟩ = some (.slice Ao9 t245.length co9)) (ds := []) (ms 6 0) (by kernel_rfl) rfl (by kernel_rfl) ⟨(blk_cell BK254.out 0).trans rfl, (blk_cell BK254.out 1).trans rfl, (blk_cell BK249.out 0).trans rfl, (blk_cell BK249.out 1).trans rfl⟩ (fun hHeld => ?_)
     generalize wc.drew = w31 at HO_250001 HO_255001 BK249 BK254 HB hHeld ⊢
     refine pure_ (i := 2) (N := some 32) (v := ?_) (a' := ?_) (ms 6 4) rfl rfl (by kernel_rfl) (fun _ _ _ h => h) (Or.inl ⟨by rfl, ?_⟩) ?_ ?_
     rotate_left
     ·intro w'
      go_simp
      with_reducible rfl
     rotate_left
     ·simp only [Act.put, sA, sB, sC, i64_w, i32_w]
      rfl
     refine take_ (i := 0) (N := some 30) (v := ?_) (a' := ?_) (ms 6 5) rfl rfl (by kernel_rfl) (fun _ _ _ h => h) (Or.inl ⟨by rfl, ?_⟩) hHeld ?_ ?_
     rotate_left
     ·rintro w' ⟨s0, s1, s2, s3⟩
      go_simp
      with_reducible rfl
     rotate_left
     ·simp only [Act.put, sA, sB, sC, i64_w, i32_w]
      rfl
     refine take_ (i := 1) (N := some 31) (v := ?_) (a' := ?_) (ms 6 7) rfl rfl (by kernel_rfl) (fun _ _ _ h => h) (Or.inl ⟨by rfl, ?_⟩) hHeld ?_ ?_
     rotate_left
     ·rintro w' ⟨s0, s1, s2, s3⟩
      go_simp
      with_reducible rfl
     rotate_left
     ·simp only [Act.put, sA, sB, sC, i64_w, i32_w]
      rfl
     refine one_ (i := 3) (N := some 33) (ms 6 15) rfl rfl (by kernel_rfl) (by decide) (fun K hK => ?_)
     refine goes_ Try.func18 (by kernel_rfl) rfl #[.agg #[.int .i64 t244, .slice Ao9 t245.length co9], .int .i64 t248] (by rfl) rfl rfl (by (try simp only [List.map_toArray, List.map_cons, List.map_nil]); first | done | rfl | (simp only [List.length_drop, List.length_take]; rfl)) ?_
     with_reducible refine (spec_LoadNet.calls kj4 t244 _ _ t245 t248 t260 t261 _ ?side1 ?side2 A29.out).mono ?_
     (case side1 => repeat (first | exact (Kd.R_reads' HO_250001.out).2.2 | (with_reducible refine Kd.C_alloc ?_ _) | (with_reducible refine Kd.C_drewN ?_ _) | (with_reducible refine Kd.C_drew ?_)))
     (case side2 => exact (Kd.R_reads' HO_250001.out).2.1)
     rintro e w32 ⟨v262, rfl, ho0, hb⟩
     refine ⟨_, rfl, ?_⟩
     have n0_ := Aside0.mk (Kd.R_elder' (rk HO_250001) (Kd.R_base ho0) hb)
     have n1_ := Aside0.mk (Kd.R_elder' (rk HO_255001) (Kd.R_base ho0) hb)
     have n2_ := Aside0.mk (Kd.R_lower (Kd.R_new' (Kd.R_new' ho0 (Kd.R_lt (rk HO_250001))) (Kd.R_lt (rk HO_255001))) (below_size (bl2 HB GE249 GE254)))
     have n3_ := Aside0.mk (blk_below (bk BK249) hb)
     have n4_ := Aside0.mk (blk_below (bk BK254) hb)
     have n5_ := Aside0.mk (below_step (bl2 HB GE249 GE254) hb)
     clear HO_250001
     clear HO_255001
     clear BK249
     clear BK254
     clear HB
     have HO_250001 := n0_
     have HO_255001 := n1_
     have HO263 := n2_
     have BK249 := n3_
     have BK254 := n4_
     have HB := n5_
     clear n0_ n1_ n2_ n3_ n4_ n5_
     (try clear hb)
     (try clear hb2)
     (try clear hk)
     (try clear hi)
     (try clear ho0)
     obtain ⟨Ao33, co33, eo33⟩ := Kd.R_slice HO263.out
     (first | subst eo33 | (injection eo33 with f1_ f2_ f3_; have f4_ := f1_.symm; have f5_ := f3_.symm; clear f1_ f2_ f3_; subst f4_; subst f5_))
     refine hK.out _ _ ⟨(blk_cell BK254.out 0).trans rfl, (blk_cell BK254.out 1).trans rfl, (blk_cell BK249.out 0).trans rfl, (blk_cell BK249.out 1).trans rfl⟩ (fun hHeld => ?_)
     clear hK K
     refine norm_ (a' := ?_) ?_ ?_
     rotate_left
     ·show Act.put _ (some 33) _ = _
      simp only [Act.put, sA, sB, sC, i64_w, i32_w]
      rfl
     refine one_ (i := 4) (N := some 34) (ms 6 31) rfl rfl (by kernel_rfl) (by decide) (fun K hK => ?_)
     refine goes_ Try.func17 (by kernel_rfl) rfl #[.agg #[.int .i64 t250, .slice Ao14 t251.length co14], .agg #[.int .i64 t260, .slice Ao33 t261.length co33]] (by rfl) rfl rfl (by (try simp only [List.map_toArray, List.map_cons, List.map_nil]); first | done | rfl | (simp only [List.length_drop, List.length_take]; rfl)) ?_
     with_reducible refine (laws_wkNet.calls kj4 t250 _ _ t251 t260 _ _ t261 t264 _ ?side1 ?side2 ?side3 ?side4 A30.out).mono ?_
     (case side1 => repeat (first | exact (Kd.R_reads' HO_255001.out).2.2 | (with_reducible refine Kd.C_alloc ?_ _) | (with_reducible refine Kd.C_drewN ?_ _) | (with_reducible refine Kd.C_drew ?_)))
     (case side2 => exact (Kd.R_reads' HO_255001.out).2.1)
     (case side3 => repeat (first | exact (Kd.R_reads' HO263.out).2.2 | (with_reducible refine Kd.C_alloc ?_ _) | (with_reducible refine Kd.C_drewN ?_ _) | (with_reducible refine Kd.C_drew ?_)))
     (case side4 => exact (Kd.R_reads' HO263.out).2.1)
     rintro e w34 ⟨rfl, hb⟩
     refine ⟨_, rfl, ?_⟩
     have n0_ := Aside0.mk (Kd.R_below (rk HO_250001) hb)
     have n1_ := Aside0.mk (Kd.R_below (rk HO_255001) hb)
     have n2_ := Aside0.mk (Kd.R_below (rk HO263) hb)
     have n3_ := Aside0.mk (blk_below (bk BK249) hb)
     have n4_ := Aside0.mk (blk_below (bk BK254) hb)
     have n5_ := Aside0.mk (below_step (bl2 HB GE249 GE254) hb)
     clear HO_250001
     clear HO_255001
     clear HO263
     clear BK249
     clear BK254
     clear HB
     have HO_250001 := n0_
     have HO_255001 := n1_
     have HO263 := n2_
     have BK249 := n3_
     have BK254 := n4_
     have HB := n5_
     clear n0_ n1_ n2_ n3_ n4_ n5_
     (try clear hb)
     (try clear hb2)
     (try clear hk)
     (try clear hi)
     refine hK.out _ _ ⟨(blk_cell BK254.out 0).trans rfl, (blk_cell BK254.out 1).trans rfl, (blk_cell BK249.out 0).trans rfl, (blk_cell BK249.out 1).trans rfl⟩ (fun hHeld => ?_)
     clear hK K
     refine norm_ (a' := ?_) ?_ ?_
     rotate_left
     ·show Act.put _ (some 34) _ = _
      simp only [Act.put, sA, sB, sC, i64_w, i32_w]
      rfl
     refine pure_ (i := 5) (N := some 2) (v := ?_) (a' := ?_) (ms 6 63) rfl rfl (by kernel_rfl) (fun _ _ _ h => h) (Or.inl ⟨by rfl, ?_⟩) ?_ ?_
     rotate_left
     ·intro w'
      go_simp
      with_reducible rfl
     rotate_left
     ·simp only [Act.put, sA, sB, sC, i64_w, i32_w]
      rfl
     refine done_ (by kernel_rfl) ?_
     try go_wp2
     go_ret
     exact ⟨by first | rfl | (simp [errW_none, errW_some] <;> rfl) | (simp [*, errW_none, errW_some] <;> rfl), bl2 HB GE249 GE254⟩
    ·replace c28 := Bool.eq_false_iff.mpr c28
     subst c28
     rw [if_neg (show ¬ (false = true) by decide)] at H
     have H' := Aside0.mk H
     clear H
     go_wp2
     go_loopg [6, 7] kj4 (fun kq v6 v7 w' => ∃ (x6_2 : Int) (x7_2 : Int), v6 = .int .i64 x6_2 ∧ v7 = .int .i64 x7_2 ∧ Aside0 (laws_FnLoadNet.l0 kq t248 x6_2 x7_2 t244 t245 t250 t251 = some r) ∧ Aside0 (kq ≤ kj4) ∧ Aside0 (Kd.R k31 31 w' w.heap.size (fun k_ => some k_ ≠ ((.slice Ao14 t251.length co14) : Value).ownBlock) (.slice Ao9 t245.length co9) t245) ∧ Aside0 (Kd.R k31 31 w' w.heap.size (fun k_ => some k_ ≠ ((.slice Ao9 t245.length co9) : Value).ownBlock) (.slice Ao14 t251.length co14) t251) ∧ Aside0 (w'.heap[gb249]? = some (.cells #[.int .i64 t244, (.slice Ao9 t245.length co9)] 25 (0, 0))) ∧ Aside0 (w'.heap[gb254]? = some (.cells #[.int .i64 t250, (.slice Ao14 t251.length co14)] 25 (0, 0))) ∧ Aside0 (Below w.heap.size w w'))
     case atStart => exact ⟨(0), (0), (by first | rfl | (simp; done) | (simp [*]; done)), (by first | rfl | (simp; done) | (simp [*]; done)), H', ⟨Nat.le_refl _⟩, ⟨rk HO_250001⟩, ⟨rk HO_255001⟩, ⟨bk BK249⟩, ⟨bk BK254⟩, ⟨bl2 HB GE249 GE254⟩⟩
     case round =>
      clear H'
      try clear c1
      try clear c2
      try clear c2b0
      try clear c2b1
      try clear p2
      try clear c3
      try clear c12
      try clear c15
      try clear c16
      try clear c17
      try clear c18
      try clear c28
      try clear hcz13_0
      try clear hcz13_1
      try clear hcz8_0
      try clear hcz8_1
      try clear hfz13_0
      try clear hfz13_1
      try clear hfz8_0
      try clear hfz8_1
      try clear p2
      obtain ⟨x6_2, x7_2, rfl, rfl, HA, HK2, HO_250001, HO_255001, BK249, BK254, HB⟩ := hrel
      cases gk with
      | zero => exact absurd HA.out (by simp [laws_FnLoadNet.l0])
      | succ k2 =>
       have H := HA.out
       clear HA
       simp only [laws_FnLoadNet.l0] at H
       by_cases c35 : x7_2 < (t245.length : Int)
       ·rw [if_pos c35] at H
        have c35b0 : decide (x7_2 < (t245.length : Int)) = true := decide_eq_true c35
        clear c35
        by_cases c36 : 0 ≤ x7_2
        ·rw [if_pos c36] at H
         have c36b0 : decide (0 ≤ x7_2) = true := decide_eq_true c36
         clear c36
         by_cases c37 : ((rd_T31 t245 x7_2).f4) ≥ t248
         ·rw [if_pos c37] at H
          have c37b0 : decide (t248 ≤ ((rd_T31 t245 x7_2).f4)) = true := decide_eq_true c37
          clear c37
          by_cases c38 : x6_2 ≥ (t251.length : Int)
          ·rw [if_pos c38] at H
           have c38b0 : decide ((t251.length : Int) ≤ x6_2) = true := decide_eq_true c38
           clear c38
           exact absurd ((Option.some.inj H).trans hr_) Bool.false_ne_true
          ·rw [if_neg c38] at H
           have c38b0 : decide ((t251.length : Int) ≤ x6_2) = false := decide_eq_false c38
           clear c38
           by_cases c39 : 0 ≤ x6_2
           ·rw [if_pos c39] at H
            have c39b0 : decide (0 ≤ x6_2) = true := decide_eq_true c39
            clear c39
            by_cases c40 : x6_2 < (t251.length : Int)
            ·rw [if_pos c40] at H
             have c40b0 : decide (x6_2 < (t251.length : Int)) = true := decide_eq_true c40
             clear c40
             by_cases c41 : (!(((rd_T31 t251 x6_2).f0) == ((rd_T31 t245 x7_2).f0)) || (!(((rd_T31 t251 x6_2).f1) == ((rd_T31 t245 x7_2).f1)) || (!(((rd_T31 t251 x6_2).f2) == ((rd_T31 t245 x7_2).f2)) || (!(((rd_T31 t251 x6_2).f3) == ((rd_T31 t245 x7_2).f3)) || (!(((rd_T31 t251 x6_2).f4) == ((rd_T31 t245 x7_2).f4))))))) = true
             ·rw [if_pos c41] at H
              have c41b0 : (!(((rd_T31 t251 x6_2).f0) == ((rd_T31 t245 x7_2).f0)) || (!(((rd_T31 t251 x6_2).f1) == ((rd_T31 t245 x7_2).f1)) || (!(((rd_T31 t251 x6_2).f2) == ((rd_T31 t245 x7_2).f2)) || (!(((rd_T31 t251 x6_2).f3) == ((rd_T31 t245 x7_2).f3)) || (!(((rd_T31 t251 x6_2).f4) == ((rd_T31 t245 x7_2).f4))))))) = true := c41
              clear c41
              exact absurd ((Option.some.inj H).trans hr_) Bool.false_ne_true
             ·rw [if_neg c41] at H
              have c41b0 : (!(((rd_T31 t251 x6_2).f0) == ((rd_T31 t245 x7_2).f0)) || (!(((rd_T31 t251 x6_2).f1) == ((rd_T31 t245 x7_2).f1)) || (!(((rd_T31 t251 x6_2).f2) == ((rd_T31 t245 x7_2).f2)) || (!(((rd_T31 t251 x6_2).f3) == ((rd_T31 t245 x7_2).f3)) || (!(((rd_T31 t251 x6_2).f4) == ((rd_T31 t245 x7_2).f4))))))) = false := by simpa using c41
              clear c41
              have H' := Aside0.mk H
              clear H
              have hnb42 := NB249_254.out
              have hnc42 := NB254_249.out
              have hcz43_0 : wr.cell? ⟨gb249, 0, none⟩ = some (.int .i64 t244) := (blk_cell BK249.out 0).trans rfl
              have hcz43_1 : wr.cell? ⟨gb249, 1, none⟩ = some (.slice Ao9 t245.length co9) := (blk_cell BK249.out 1).trans rfl
              have hfz43_0 := blk_frozen BK249.out 0
              have hfz43_1 := blk_frozen BK249.out 1
              have p265 : 0 ≤ (x7_2 : Int) := oT (by first | (with_reducible assumption) | assumption)
              have q265 : x7_2 < (t245.length : Int) := oT (by first | (with_reducible assumption) | assumption)
              obtain ⟨ad265, e265, hx265_0, hx265_1, hx265_2, hx265_3, hx265_4⟩ := at_T31 (Kd.R_reads' HO_250001.out).2.2 x7_2 p265 q265
              cases e265
              replace p265 := eq_true p265
              replace q265 := eq_true q265
              try go_wp2
              have n0_ := Aside0.mk (Kd.R_drew HO_250001.out)
              have n1_ := Aside0.mk (Kd.R_drew HO_255001.out)
              have n2_ := Aside0.mk (blk_drew BK249.out)
              have n3_ := Aside0.mk (blk_drew BK254.out)
              have n4_ := Aside0.mk (below_drew1 HB.out)
              clear HO_250001
              clear HO_255001
              clear BK249
              clear BK254
              clear HB
              have HO_250001 := n0_
              have HO_255001 := n1_
              have BK249 := n2_
              have BK254 := n3_
              have HB := n4_
              clear n0_ n1_ n2_ n3_ n4_
              have p266 : 0 ≤ (x6_2 : Int) := oT (by first | (with_reducible assumption) | assumption)
              have q266 : x6_2 < (t251.length : Int) := oT (by first | (with_reducible assumption) | assumption)
              obtain ⟨ad266, e266, hx266_0, hx266_1, hx266_2, hx266_3, hx266_4⟩ := at_T31 (Kd.R_reads' HO_255001.out).2.2 x6_2 p266 q266
              cases e266
              replace p266 := eq_true p266
              replace q266 := eq_true q266
              have p267 : 0 ≤ (x7_2 : Int) := oT (by first | (with_reducible assumption) | assumption)
              have q267 : x7_2 < (t245.length : Int) := oT (by first | (with_reducible assumption) | assumption)
              obtain ⟨ad267, e267, hx267_0, hx267_1, hx267_2, hx267_3, hx267_4⟩ := at_T31 (Kd.R_reads' HO_250001.out).2.2 x7_2 p267 q267
              obtain rfl : ad265 = ad267 := (by injection e267)
              replace p267 := eq_true p267
              replace q267 := eq_true q267
              refine start_ (n := 18) (S := fun w' => w'.cell? ⟨gb254, 0, none⟩ = some (.int .i64 t250) ∧ w'.cell? ⟨gb254, 1, none⟩ = some (.slice (some ad266) t251.length co14) ∧ w'.cell? ⟨gb249, 0, none⟩ = some (.int .i64 t244) ∧ w'.cell? ⟨gb249, 1, none⟩ = some (.slice (some ad265) t245.length co9) ∧ w'.cell? (ad266.add ((x6_2).toNat * 5)) = some (.int .i64 ((rd_T31 t251 x6_2).f0)) ∧ w'.cell? ⟨(ad266.add ((x6_2).toNat * 5)).block, (ad266.add ((x6_2).toNat * 5)).off + 1, none⟩ = some (.int .i64 ((rd_T31 t251 x6_2).f1)) ∧ w'.cell? ⟨(ad266.add ((x6_2).toNat * 5)).block, (ad266.add ((x6_2).toNat * 5)).off + 2, none⟩ = some (.int .i64 ((rd_T31 t251 x6_2).f2)) ∧ w'.cell? ⟨(ad266.add ((x6_2).toNat * 5)).block, (ad266.add ((x6_2).toNat * 5)).off + 3, none⟩ = some (.int .i64 ((rd_T31 t251 x6_2).f3)) ∧ w'.cell? ⟨(ad266.add ((x6_2).toNat * 5)).block, (ad266.add ((x6_2).toNat * 5)).off + 4, none⟩ = some (.int .i64 ((rd_T31 t251 x6_2).f4)) ∧ w'.cell? (ad265.add ((x7_2).toNat * 5)) = some (.int .i64 ((rd_T31 t245 x7_2).f0)) ∧ w'.cell? ⟨(ad265.add ((x7_2).toNat * 5)).block, (ad265.add ((x7_2).toNat * 5)).off + 1, none⟩ = some (.int .i64 ((rd_T31 t245 x7_2).f1)) ∧ w'.cell? ⟨(ad265.add ((x7_2).toNat * 5)).block, (ad265.add ((x7_2).toNat * 5)).off + 2, none⟩ = some (.int .i64 ((rd_T31 t245 x7_2).f2)) ∧ w'.cell? ⟨(ad265.add ((x7_2).toNat * 5)).block, (ad265.add ((x7_2).toNat * 5)).off + 3, none⟩ = some (.int .i64 ((rd_T31 t245 x7_2).f3)) ∧ w'.cell? ⟨(ad265.add ((x7_2).toNat * 5)).block, (ad265.add ((x7_2).toNat * 5)).off + 4, none⟩ = some (.int .i64 ((rd_T31 t245 x7_2).f4))) (ds := []) (ms 18 0) (by kernel_rfl) rfl (by kernel_rfl) ⟨(blk_cell BK254.out 0).trans rfl, (blk_cell BK254.out 1).trans rfl, (blk_cell BK249.out 0).trans rfl, (blk_cell BK249.out 1).trans rfl, hx266_0, hx266_1, hx266_2, hx266_3, hx266_4, hx267_0, hx267_1, hx267_2, hx267_3, hx267_4⟩ (fun hHeld => ?_); refine with_tabW laws_FnLoadNet.tab12 laws_FnLoadNet.bits12 (fun HT_ HW_ => ?_)
              generalize wr.drew = w44 at HO_250001 HO_255001 BK249 BK254 HB hx266_0 hx266_1 hx266_2 hx266_3 hx266_4 hx267_0 hx267_1 hx267_2 hx267_3 hx267_4 hHeld ⊢
              refine pure_ (i := 0) (N := some 50) (v := ?_) (a' := ?_) (ms 18 1) rfl rfl (any_of HT_.out (by kernel_rfl)) (fun _ _ _ h => h) (Or.inl ⟨by rfl, ?_⟩) ?_ ?_
              rotate_left
              ·intro w'
               go_simp
               with_reducible rfl
              rotate_left
              ·simp only [Act.put, sA, sB, sC, i64_w, i32_w]
               rfl
              refine pure_ (i := 1) (N := some 51) (v := ?_) (a' := ?_) (ms 18 3) rfl rfl (any_of HT_.out (by kernel_rfl)) (fun _ _ _ h => h) (Or.inl ⟨by rfl, ?_⟩) ?_ ?_
              rotate_left
              ·intro w'
               go_simp
               with_reducible rfl
              rotate_left
              ·simp only [Act.put, sA, sB, sC, i64_w, i32_w]
               rfl
              refine take_ (i := 2) (N := some 52) (v := ?_) (a' := ?_) (ms 18 7) rfl rfl (take_ofW HT_.out HW_.out (by kernel_rfl)) (fun _ _ _ h => h) (Or.inl ⟨by rfl, ?_⟩) hHeld ?_ ?_
              rotate_left
              ·rintro w' ⟨s0, s1, s2, s3, s4, s5, s6, s7, s8, s9, s10, s11, s12, s13⟩
               go_simp
               with_reducible rfl
              rotate_left
              ·simp only [Act.put, sA, sB, sC, i64_w, i32_w]
               rfl
              refine pure_ (i := 3) (N := some 53) (v := ?_) (a' := ?_) (ms 18 15) rfl rfl (any_of HT_.out (by kernel_rfl)) (fun _ _ _ h => h) (Or.inl ⟨by rfl, ?_⟩) ?_ ?_
              rotate_left
              ·intro w'
               go_simp
               with_reducible rfl
              rotate_left
              ·simp only [Act.put, sA, sB, sC, i64_w, i32_w]
               rfl
              refine pure_ (i := 4) (N := some 54) (v := ?_) (a' := ?_) (ms 18 31) rfl rfl (any_of HT_.out (by kernel_rfl)) (fun _ _ _ h => h) (Or.inl ⟨by rfl, ?_⟩) ?_ ?_
              rotate_left
              ·intro w'
               go_simp
               with_reducible rfl
              rotate_left
              ·simp only [Act.put, sA, sB, sC, i64_w, i32_w]
               rfl
              refine pure_ (i := 5) (N := some 55) (v := ?_) (a' := ?_) (ms 18 63) rfl rfl (any_of HT_.out (by kernel_rfl)) (fun _ _ _ h => h) (Or.inl ⟨by rfl, ?_⟩) ?_ ?_
              rotate_left
              ·intro w'
               go_simp
               with_reducible rfl
              rotate_left
              ·simp only [Act.put, sA, sB, sC, i64_w, i32_w]
               rfl
              refine pure_ (i := 6) (N := some 56) (v := ?_) (a' := ?_) (ms 18 127) rfl rfl (any_of HT_.out (by kernel_rfl)) (fun _ _ _ h => h) (Or.inl ⟨by rfl, ?_⟩) ?_ ?_
              rotate_left
              ·intro w'
               go_simp
               with_reducible rfl
              rotate_left
              ·simp only [Act.put, sA, sB, sC, i64_w, i32_w]
               rfl
              refine pure_ (i := 8) (N := some 58) (v := ?_) (a' := ?_) (ms 18 383) rfl rfl (any_of HT_.out (by kernel_rfl)) (fun _ _ _ h => h) (Or.inl ⟨by rfl, ?_⟩) ?_ ?_
              rotate_left
              ·intro w'
               go_simp
               with_reducible rfl
              rotate_left
              ·simp only [Act.put, sA, sB, sC, i64_w, i32_w]
               rfl
              refine pure_ (i := 11) (N := some 61) (v := ?_) (a' := ?_) (ms 18 2431) rfl rfl (any_of HT_.out (by kernel_rfl)) (fun _ _ _ h => h) (Or.inl ⟨by rfl, ?_⟩) ?_ ?_
              rotate_left
              ·intro w'
               go_simp
               with_reducible rfl
              rotate_left
              ·simp only [Act.put, sA, sB, sC, i64_w, i32_w]
               rfl
              refine pure_ (i := 13) (N := some 63) (v := ?_) (a' := ?_) (ms 18 10623) rfl rfl (any_of HT_.out (by kernel_rfl)) (fun _ _ _ h => h) (Or.inl ⟨by rfl, ?_⟩) ?_ ?_
              rotate_left
              ·intro w'
               go_simp
               with_reducible rfl
              rotate_left
              ·simp only [Act.put, sA, sB, sC, i64_w, i32_w]
               rfl
              refine take_ (i := 7) (N := some 57) (v := ?_) (a' := ?_) (ms 18 10751) rfl rfl (take_ofW HT_.out HW_.out (by kernel_rfl)) (fun _ _ _ h => h) (Or.inl ⟨by rfl, ?_⟩) hHeld ?_ ?_
              rotate_left
              ·rintro w' ⟨s0, s1, s2, s3, s4, s5, s6, s7, s8, s9, s10, s11, s12, s13⟩
               go_simp
               with_reducible rfl
              rotate_left
              ·simp only [Act.put, sA, sB, sC, i64_w, i32_w]
               rfl
              refine pure_ (i := 9) (N := some 59) (v := ?_) (a' := ?_) (ms 18 11263) rfl rfl (any_of HT_.out (by kernel_rfl)) (fun _ _ _ h => h) (Or.inl ⟨by rfl, ?_⟩) ?_ ?_
              rotate_left
              ·intro w'
               go_simp
               with_reducible rfl
              rotate_left
              ·simp only [Act.put, sA, sB, sC, i64_w, i32_w]
               rfl
              refine take_ (i := 10) (N := some 60) (v := ?_) (a' := ?_) (ms 18 12287) rfl rfl (take_ofW HT_.out HW_.out (by kernel_rfl)) (fun _ _ _ h => h) (Or.inl ⟨by rfl, ?_⟩) hHeld ?_ ?_
              rotate_left
              ·rintro w' ⟨s0, s1, s2, s3, s4, s5, s6, s7, s8, s9, s10, s11, s12, s13⟩
               go_simp
               with_reducible rfl
              rotate_left
              ·simp only [Act.put, sA, sB, sC, i64_w, i32_w]
               rfl
              refine take_ (i := 12) (N := some 62) (v := ?_) (a' := ?_) (ms 18 16383) rfl rfl (take_ofW HT_.out HW_.out (by kernel_rfl)) (fun _ _ _ h => h) (Or.inl ⟨by rfl, ?_⟩) hHeld ?_ ?_
              rotate_left
              ·rintro w' ⟨s0, s1, s2, s3, s4, s5, s6, s7, s8, s9, s10, s11, s12, s13⟩
               go_simp
               with_reducible rfl
              rotate_left
              ·simp only [Act.put, sA, sB, sC, i64_w, i32_w]
               rfl
              refine pure_ (i := 14) (N := some 64) (v := ?_) (a' := ?_) (ms 18 32767) rfl rfl (any_of HT_.out (by kernel_rfl)) (fun _ _ _ h => h) (Or.inl ⟨by rfl, ?_⟩) ?_ ?_
              rotate_left
              ·intro w'
               go_simp
               with_reducible rfl
              rotate_left
              ·simp only [Act.put, sA, sB, sC, i64_w, i32_w]
               rfl
              refine take_ (i := 15) (N := some 65) (v := ?_) (a' := ?_) (ms 18 65535) rfl rfl (take_ofW HT_.out HW_.out (by kernel_rfl)) (fun _ _ _ h => h) (Or.inl ⟨by rfl, ?_⟩) hHeld ?_ ?_
              rotate_left
              ·rintro w' ⟨s0, s1, s2, s3, s4, s5, s6, s7, s8, s9, s10, s11, s12, s13⟩
               go_simp
               with_reducible rfl
              rotate_left
              ·simp only [Act.put, sA, sB, sC, i64_w, i32_w]
               rfl
              refine pure_ (i := 16) (N := some 66) (v := ?_) (a' := ?_) (ms 18 131071) rfl rfl (any_of HT_.out (by kernel_rfl)) (fun _ _ _ h => h) (Or.inl ⟨by rfl, ?_⟩) ?_ ?_
              rotate_left
              ·intro w'
               go_simp
               with_reducible rfl
              rotate_left
              ·simp only [Act.put, sA, sB, sC, i64_w, i32_w]
               rfl
              refine pure_ (i := 17) (N := some 67) (v := ?_) (a' := ?_) (ms 18 262143) rfl rfl (any_of HT_.out (by kernel_rfl)) (fun _ _ _ h => h) (Or.inl ⟨by rfl, ?_⟩) ?_ ?_
              rotate_left
              ·intro w'
               go_simp
               with_reducible rfl
              rotate_left
              ·simp only [Act.put, sA, sB, sC, i64_w, i32_w]
               rfl
              refine done_ (done_of HT_.out (by kernel_rfl)) ?_
              try go_wp2
              go_roundg k2
              case measure => have := HJ4.out; have := HK2.out; omega
              case rel => exact ⟨(wrap64 (x6_2 + 1)), (wrap64 (x7_2 + 1)), (by first | rfl | (simp; done) | (simp [*]; done)), (by first | rfl | (simp; done) | (simp [*]; done)), H', ⟨by have := HJ4.out; have := HK2.out; omega⟩, ⟨rk HO_250001⟩, ⟨rk HO_255001⟩, ⟨bk BK249⟩, ⟨bk BK254⟩, ⟨bl2 HB GE249 GE254⟩⟩
            ·rw [if_neg c40] at H
             exact absurd H (by simp)
           ·rw [if_neg c39] at H
            exact absurd H (by simp)
         ·rw [if_neg c37] at H
          have c37b0 : decide (t248 ≤ ((rd_T31 t245 x7_2).f4)) = false := decide_eq_false c37
          clear c37
          have H' := Aside0.mk H
          clear H
          have hnb45 := NB249_254.out
          have hnc45 := NB254_249.out
          have hcz46_0 : wr.cell? ⟨gb249, 0, none⟩ = some (.int .i64 t244) := (blk_cell BK249.out 0).trans rfl
          have hcz46_1 : wr.cell? ⟨gb249, 1, none⟩ = some (.slice Ao9 t245.length co9) := (blk_cell BK249.out 1).trans rfl
          have hfz46_0 := blk_frozen BK249.out 0
          have hfz46_1 := blk_frozen BK249.out 1
          have p265 : 0 ≤ (x7_2 : Int) := oT (by first | (with_reducible assumption) | assumption)
          have q265 : x7_2 < (t245.length : Int) := oT (by first | (with_reducible assumption) | assumption)
          obtain ⟨ad265, e265, hx265_0, hx265_1, hx265_2, hx265_3, hx265_4⟩ := at_T31 (Kd.R_reads' HO_250001.out).2.2 x7_2 p265 q265
          cases e265
          replace p265 := eq_true p265
          replace q265 := eq_true q265
          go_wp2
          go_roundg k2
          case measure => have := HJ4.out; have := HK2.out; omega
          case rel => exact ⟨(x6_2), (wrap64 (x7_2 + 1)), (by first | rfl | (simp; done) | (simp [*]; done)), (by first | rfl | (simp; done) | (simp [*]; done)), H', ⟨by have := HJ4.out; have := HK2.out; omega⟩, ⟨rk HO_250001⟩, ⟨rk HO_255001⟩, ⟨bk BK249⟩, ⟨bk BK254⟩, ⟨bl2 HB GE249 GE254⟩⟩
        ·rw [if_neg c36] at H
         exact absurd H (by simp)
       ·rw [if_neg c35] at H
        have c35b0 : decide (x7_2 < (t245.length : Int)) = false := decide_eq_false c35
        clear c35
        replace H := Option.bind_eq_some_iff.mp H
        obtain ⟨t268, A470, H⟩ := H
        have A47 := Aside0.mk A470
        clear A470
        by_cases c48 : t268 = true
        ·subst c48
         rw [if_pos rfl] at H
         by_cases c49 : x6_2 = (t251.length : Int)
         ·rw [if_pos c49] at H
          have c49b0 : (x6_2 == (t251.length : Int)) = true := beq_iff_eq.mpr c49
          have c49b1 : (x6_2 != (t251.length : Int)) = false := bne_eq_false_iff_eq.mpr c49
          clear c49
          replace H := Option.bind_eq_some_iff.mp H
          obtain ⟨⟨t269, t270⟩, A500, H⟩ := H
          have A50 := Aside0.mk A500
          clear A500
          replace H := Option.bind_eq_some_iff.mp H
          obtain ⟨t273, A510, H⟩ := H
          have A51 := Aside0.mk A510
          clear A510
          by_cases c52 : t273 = true
          ·subst c52
           rw [if_pos rfl] at H
           replace H := Option.bind_eq_some_iff.mp H
           obtain ⟨⟨t274, t275⟩, A530, H⟩ := H
           have A53 := Aside0.mk A530
           clear A530
           replace H := Option.bind_eq_some_iff.mp H
           obtain ⟨t278, A540, H⟩ := H
           have A54 := Aside0.mk A540
           clear A540
           obtain rfl := Option.some.inj H
           have hnb55 := NB249_254.out
           have hnc55 := NB254_249.out
           have hcz56_0 : wr.cell? ⟨gb249, 0, none⟩ = some (.int .i64 t244) := (blk_cell BK249.out 0).trans rfl
           have hcz56_1 : wr.cell? ⟨gb249, 1, none⟩ = some (.slice Ao9 t245.length co9) := (blk_cell BK249.out 1).trans rfl
           have hfz56_0 := blk_frozen BK249.out 0
           have hfz56_1 := blk_frozen BK249.out 1
           try go_wp2
           have n0_ := Aside0.mk (Kd.R_drew HO_250001.out)
           have n1_ := Aside0.mk (Kd.R_drew HO_255001.out)
           have n2_ := Aside0.mk (blk_drew BK249.out)
           have n3_ := Aside0.mk (blk_drew BK254.out)
           have n4_ := Aside0.mk (below_drew1 HB.out)
           clear HO_250001
           clear HO_255001
           clear BK249
           clear BK254
           clear HB
           have HO_250001 := n0_
           have HO_255001 := n1_
           have BK249 := n2_
           have BK254 := n3_
           have HB := n4_
           clear n0_ n1_ n2_ n3_ n4_
           refine start_ (n := 23) (S := fun w' => w'.cell? ⟨gb254, 0, none⟩ = some (.int .i64 t250) ∧ w'.cell? ⟨gb254, 1, none⟩ = some (.slice Ao14 t251.length co14) ∧ w'.cell? ⟨gb249, 0, none⟩ = some (.int .i64 t244) ∧ w'.cell? ⟨gb249, 1, none⟩ = some (.slice Ao9 t245.length co9)) (ds := []) (ms 23 0) (by kernel_rfl) rfl (by kernel_rfl) ⟨(blk_cell BK254.out 0).trans rfl, (blk_cell BK254.out 1).trans rfl, (blk_cell BK249.out 0).trans rfl, (blk_cell BK249.out 1).trans rfl⟩ (fun hHeld => ?_); refine with_tabW laws_FnLoadNet.tab15 laws_FnLoadNet.bits15 (fun HT_ HW_ => ?_)
           generalize wr.drew = w57 at HO_250001 HO_255001 BK249 BK254 HB hHeld ⊢
           refine take_ (i := 0) (N := some 70) (v := ?_) (a' := ?_) (ms 23 1) rfl rfl (take_ofW HT_.out HW_.out (by kernel_rfl)) (fun _ _ _ h => h) (Or.inl ⟨by rfl, ?_⟩) hHeld ?_ ?_
           rotate_left
           ·rintro w' ⟨s0, s1, s2, s3⟩
            go_simp
            with_reducible rfl
           rotate_left
           ·simp only [Act.put, sA, sB, sC, i64_w, i32_w]
            rfl
           refine one_ (i := 1) (N := some 71) (ms 23 3) rfl rfl (one_of HT_.out (by kernel_rfl)) (by decide) (fun K hK => ?_)
           refine goes_ Try.func19 (by kernel_rfl) rfl #[.agg #[.int .i64 t250, .slice Ao14 t251.length co14]] (by rfl) rfl rfl (by (try simp only [List.map_toArray, List.map_cons, List.map_nil]); first | done | rfl | (simp only [List.length_drop, List.length_take]; rfl)) ?_
           with_reducible refine (impl_NetOk.calls t250 _ _ t251 true _ ?side1 ?side2 A47.out).mono ?_
           (case side1 => repeat (first | exact (Kd.R_reads' HO_255001.out).2.2 | (with_reducible refine Kd.C_alloc ?_ _) | (with_reducible refine Kd.C_drewN ?_ _) | (with_reducible refine Kd.C_drew ?_)))
           (case side2 => exact (Kd.R_reads' HO_255001.out).2.1)
           rintro e w58 ⟨rfl, hb⟩
           refine ⟨_, rfl, ?_⟩
           have n0_ := Aside0.mk (Kd.R_below (rk HO_250001) hb)
           have n1_ := Aside0.mk (Kd.R_below (rk HO_255001) hb)
           have n2_ := Aside0.mk (blk_below (bk BK249) hb)
           have n3_ := Aside0.mk (blk_below (bk BK254) hb)
           have n4_ := Aside0.mk (below_step (bl2 HB GE249 GE254) hb)
           clear HO_250001
           clear HO_255001
           clear BK249
           clear BK254
           clear HB
           have HO_250001 := n0_
           have HO_255001 := n1_
           have BK249 := n2_
           have BK254 := n3_
           have HB := n4_
           clear n0_ n1_ n2_ n3_ n4_
           (try clear hb)
           (try clear hb2)
           (try clear hk)
           (try clear hi)
           refine hK.out _ _ ⟨(blk_cell BK254.out 0).trans rfl, (blk_cell BK254.out 1).trans rfl, (blk_cell BK249.out 0).trans rfl, (blk_cell BK249.out 1).trans rfl⟩ (fun hHeld => ?_)
           clear hK K
           refine norm_ (a' := ?_) ?_ ?_
           rotate_left
           ·show Act.put _ (some 71) _ = _
            simp only [Act.put, sA, sB, sC, i64_w, i32_w]
            rfl
           refine pure_ (i := 2) (N := some 72) (v := ?_) (a' := ?_) (ms 23 7) rfl rfl (any_of HT_.out (by kernel_rfl)) (fun _ _ _ h => h) (Or.inl ⟨by rfl, ?_⟩) ?_ ?_
           rotate_left
           ·intro w'
            go_simp
            with_reducible rfl
           rotate_left
           ·simp only [Act.put, sA, sB, sC, i64_w, i32_w]
            rfl
           refine pure_ (i := 3) (N := some 73) (v := ?_) (a' := ?_) (ms 23 15) rfl rfl (any_of HT_.out (by kernel_rfl)) (fun _ _ _ h => h) (Or.inl ⟨by rfl, ?_⟩) ?_ ?_
           rotate_left
           ·intro w'
            go_simp
            with_reducible rfl
           rotate_left
           ·simp only [Act.put, sA, sB, sC, i64_w, i32_w]
            rfl
           refine pure_ (i := 4) (N := some 74) (v := ?_) (a' := ?_) (ms 23 31) rfl rfl (any_of HT_.out (by kernel_rfl)) (fun _ _ _ h => h) (Or.inl ⟨by rfl, ?_⟩) ?_ ?_
           rotate_left
           ·intro w'
            go_simp
            with_reducible rfl
           rotate_left
           ·simp only [Act.put, sA, sB, sC, i64_w, i32_w]
            rfl
           refine take_ (i := 5) (N := some 75) (v := ?_) (a' := ?_) (ms 23 63) rfl rfl (take_ofW HT_.out HW_.out (by kernel_rfl)) (fun _ _ _ h => h) (Or.inl ⟨by rfl, ?_⟩) hHeld ?_ ?_
           rotate_left
           ·rintro w' ⟨s0, s1, s2, s3⟩
            go_simp
            with_reducible rfl
           rotate_left
           ·simp only [Act.put, sA, sB, sC, i64_w, i32_w]
            rfl
           refine pure_ (i := 6) (N := some 76) (v := ?_) (a' := ?_) (ms 23 127) rfl rfl (any_of HT_.out (by kernel_rfl)) (fun _ _ _ h => h) (Or.inl ⟨by rfl, ?_⟩) ?_ ?_
           rotate_left
           ·intro w'
            go_simp
            with_reducible rfl
           rotate_left
           ·simp only [Act.put, sA, sB, sC, i64_w, i32_w]
            rfl
           refine pure_ (i := 7) (N := some 77) (v := ?_) (a' := ?_) (ms 23 255) rfl rfl (any_of HT_.out (by kernel_rfl)) (fun _ _ _ h => h) (Or.inl ⟨by rfl, ?_⟩) ?_ ?_
           rotate_left
           ·intro w'
            go_simp
            with_reducible rfl
           rotate_left
           ·simp only [Act.put, sA, sB, sC, i64_w, i32_w]
            rfl
           refine pure_ (i := 8) (N := some 78) (v := ?_) (a' := ?_) (ms 23 511) rfl rfl (any_of HT_.out (by kernel_rfl)) (fun _ _ _ h => h) (Or.inl ⟨by rfl, ?_⟩) ?_ ?_
           rotate_left
           ·intro w'
            go_simp
            with_reducible rfl
           rotate_left
           ·simp only [Act.put, sA, sB, sC, i64_w, i32_w]
            rfl
           refine pure_ (i := 9) (N := some 79) (v := ?_) (a' := ?_) (ms 23 1023) rfl rfl (any_of HT_.out (by kernel_rfl)) (fun _ _ _ h => h) (Or.inl ⟨by rfl, ?_⟩) ?_ ?_
           rotate_left
           ·intro w'
            go_simp
            with_reducible rfl
           rotate_left
           ·simp only [Act.put, sA, sB, sC, i64_w, i32_w]
            rfl
           refine pure_ (i := 11) (N := some 81) (v := ?_) (a' := ?_) (ms 23 3071) rfl rfl (any_of HT_.out (by kernel_rfl)) (fun _ _ _ h => h) (Or.inl ⟨by rfl, ?_⟩) ?_ ?_
           rotate_left
           ·intro w'
            go_simp
            with_reducible rfl
           rotate_left
           ·simp only [Act.put, sA, sB, sC, i64_w, i32_w]
            rfl
           refine take_ (i := 10) (N := some 80) (v := ?_) (a' := ?_) (ms 23 4095) rfl rfl (take_ofW HT_.out HW_.out (by kernel_rfl)) (fun _ _ _ h => h) (Or.inl ⟨by rfl, ?_⟩) hHeld ?_ ?_
           rotate_left
           ·rintro w' ⟨s0, s1, s2, s3⟩
            go_simp
            with_reducible rfl
           rotate_left
           ·simp only [Act.put, sA, sB, sC, i64_w, i32_w]
            rfl
           refine take_ (i := 13) (N := some 83) (v := ?_) (a' := ?_) (ms 23 12287) rfl rfl (take_ofW HT_.out HW_.out (by kernel_rfl)) (fun _ _ _ h => h) (Or.inl ⟨by rfl, ?_⟩) hHeld ?_ ?_
           rotate_left
           ·rintro w' ⟨s0, s1, s2, s3⟩
            go_simp
            with_reducible rfl
           rotate_left
           ·simp only [Act.put, sA, sB, sC, i64_w, i32_w]
            rfl
           refine one_ (i := 12) (N := some 82) (ms 23 16383) rfl rfl (one_of HT_.out (by kernel_rfl)) (by decide) (fun K hK => ?_)
           refine goes_ Try.func16 (by kernel_rfl) rfl #[.agg #[.int .i64 t250, .slice Ao14 t251.length co14], .int .i64 t248] (by rfl) rfl rfl (by (try simp only [List.map_toArray, List.map_cons, List.map_nil]); first | done | rfl | (simp only [List.length_drop, List.length_take]; rfl)) ?_
           with_reducible refine (impl_LoadNet.calls k2 t250 _ _ t251 t248 t269 t270 _ ?side1 ?side2 A50.out).mono ?_
           (case side1 => repeat (first | exact (Kd.R_reads' HO_255001.out).2.2 | (with_reducible refine Kd.C_alloc ?_ _) | (with_reducible refine Kd.C_drewN ?_ _) | (with_reducible refine Kd.C_drew ?_)))
           (case side2 => exact (Kd.R_reads' HO_255001.out).2.1)
           rintro e w59 ⟨v271, rfl, ho0, hb⟩
           refine ⟨_, rfl, ?_⟩
           have n0_ := Aside0.mk (Kd.R_elder' (rk HO_250001) (Kd.R_base ho0) hb)
           have n1_ := Aside0.mk (Kd.R_elder' (rk HO_255001) (Kd.R_base ho0) hb)
           have n2_ := Aside0.mk (Kd.R_lower (Kd.R_new' (Kd.R_new' ho0 (Kd.R_lt (rk HO_250001))) (Kd.R_lt (rk HO_255001))) (below_size (bl2 HB GE249 GE254)))
           have n3_ := Aside0.mk (blk_below (bk BK249) hb)
           have n4_ := Aside0.mk (blk_below (bk BK254) hb)
           have n5_ := Aside0.mk (below_step (bl2 HB GE249 GE254) hb)
           clear HO_250001
           clear HO_255001
           clear BK249
           clear BK254
           clear HB
           have HO_250001 := n0_
           have HO_255001 := n1_
           have HO272 := n2_
           have BK249 := n3_
           have BK254 := n4_
           have HB := n5_
           clear n0_ n1_ n2_ n3_ n4_ n5_
           (try clear hb)
           (try clear hb2)
           (try clear hk)
           (try clear hi)
           (try clear ho0)
           obtain ⟨Ao60, co60, eo60⟩ := Kd.R_slice HO272.out
           (first | subst eo60 | (injection eo60 with f1_ f2_ f3_; have f4_ := f1_.symm; have f5_ := f3_.symm; clear f1_ f2_ f3_; subst f4_; subst f5_))
           refine hK.out _ _ ⟨(blk_cell BK254.out 0).trans rfl, (blk_cell BK254.out 1).trans rfl, (blk_cell BK249.out 0).trans rfl, (blk_cell BK249.out 1).trans rfl⟩ (fun hHeld => ?_)
           clear hK K
           refine norm_ (a' := ?_) ?_ ?_
           rotate_left
           ·show Act.put _ (some 82) _ = _
            simp only [Act.put, sA, sB, sC, i64_w, i32_w]
            rfl
           refine one_ (i := 14) (N := some 84) (ms 23 32767) rfl rfl (one_of HT_.out (by kernel_rfl)) (by decide) (fun K hK => ?_)
           refine goes_ Try.func17 (by kernel_rfl) rfl #[.agg #[.int .i64 t269, .slice Ao60 t270.length co60], .agg #[.int .i64 t250, .slice Ao14 t251.length co14]] (by rfl) rfl rfl (by (try simp only [List.map_toArray, List.map_cons, List.map_nil]); first | done | rfl | (simp only [List.length_drop, List.length_take]; rfl)) ?_
           with_reducible refine (laws_wkNet.calls k2 t269 _ _ t270 t250 _ _ t251 true _ ?side1 ?side2 ?side3 ?side4 A51.out).mono ?_
           (case side1 => repeat (first | exact (Kd.R_reads' HO272.out).2.2 | (with_reducible refine Kd.C_alloc ?_ _) | (with_reducible refine Kd.C_drewN ?_ _) | (with_reducible refine Kd.C_drew ?_)))
           (case side2 => exact (Kd.R_reads' HO272.out).2.1)
           (case side3 => repeat (first | exact (Kd.R_reads' HO_255001.out).2.2 | (with_reducible refine Kd.C_alloc ?_ _) | (with_reducible refine Kd.C_drewN ?_ _) | (with_reducible refine Kd.C_drew ?_)))
           (case side4 => exact (Kd.R_reads' HO_255001.out).2.1)
           rintro e w61 ⟨rfl, hb⟩
           refine ⟨_, rfl, ?_⟩
           have n0_ := Aside0.mk (Kd.R_below (rk HO_250001) hb)
           have n1_ := Aside0.mk (Kd.R_below (rk HO_255001) hb)
           have n2_ := Aside0.mk (Kd.R_below (rk HO272) hb)
           have n3_ := Aside0.mk (blk_below (bk BK249) hb)
           have n4_ := Aside0.mk (blk_below (bk BK254) hb)
           have n5_ := Aside0.mk (below_step (bl2 HB GE249 GE254) hb)
           clear HO_250001
           clear HO_255001
           clear HO272
           clear BK249
           clear BK254
           clear HB
           have HO_250001 := n0_
           have HO_255001 := n1_
           have HO272 := n2_
           have BK249 := n3_
           have BK254 := n4_
           have HB := n5_
           clear n0_ n1_ n2_ n3_ n4_ n5_
           (try clear hb)
           (try clear hb2)
           (try clear hk)
           (try clear hi)
           refine hK.out _ _ ⟨(blk_cell BK254.out 0).trans rfl, (blk_cell BK254.out 1).trans rfl, (blk_cell BK249.out 0).trans rfl, (blk_cell BK249.out 1).trans rfl⟩ (fun hHeld => ?_)
           clear hK K
           refine norm_ (a' := ?_) ?_ ?_
           rotate_left
           ·show Act.put _ (some 84) _ = _
            simp only [Act.put, sA, sB, sC, i64_w, i32_w]
            rfl
           refine pure_ (i := 15) (N := some 85) (v := ?_) (a' := ?_) (ms 23 65535) rfl rfl (any_of HT_.out (by kernel_rfl)) (fun _ _ _ h => h) (Or.inl ⟨by rfl, ?_⟩) ?_ ?_
           rotate_left
           ·intro w'
            go_simp
            with_reducible rfl
           rotate_left
           ·simp only [Act.put, sA, sB, sC, i64_w, i32_w]
            rfl
           refine pure_ (i := 16) (N := some 86) (v := ?_) (a' := ?_) (ms 23 131071) rfl rfl (any_of HT_.out (by kernel_rfl)) (fun _ _ _ h => h) (Or.inl ⟨by rfl, ?_⟩) ?_ ?_
           rotate_left
           ·intro w'
            go_simp
            with_reducible rfl
           rotate_left
           ·simp only [Act.put, sA, sB, sC, i64_w, i32_w]
            rfl
           refine take_ (i := 17) (N := some 87) (v := ?_) (a' := ?_) (ms 23 262143) rfl rfl (take_ofW HT_.out HW_.out (by kernel_rfl)) (fun _ _ _ h => h) (Or.inl ⟨by rfl, ?_⟩) hHeld ?_ ?_
           rotate_left
           ·rintro w' ⟨s0, s1, s2, s3⟩
            go_simp
            with_reducible rfl
           rotate_left
           ·simp only [Act.put, sA, sB, sC, i64_w, i32_w]
            rfl
           refine take_ (i := 19) (N := some 89) (v := ?_) (a' := ?_) (ms 23 786431) rfl rfl (take_ofW HT_.out HW_.out (by kernel_rfl)) (fun _ _ _ h => h) (Or.inl ⟨by rfl, ?_⟩) hHeld ?_ ?_
           rotate_left
           ·rintro w' ⟨s0, s1, s2, s3⟩
            go_simp
            with_reducible rfl
           rotate_left
           ·simp only [Act.put, sA, sB, sC, i64_w, i32_w]
            rfl
           refine one_ (i := 18) (N := some 88) (ms 23 1048575) rfl rfl (one_of HT_.out (by kernel_rfl)) (by decide) (fun K hK => ?_)
           refine goes_ Try.func16 (by kernel_rfl) rfl #[.agg #[.int .i64 t244, .slice Ao9 t245.length co9], .int .i64 0] (by rfl) rfl rfl (by (try simp only [List.map_toArray, List.map_cons, List.map_nil]); first | done | rfl | (simp only [List.length_drop, List.length_take]; rfl)) ?_
           with_reducible refine (impl_LoadNet.calls k2 t244 _ _ t245 0 t274 t275 _ ?side1 ?side2 A53.out).mono ?_
           (case side1 => repeat (first | exact (Kd.R_reads' HO_250001.out).2.2 | (with_reducible refine Kd.C_alloc ?_ _) | (with_reducible refine Kd.C_drewN ?_ _) | (with_reducible refine Kd.C_drew ?_)))
           (case side2 => exact (Kd.R_reads' HO_250001.out).2.1)
           rintro e w62 ⟨v276, rfl, ho0, hb⟩
           refine ⟨_, rfl, ?_⟩
           have n0_ := Aside0.mk (Kd.R_elder' (rk HO_250001) (Kd.R_base ho0) hb)
           have n1_ := Aside0.mk (Kd.R_elder' (rk HO_255001) (Kd.R_base ho0) hb)
           have n2_ := Aside0.mk (Kd.R_elder' (rk HO272) (Kd.R_base ho0) hb)
           have n3_ := Aside0.mk (Kd.R_lower (Kd.R_new' (Kd.R_new' (Kd.R_new' ho0 (Kd.R_lt (rk HO_250001))) (Kd.R_lt (rk HO_255001))) (Kd.R_lt (rk HO272))) (below_size (bl2 HB GE249 GE254)))
           have n4_ := Aside0.mk (blk_below (bk BK249) hb)
           have n5_ := Aside0.mk (blk_below (bk BK254) hb)
           have n6_ := Aside0.mk (below_step (bl2 HB GE249 GE254) hb)
           clear HO_250001
           clear HO_255001
           clear HO272
           clear BK249
           clear BK254
           clear HB
           have HO_250001 := n0_
           have HO_255001 := n1_
           have HO272 := n2_
           have HO277 := n3_
           have BK249 := n4_
           have BK254 := n5_
           have HB := n6_
           clear n0_ n1_ n2_ n3_ n4_ n5_ n6_
           (try clear hb)
           (try clear hb2)
           (try clear hk)
           (try clear hi)
           (try clear ho0)
           obtain ⟨Ao63, co63, eo63⟩ := Kd.R_slice HO277.out
           (first | subst eo63 | (injection eo63 with f1_ f2_ f3_; have f4_ := f1_.symm; have f5_ := f3_.symm; clear f1_ f2_ f3_; subst f4_; subst f5_))
           refine hK.out _ _ ⟨(blk_cell BK254.out 0).trans rfl, (blk_cell BK254.out 1).trans rfl, (blk_cell BK249.out 0).trans rfl, (blk_cell BK249.out 1).trans rfl⟩ (fun hHeld => ?_)
           clear hK K
           refine norm_ (a' := ?_) ?_ ?_
           rotate_left
           ·show Act.put _ (some 88) _ = _
            simp only [Act.put, sA, sB, sC, i64_w, i32_w]
            rfl
           refine one_ (i := 20) (N := some 90) (ms 23 2097151) rfl rfl (one_of HT_.out (by kernel_rfl)) (by decide) (fun K hK => ?_)
           refine goes_ Try.func17 (by kernel_rfl) rfl #[.agg #[.int .i64 t274, .slice Ao63 t275.length co63], .agg #[.int .i64 t244, .slice Ao9 t245.length co9]] (by rfl) rfl rfl (by (try simp only [List.map_toArray, List.map_cons, List.map_nil]); first | done | rfl | (simp only [List.length_drop, List.length_take]; rfl)) ?_
           with_reducible refine (laws_wkNet.calls k2 t274 _ _ t275 t244 _ _ t245 t278 _ ?side1 ?side2 ?side3 ?side4 A54.out).mono ?_
           (case side1 => repeat (first | exact (Kd.R_reads' HO277.out).2.2 | (with_reducible refine Kd.C_alloc ?_ _) | (with_reducible refine Kd.C_drewN ?_ _) | (with_reducible refine Kd.C_drew ?_)))
           (case side2 => exact (Kd.R_reads' HO277.out).2.1)
           (case side3 => repeat (first | exact (Kd.R_reads' HO_250001.out).2.2 | (with_reducible refine Kd.C_alloc ?_ _) | (with_reducible refine Kd.C_drewN ?_ _) | (with_reducible refine Kd.C_drew ?_)))
           (case side4 => exact (Kd.R_reads' HO_250001.out).2.1)
           rintro e w64 ⟨rfl, hb⟩
           refine ⟨_, rfl, ?_⟩
           have n0_ := Aside0.mk (Kd.R_below (rk HO_250001) hb)
           have n1_ := Aside0.mk (Kd.R_below (rk HO_255001) hb)
           have n2_ := Aside0.mk (Kd.R_below (rk HO272) hb)
           have n3_ := Aside0.mk (Kd.R_below (rk HO277) hb)
           have n4_ := Aside0.mk (blk_below (bk BK249) hb)
           have n5_ := Aside0.mk (blk_below (bk BK254) hb)
           have n6_ := Aside0.mk (below_step (bl2 HB GE249 GE254) hb)
           clear HO_250001
           clear HO_255001
           clear HO272
           clear HO277
           clear BK249
           clear BK254
           clear HB
           have HO_250001 := n0_
           have HO_255001 := n1_
           have HO272 := n2_
           have HO277 := n3_
           have BK249 := n4_
           have BK254 := n5_
           have HB := n6_
           clear n0_ n1_ n2_ n3_ n4_ n5_ n6_
           (try clear hb)
           (try clear hb2)
           (try clear hk)
           (try clear hi)
           refine hK.out _ _ ⟨(blk_cell BK254.out 0).trans rfl, (blk_cell BK254.out 1).trans rfl, (blk_cell BK249.out 0).trans rfl, (blk_cell BK249.out 1).trans rfl⟩ (fun hHeld => ?_)
           clear hK K
           refine norm_ (a' := ?_) ?_ ?_
           rotate_left
           ·show Act.put _ (some 90) _ = _
            simp only [Act.put, sA, sB, sC, i64_w, i32_w]
            rfl
           refine pure_ (i := 21) (N := some 91) (v := ?_) (a' := ?_) (ms 23 4194303) rfl rfl (any_of HT_.out (by kernel_rfl)) (fun _ _ _ h => h) (Or.inl ⟨by rfl, ?_⟩) ?_ ?_
           rotate_left
           ·intro w'
            go_simp
            with_reducible rfl
           rotate_left
           ·simp only [Act.put, sA, sB, sC, i64_w, i32_w]
            rfl
           refine pure_ (i := 22) (N := some 2) (v := ?_) (a' := ?_) (ms 23 8388607) rfl rfl (any_of HT_.out (by kernel_rfl)) (fun _ _ _ h => h) (Or.inl ⟨by rfl, ?_⟩) ?_ ?_
           rotate_left
           ·intro w'
            go_simp
            with_reducible rfl
           rotate_left
           ·simp only [Act.put, sA, sB, sC, i64_w, i32_w]
            rfl
           refine done_ (done_of HT_.out (by kernel_rfl)) ?_
           try go_wp2
           go_ret
           exact ⟨by first | rfl | (simp [errW_none, errW_some] <;> rfl) | (simp [*, errW_none, errW_some] <;> rfl), bl2 HB GE249 GE254⟩
          ·replace c52 := Bool.eq_false_iff.mpr c52
           subst c52
           rw [if_neg (show ¬ (false = true) by decide)] at H
           exact absurd ((Option.some.inj H).trans hr_) Bool.false_ne_true
         ·rw [if_neg c49] at H
          have c49b0 : (x6_2 == (t251.length : Int)) = false := beq_eq_false_iff_ne.mpr c49
          have c49b1 : (x6_2 != (t251.length : Int)) = true := bne_iff_ne.mpr c49
          exact absurd ((Option.some.inj H).trans hr_) Bool.false_ne_true
        ·replace c48 := Bool.eq_false_iff.mpr c48
         subst c48
         rw [if_neg (show ¬ (false = true) by decide)] at H
         exact absurd ((Option.some.inj H).trans hr_) Bool.false_ne_true

/-- THE ONE PURE STATEMENT of laws_FnLoadNet: yours. -/
def laws_FnLoadNet.Pure : Prop := ∀ (l0 : List Int), l0.length ≤ maxLen → l0.length * 1 ≤ 140737488351232 → (∀ x ∈ l0, (Lit.int .u8 x).wf = true) → ∃ k, laws_FnLoadNet.f k l0 = some true
theorem laws_FnLoadNet.walk (P : laws_FnLoadNet.Pure) (a0 : Option Addr) (len0 cap0 : Nat) (z0 : List Int) (w : World) (w0 : (a0 = none ∧ len0 = 0 ∧ cap0 = 0 ∧ z0 = []) ∨ ∃ x, a0 = some x ∧ len0 ≤ cap0 ∧ cap0 ≤ maxLen ∧ z0.length = cap0 ∧ (∀ i, i < z0.length → w.cell? (x.add i) = some (.int .u8 (z0.getD i 0))) ∧ ∀ n ∈ z0, (Lit.int .u8 n).wf = true) (y0 : len0 * 1 ≤ 140737488351232) :
  Calls Try.prog 3 #[.slice a0 len0 cap0] w fun e w' => e = .returned (.bool true) ∧ Below w.heap.size w w' := by
 obtain ⟨l0, rfl, hr0, hm0, hw0, hc0⟩ := ReadsInt.ofRowC w0
 obtain ⟨k, h⟩ := P l0 hm0 y0 hw0
 refine (laws_FnLoadNet.calls k _ _ l0 true w (Kd.C_of_reads (d := (0 : Int)) (h1 := fun _ => rfl) hr0) hc0 h rfl).mono ?_
 rintro e w' ⟨rfl, hd⟩
 exact ⟨rfl, hd⟩

end Go.Proofs.Ythgihpbpebbebaa.F
