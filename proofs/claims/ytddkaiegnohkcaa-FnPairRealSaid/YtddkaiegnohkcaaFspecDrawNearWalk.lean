-- Printed by wip/px/px.py of this claim's repository (the kit's printer, extended there). Lean checks it.
import Derived.Test.YtddkaiegnohkcaaFKinds
import Derived.Test.YtddkaiegnohkcaaFspecl30Open
import Derived.Test.YtddkaiegnohkcaaFspecl30AnyNet
import Derived.Test.YtddkaiegnohkcaaFspecl30Node
namespace Go.Proofs.Ytddkaiegnohkcaa.F
open Go.RowKit Go.Proofs.YtddkaiegnohkcaaW.PrintWords Go.Proofs.YtddkaiegnohkcaaW.PrintLast Go.Proofs.YtddkaiegnohkcaaW.PrintMore
attribute [local go_sem] max2_int min2_int max_two min_two max_three min_three max_four min_four   -- for this text's walks alone
set_option linter.unusedVariables false
set_option linter.unusedSimpArgs false

/-! ### spec_DrawNearWalk: function 54 -/
def spec_DrawNearWalk.f (k : Nat) (l0 : List Int) : Option (Int × (List (S33)) × Int × Int) := (spec_l30Open.f l0).bind fun bt285 => ((spec_l30AnyNet.f k bt285.1 bt285.2).bind fun bt288 => ((spec_l30Node.f k bt285.1 bt288.2.2 bt288.1 bt288.2.1).bind fun bt294 => ((spec_l30Node.f k bt285.1 bt294.2 bt288.1 bt288.2.1).bind fun bt296 => (some (bt288.1, bt288.2.1, bt294.1, bt296.1)))))
theorem spec_DrawNearWalk.mono : ∀ a0 k, LeO (spec_DrawNearWalk.f k a0) (spec_DrawNearWalk.f (k + 1) a0) := by
 intro a0 k
 unfold spec_DrawNearWalk.f
 repeat' first
   | (with_reducible exact spec_l30AnyNet.mono _ _ _)
   | (with_reducible exact spec_l30Node.mono _ _ _ _ _)
   | (with_reducible exact LeO.refl _)
   | (with_reducible exact LeO.none _)
   | (with_reducible refine LeO.ite ?_ ?_)
   | (with_reducible refine LeO.bind ?_ (fun _ => ?_))
   | exact spec_l30AnyNet.mono _ _ _
   | exact spec_l30Node.mono _ _ _ _ _
   | exact LeO.none _
   | refine LeO.ite ?_ ?_
   | refine LeO.bind ?_ (fun _ => ?_)
def spec_DrawNearWalk.T4 : Bool × List (List Nat × List Nat) := (true, [([], []), ([], []), ([], []), ([], []), ([2, 3], [2, 3]), ([0, 4, 0], [0]), ([1, 5, 0, 1, 5], [1]), ([4, 6, 0, 1, 2, 3, 4, 5, 6], [4])])
def spec_DrawNearWalk.B4 : List Nat := [0, 0, 0, 0, 12, 29, 63, 127]
theorem spec_DrawNearWalk.tab4 : rtab .any (opsOf Try.f54 4) = spec_DrawNearWalk.T4 := by kernel_rfl
theorem spec_DrawNearWalk.bits4 : waitsOk spec_DrawNearWalk.T4.2 spec_DrawNearWalk.B4 = true := by kernel_rfl
set_option maxHeartbeats 8000000 in
set_option maxRecDepth 100000 in
theorem spec_DrawNearWalk.calls (k : Nat) (A0 : Option Addr) (c0 : Nat) (l0 : List Int) (r1 : Int) (r2 : List (S33)) (r3 : Int) (r4 : Int) (w : World) (hr0 : Kd.C (Kd.int .u8) w A0 l0.length l0) (hc0 : l0.length ≤ c0) (h : spec_DrawNearWalk.f k l0 = some (r1, r2, r3, r4)) :
  Calls Try.prog 54 #[.slice A0 l0.length c0] w fun e w' => ∃ v1_ : Value, e = .returned (.tuple #[.agg #[.int .i64 r1, v1_], .int .i64 r3, .int .i64 r4]) ∧ Kd.R k33 33 w' w.heap.size (fun _ => True) v1_ r2 ∧ Below w.heap.size w w' := by
 have hu25 := Try.underlying25
 have HR0 := ak hr0
 have HC0 := ak hc0
 clear hr0 hc0
 have HB := ak (Below.refl w.heap.size w)
 have H : ((spec_l30Open.f l0).bind fun bt285 => ((spec_l30AnyNet.f k bt285.1 bt285.2).bind fun bt288 => ((spec_l30Node.f k bt285.1 bt288.2.2 bt288.1 bt288.2.1).bind fun bt294 => ((spec_l30Node.f k bt285.1 bt294.2 bt288.1 bt288.2.1).bind fun bt296 => (some (bt288.1, bt288.2.1, bt294.1, bt296.1)))))) = some (r1, r2, r3, r4) := h
 clear h
 replace H := Option.bind_eq_some_iff.mp H
 obtain ⟨⟨t285, t286⟩, A20, H⟩ := H
 have A2 := ak A20
 clear A20
 replace H := Option.bind_eq_some_iff.mp H
 obtain ⟨⟨t288, t289, t292⟩, A30, H⟩ := H
 have A3 := ak A30
 clear A30
 replace H := Option.bind_eq_some_iff.mp H
 obtain ⟨⟨t294, t295⟩, A40, H⟩ := H
 have A4 := ak A40
 clear A40
 replace H := Option.bind_eq_some_iff.mp H
 obtain ⟨⟨t296, t297⟩, A50, H⟩ := H
 have A5 := ak A50
 clear A50
 simp only [Option.some.injEq, Prod.mk.injEq] at H
 obtain ⟨rfl, rfl, rfl, rfl⟩ := H
 go_enter Try.func54, Try.ntmps54
 try go_wp2_with (first | ((with_reducible refine gate_dst (N := 2) rfl ?_); refine box_event ?hg (N := 2) ?hd (cs := #[.int .i64 0, .slice none 0 0]) (t := 25) ?hr ?_; (case hd => rfl); (case hg => rfl); (case hr => first | (go_simp; done) | (go_simp; rfl)); intro gb284 hg w6 hbox hb; have BK284 := ak (hbox); have GW284 := ak ((by rw [hg]; exact (below_size (bl HB)) : w.heap.size ≤ gb284)); have GE284 := ak ((by rw [hg]; exact (below_size (bl HB)) : w.heap.size ≤ gb284)); replace HB := ak (below_step (bl HB) hb); clear hb hbox hg) | ((with_reducible refine gate_callee (f := 38) rfl ?_); refine goesL_ (some 9) rfl rfl Try.func38 (by kernel_rfl) rfl #[.slice A0 l0.length c0] rfl (by (try simp only [List.map_toArray, List.map_cons, List.map_nil]); first | done | rfl | (simp only [List.length_drop, List.length_take]; rfl)) ?_; (with_reducible refine (spec_l30Open.calls _ _ l0 t285 t286 w _ ?side1 ?side2 ?side3 A2.out).mono ?_); (case side1 => repeat (first | (with_reducible first | exact HB.out | apply below_alloc | apply pw_below_drewN | apply below_drew1 | refine below_set ?_ GE284.out) | exact HB.out)); (case side2 => exact HR0.out); (case side3 => exact HC0.out); rintro e w7 ⟨g287, rfl, hi, hb, hb2⟩; refine ⟨_, rfl, ?_⟩; replace HB := ak (hb); have HI287 := ak (hi); have NB287_284 := ak (IsS89.ne_blk hi (blk_below (bk BK284) hb2) (by decide)); have NB284_287 := ak (Ne.symm (IsS89.ne_blk hi (blk_below (bk BK284) hb2) (by decide))); replace BK284 := ak (blk_below (bk BK284) hb2); (try clear hb); (try clear hb2); (try clear hk); (try clear hi)) | ((with_reducible refine gate_callee (f := 39) rfl ?_); refine goesL_ (some 11) rfl rfl Try.func39 (by kernel_rfl) rfl #[.pointer (some ⟨g287, 0, none⟩)] rfl (by (try simp only [List.map_toArray, List.map_cons, List.map_nil]); first | done | rfl | (simp only [List.length_drop, List.length_take]; rfl)) ?_; (with_reducible refine (spec_l30AnyNet.calls k g287 t285 t286 t288 t289 t292 w _ ?side1 ?side2 A3.out).mono ?_); (case side1 => repeat (first | (with_reducible first | exact HI287.out | apply IsS89.alloc | apply IsS89.drewN | apply IsS89.drew | apply IsS89.set_1 | refine IsS89.far ?_ NB287_284.out _) | exact HI287.out)); (case side2 => repeat (first | (with_reducible first | exact HB.out | apply below_alloc | apply pw_below_drewN | apply below_drew1 | refine below_set ?_ (IsS89.ge HI287.out) | refine below_set ?_ GE284.out) | exact HB.out)); rintro e w8 ⟨v290, rfl, ho0, hi, hb, hk⟩; refine ⟨_, rfl, ?_⟩; replace BK284 := ak (KeepBut.blk hk (g' := gb284) (o := .cells #[.int .i64 0, .slice none 0 0] 25 (0, 0)) (bk BK284) NB284_287.out (by simp)); have HO291 := ak (Kd.R_lower ho0 (below_size (by repeat (first | (with_reducible first | exact HB.out | apply below_alloc | apply pw_below_drewN | apply below_drew1 | refine below_set ?_ (IsS89.ge HI287.out) | refine below_set ?_ GE284.out) | exact HB.out)))); replace HB := ak (hb); replace HI287 := ak (hi); (try clear hb); (try clear hb2); (try clear hk); (try clear hi); (try clear ho0)) | ((with_reducible refine gate_dst (N := 6) rfl ?_); refine box_event ?hg (N := 6) ?hd (cs := #[.int .i64 0, .slice none 0 0]) (t := 25) ?hr ?_; (case hd => rfl); (case hg => rfl); (case hr => first | (go_simp; done) | (go_simp; rfl)); intro gb293 hg w9 hbox hb; replace HO291 := ak (Kd.R_below (rk HO291) hb); have BK293 := ak (hbox); have GW293 := ak ((by rw [hg]; exact (below_size (by repeat (first | (with_reducible first | exact HB.out | apply below_alloc | apply pw_below_drewN | apply below_drew1 | refine below_set ?_ (IsS89.ge HI287.out) | refine below_set ?_ GE284.out) | exact HB.out))) : w.heap.size ≤ gb293)); have GE293 := ak ((by rw [hg]; exact (below_size (by repeat (first | (with_reducible first | exact HB.out | apply below_alloc | apply pw_below_drewN | apply below_drew1 | refine below_set ?_ (IsS89.ge HI287.out) | refine below_set ?_ GE284.out) | exact HB.out))) : w.heap.size ≤ gb293)); replace HB := ak (below_step (by repeat (first | (with_reducible first | exact HB.out | apply below_alloc | apply pw_below_drewN | apply below_drew1 | refine below_set ?_ (IsS89.ge HI287.out) | refine below_set ?_ GE284.out) | exact HB.out)) hb); have NB284_293 := ak ((by rw [hg]; exact Nat.ne_of_lt (blk_lt (bk BK284)) : gb284 ≠ gb293)); have NB293_284 := ak ((by rw [hg]; exact Nat.ne_of_gt (blk_lt (bk BK284)) : gb293 ≠ gb284)); replace BK284 := ak (blk_below (bk BK284) hb); have NB287_293 := ak ((by rw [hg]; exact Nat.ne_of_lt (IsS89.lt (show IsS89 w _ g287 t285 t292 from by repeat (first | (with_reducible first | exact HI287.out | apply IsS89.alloc | apply IsS89.drewN | apply IsS89.drew | apply IsS89.set_1 | refine IsS89.far ?_ NB287_284.out _) | exact HI287.out))) : g287 ≠ gb293)); have NB293_287 := ak ((by rw [hg]; exact Nat.ne_of_gt (IsS89.lt (show IsS89 w _ g287 t285 t292 from by repeat (first | (with_reducible first | exact HI287.out | apply IsS89.alloc | apply IsS89.drewN | apply IsS89.drew | apply IsS89.set_1 | refine IsS89.far ?_ NB287_284.out _) | exact HI287.out))) : gb293 ≠ g287)); replace HI287 := ak (IsS89.below (by repeat (first | (with_reducible first | exact HI287.out | apply IsS89.alloc | apply IsS89.drewN | apply IsS89.drew | apply IsS89.set_1 | refine IsS89.far ?_ NB287_284.out _) | exact HI287.out)) hb); clear hb hbox hg; have hnb10 := NB293_284.out; have hnc10 := NB284_293.out; have hnb11 := NB293_287.out; have hnc11 := NB287_293.out; have hcz12_0 := bc w9 BK293 0 (.int .i64 0) rfl; have hcz12_1 := bc w9 BK293 1 (.slice none 0 0) rfl; have hfz12_0 := fz BK293 0; have hfz12_1 := fz BK293 1; obtain ⟨Ao13, co13, eo13⟩ := Kd.R_slice HO291.out; subst eo13) | ((with_reducible refine gate_callee (f := 57) rfl ?_); refine goesL_ (some 14) rfl rfl Try.func57 (by kernel_rfl) rfl #[.pointer (some ⟨g287, 0, none⟩), .agg #[.int .i64 t288, .slice Ao13 t289.length co13]] rfl (by (try simp only [List.map_toArray, List.map_cons, List.map_nil]); first | done | rfl | (simp only [List.length_drop, List.length_take]; rfl)) ?_; (with_reducible refine (spec_l30Node.calls k g287 t285 t292 t288 _ _ t289 t294 t295 w _ ?side1 ?side2 ?side3 ?side4 A4.out).mono ?_); (case side1 => repeat (first | (with_reducible first | exact HI287.out | apply IsS89.alloc | apply IsS89.drewN | apply IsS89.drew | apply IsS89.set_1 | refine IsS89.far ?_ NB287_284.out _ | refine IsS89.far ?_ NB287_293.out _) | exact HI287.out)); (case side2 => repeat (first | (with_reducible first | exact HB.out | apply below_alloc | apply pw_below_drewN | apply below_drew1 | refine below_set ?_ (IsS89.ge HI287.out) | refine below_set ?_ GE284.out | refine below_set ?_ GE293.out) | exact HB.out)); (case side3 => exact Kd.C_foot_own (IsS89.apart (show IsS89 w _ g287 t285 t292 from by repeat (first | (with_reducible first | exact HI287.out | apply IsS89.alloc | apply IsS89.drewN | apply IsS89.drew | apply IsS89.set_1 | refine IsS89.far ?_ NB287_284.out _ | refine IsS89.far ?_ NB287_293.out _) | exact HI287.out)) (by (with_reducible repeat (first | apply Kd.R_alloc | apply Kd.R_drewN | apply Kd.R_drew)); exact (Kd.R_mono (Kd.R_far (p := ⟨gb293, 1, none⟩) (Kd.R_far (p := ⟨gb293, 0, none⟩) (Kd.R_types HO291.out BK293.out (by decide)) (fun _ hk => hk.2) (.int .i64 t288)) (fun _ hk => hk.2) (.slice Ao13 t289.length co13)) (fun _ h_ => h_.1))) (by decide)) (fun _ h_ => h_.2)); (case side4 => exact (Kd.R_reads' HO291.out).2.1); rintro e w14 ⟨rfl, hi, hb, hk⟩; refine ⟨_, rfl, ?_⟩; replace BK284 := ak (KeepBut.blk hk (g' := gb284) (o := .cells #[.int .i64 0, .slice none 0 0] 25 (0, 0)) (by (with_reducible repeat (first | refine blk_drewN ?_ _ | refine blk_drew ?_ | refine blk_alloc ?_ _)); refine blk_far ?_ NB284_293.out _; refine blk_far ?_ NB284_293.out _; (with_reducible repeat (first | refine blk_drewN ?_ _ | refine blk_drew ?_ | refine blk_alloc ?_ _)); exact BK284.out) NB284_287.out (by simp)); replace HO291 := ak (Kd.R_mono (Kd.R_keep (IsS89.apart (show IsS89 w _ g287 t285 t292 from by repeat (first | (with_reducible first | exact HI287.out | apply IsS89.alloc | apply IsS89.drewN | apply IsS89.drew | apply IsS89.set_1 | refine IsS89.far ?_ NB287_284.out _ | refine IsS89.far ?_ NB287_293.out _) | exact HI287.out)) (by (with_reducible repeat (first | apply Kd.R_alloc | apply Kd.R_drewN | apply Kd.R_drew)); exact (Kd.R_mono (Kd.R_far (p := ⟨gb293, 1, none⟩) (Kd.R_far (p := ⟨gb293, 0, none⟩) (Kd.R_types HO291.out BK293.out (by decide)) (fun _ hk => hk.2) (.int .i64 t288)) (fun _ hk => hk.2) (.slice Ao13 t289.length co13)) (fun _ h_ => h_.1))) (by decide)) hk (fun _ h => h.2)) (fun _ h => h.1)); replace BK293 := ak (KeepBut.blk hk (g' := gb293) (o := .cells #[.int .i64 t288, .slice Ao13 t289.length co13] 25 (0, 0)) (by (with_reducible repeat (first | refine blk_drewN ?_ _ | refine blk_drew ?_ | refine blk_alloc ?_ _)); refine blk_put (cs := #[.int .i64 t288, .slice none 0 0]) ?_ 1 _ rfl; refine blk_put (cs := #[.int .i64 0, .slice none 0 0]) ?_ 0 _ rfl; (with_reducible repeat (first | refine blk_drewN ?_ _ | refine blk_drew ?_ | refine blk_alloc ?_ _)); exact BK293.out) NB293_287.out (by simp)); replace HB := ak (hb); replace HI287 := ak (hi); (try clear hb); (try clear hb2); (try clear hk); (try clear hi)))
 replace HO291 := ak (Kd.R_drew HO291.out)
 replace BK284 := ak (blk_drew BK284.out)
 replace BK293 := ak (blk_drew BK293.out)
 replace HI287 := ak (IsS89.drew HI287.out)
 replace HB := ak (below_drew1 HB.out)
 refine start_ (n := 8) (S := fun w' => w'.cell? ⟨gb293, 0, none⟩ = some (.int .i64 t288) ∧ w'.cell? ⟨gb293, 1, none⟩ = some (.slice Ao13 t289.length co13)) (ds := []) (ms 8 0) (by kernel_rfl) rfl (by kernel_rfl) ⟨(blk_cell BK293.out 0).trans rfl, (blk_cell BK293.out 1).trans rfl⟩ (fun hHeld => ?_); refine with_tabW spec_DrawNearWalk.tab4 spec_DrawNearWalk.bits4 (fun HT_ HW_ => ?_)
 generalize w14.drew = w15 at HO291 BK284 BK293 HI287 HB hHeld ⊢
 refine pu 1 16 ?_ (ms 8 2) rfl rfl HT_ (by kernel_rfl) (fun _ _ _ h => h) (by rfl) ?_ ?_ ?_ ?_
 rotate_left
 ·intro w'
  go_simp
  with_reducible rfl
 rotate_left
 ·simp only [SX]
  rfl
 refine pu 2 17 ?_ (ms 8 6) rfl rfl HT_ (by kernel_rfl) (fun _ _ _ h => h) (by rfl) ?_ ?_ ?_ ?_
 rotate_left
 ·intro w'
  go_simp
  with_reducible rfl
 rotate_left
 ·simp only [SX]
  rfl
 refine tk 0 15 ?_ (ms 8 7) rfl rfl HT_ HW_ (by kernel_rfl) (fun _ _ _ h => h) (by rfl) ?_ hHeld ?_ ?_ ?_
 rotate_left
 ·rintro w' ⟨s0, s1⟩
  go_simp
  with_reducible rfl
 rotate_left
 ·simp only [SX]
  rfl
 refine tk 3 18 ?_ (ms 8 15) rfl rfl HT_ HW_ (by kernel_rfl) (fun _ _ _ h => h) (by rfl) ?_ hHeld ?_ ?_ ?_
 rotate_left
 ·rintro w' ⟨s0, s1⟩
  go_simp
  with_reducible rfl
 rotate_left
 ·simp only [SX]
  rfl
 refine one_ (i := 4) (N := some 19) (ms 8 31) rfl rfl (one_of HT_.out (by kernel_rfl)) (by decide) (fun K hK => ?_)
 refine goes_ Try.func57 (by kernel_rfl) rfl #[.pointer (some ⟨g287, 0, none⟩), .agg #[.int .i64 t288, .slice Ao13 t289.length co13]] (by rfl) rfl rfl (by (try simp only [List.map_toArray, List.map_cons, List.map_nil]); first | done | rfl | (simp only [List.length_drop, List.length_take]; rfl)) ?_
 with_reducible refine (spec_l30Node.calls k g287 t285 t295 t288 _ _ t289 t296 t297 w _ ?side1 ?side2 ?side3 ?side4 A5.out).mono ?_
 (case side1 => repeat (first | (with_reducible first | exact HI287.out | apply IsS89.alloc | apply IsS89.drewN | apply IsS89.drew | apply IsS89.set_1 | refine IsS89.far ?_ NB287_284.out _ | refine IsS89.far ?_ NB287_293.out _) | exact HI287.out))
 (case side2 => repeat (first | (with_reducible first | exact HB.out | apply below_alloc | apply pw_below_drewN | apply below_drew1 | refine below_set ?_ (IsS89.ge HI287.out) | refine below_set ?_ GE284.out | refine below_set ?_ GE293.out) | exact HB.out))
 (case side3 => exact Kd.C_foot_own (IsS89.apart (show IsS89 w _ g287 t285 t295 from by repeat (first | (with_reducible first | exact HI287.out | apply IsS89.alloc | apply IsS89.drewN | apply IsS89.drew | apply IsS89.set_1 | refine IsS89.far ?_ NB287_284.out _ | refine IsS89.far ?_ NB287_293.out _) | exact HI287.out)) (rk HO291) (by decide)) (fun _ h_ => h_.2))
 (case side4 => exact (Kd.R_reads' HO291.out).2.1)
 rintro e w16 ⟨rfl, hi, hb, hk⟩
 refine ⟨_, rfl, ?_⟩
 replace BK284 := ak (KeepBut.blk hk (g' := gb284) (o := .cells #[.int .i64 0, .slice none 0 0] 25 (0, 0)) (bk BK284) NB284_287.out (by simp))
 replace HO291 := ak (Kd.R_mono (Kd.R_keep (IsS89.apart (show IsS89 w _ g287 t285 t295 from by repeat (first | (with_reducible first | exact HI287.out | apply IsS89.alloc | apply IsS89.drewN | apply IsS89.drew | apply IsS89.set_1 | refine IsS89.far ?_ NB287_284.out _ | refine IsS89.far ?_ NB287_293.out _) | exact HI287.out)) (rk HO291) (by decide)) hk (fun _ h => h.2)) (fun _ h => h.1))
 replace BK293 := ak (KeepBut.blk hk (g' := gb293) (o := .cells #[.int .i64 t288, .slice Ao13 t289.length co13] 25 (0, 0)) (bk BK293) NB293_287.out (by simp))
 replace HB := ak (hb)
 replace HI287 := ak (hi)
 (try clear hb)
 (try clear hb2)
 (try clear hk)
 (try clear hi)
 refine hK.out _ _ ⟨(blk_cell BK293.out 0).trans rfl, (blk_cell BK293.out 1).trans rfl⟩ (fun hHeld => ?_)
 clear hK K
 refine norm_ (a' := ?_) ?_ ?_
 rotate_left
 ·show Act.put _ (some 19) _ = _
  simp only [SX]
  rfl
 refine one_ (i := 5) (N := none) (ms 8 63) rfl rfl (one_of HT_.out (by kernel_rfl)) (by decide) (fun K hK => ?_)
 have hs17 : w16.cell? ⟨gb284, 0, none⟩ = some (.int .i64 0) := (blk_cell BK284.out 0).trans rfl
 have hfs17 := blk_frozen BK284.out 0
 have hns17_1 := NB293_284.out
 have hms17_1 := NB284_293.out
 have hs18 : w16.cell? ⟨gb284, 1, none⟩ = some (.slice none 0 0) := (blk_cell BK284.out 1).trans rfl
 have hfs18 := blk_frozen BK284.out 1
 have hns18_1 := NB293_284.out
 have hms18_1 := NB284_293.out
 refine skip_ (w1 := ?_) (by rfl) rfl ?_ ?_
 rotate_left
 ·go_simp
  rfl
 refine hK.out _ _ ⟨((cell_far (p := ⟨gb284, _, none⟩) NB293_284.out _).trans (((cell_far (p := ⟨gb284, _, none⟩) NB293_284.out _).trans (hHeld.1)))), ((cell_far (p := ⟨gb284, _, none⟩) NB293_284.out _).trans (((cell_far (p := ⟨gb284, _, none⟩) NB293_284.out _).trans (hHeld.2))))⟩ (fun hHeld => ?_)
 clear hK K
 refine pu 6 3 ?_ (ms 8 127) rfl rfl HT_ (by kernel_rfl) (fun _ _ _ h => h) (by rfl) ?_ ?_ ?_ ?_
 rotate_left
 ·intro w'
  go_simp
  with_reducible rfl
 rotate_left
 ·simp only [SX]
  rfl
 refine pu 7 4 ?_ (ms 8 255) rfl rfl HT_ (by kernel_rfl) (fun _ _ _ h => h) (by rfl) ?_ ?_ ?_ ?_
 rotate_left
 ·intro w'
  go_simp
  with_reducible rfl
 rotate_left
 ·simp only [SX]
  rfl
 refine done_ (done_of HT_.out (by kernel_rfl)) ?_
 try go_wp2
 refine bodyPost_ret (results_ctt rfl _ _ gb284 25 #[.int .i64 t288, .slice Ao13 t289.length co13] (0, 0) _ rfl (by (with_reducible repeat (first | refine blk_drewN ?_ _ | refine blk_drew ?_ | refine blk_alloc ?_ _)); refine blk_put (cs := #[.int .i64 t288, .slice none 0 0]) ?_ 1 _ rfl; refine blk_put (cs := #[.int .i64 0, .slice none 0 0]) ?_ 0 _ rfl; (with_reducible repeat (first | refine blk_drewN ?_ _ | refine blk_drew ?_ | refine blk_alloc ?_ _)); exact BK284.out) Try.underlying25 rfl (by kernel_rfl)) rfl ?_
 exact ⟨_, by first | rfl | (simp [errW_none, errW_some] <;> rfl) | (simp [*, errW_none, errW_some] <;> rfl), by (with_reducible repeat (first | apply Kd.R_alloc | apply Kd.R_drewN | apply Kd.R_drew)); exact Kd.R_mono (Kd.R_far (p := ⟨gb284, 1, none⟩) (Kd.R_far (p := ⟨gb284, 0, none⟩) (Kd.R_types HO291.out BK284.out (by decide)) (fun _ hk => hk.2) (.int .i64 t288)) (fun _ hk => hk.2) (.slice Ao13 t289.length co13)) (fun _ hk => trivial), by repeat (first | (with_reducible first | exact HB.out | apply below_alloc | apply pw_below_drewN | apply below_drew1 | refine below_set ?_ (IsS89.ge HI287.out) | refine below_set ?_ GE284.out | refine below_set ?_ GE293.out) | exact HB.out)⟩

end Go.Proofs.Ytddkaiegnohkcaa.F
