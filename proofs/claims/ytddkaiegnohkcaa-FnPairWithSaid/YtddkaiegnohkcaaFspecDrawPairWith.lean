-- Printed by wip/px/px.py of this claim's repository (the kit's printer, extended there). Lean checks it.
import Derived.Test.YtddkaiegnohkcaaFKinds
import Derived.Test.YtddkaiegnohkcaaFspecl30Open
import Derived.Test.YtddkaiegnohkcaaFspecl30Rdone
import Derived.Test.YtddkaiegnohkcaaFspecl30AnyNet
import Derived.Test.YtddkaiegnohkcaaFspecl30Node
namespace Go.Proofs.Ytddkaiegnohkcaa.F
open Go.RowKit Go.Proofs.YtddkaiegnohkcaaW.PrintWords Go.Proofs.YtddkaiegnohkcaaW.PrintLast Go.Proofs.YtddkaiegnohkcaaW.PrintMore
attribute [local go_sem] max2_int min2_int max_two min_two max_three min_three max_four min_four   -- for this text's walks alone
set_option linter.unusedVariables false
set_option linter.unusedSimpArgs false

/-! ### spec_DrawPairWith: function 30 -/
def spec_DrawPairWith.f (k : Nat) (l0 : List Int) : Option (Int × (List (S33)) × Int × Int × Int) := (spec_l30Open.f l0).bind fun bt403 => ((spec_l30AnyNet.f k bt403.1 bt403.2).bind fun bt406 => ((spec_l30Node.f k bt403.1 bt406.2.2 bt406.1 bt406.2.1).bind fun bt412 => ((spec_l30Node.f k bt403.1 bt412.2 bt406.1 bt406.2.1).bind fun bt414 => ((spec_l30Rd_one.f k bt403.1 bt414.2 (([0, 3, 8, 20, (-1)] : List Int))).bind fun bt419 => (some (bt406.1, bt406.2.1, bt412.1, bt414.1, bt419.1))))))
theorem spec_DrawPairWith.mono : ∀ a0 k, LeO (spec_DrawPairWith.f k a0) (spec_DrawPairWith.f (k + 1) a0) := by
 intro a0 k
 unfold spec_DrawPairWith.f
 repeat' first | (with_reducible exact spec_l30AnyNet.mono _ _ _) | (with_reducible exact spec_l30Node.mono _ _ _ _ _) | (with_reducible exact spec_l30Rd_one.mono _ _ _ _) | (with_reducible exact LeO.refl _) | (with_reducible refine LeO.bind ?_ (fun _ => ?_))
def spec_DrawPairWith.T5 : Bool × List (List Nat × List Nat) := (true, [([], []), ([], []), ([], []), ([], []), ([], []), ([3, 4], [3, 4]), ([0, 5, 0], [0]), ([1, 6, 0, 1, 6], [1]), ([2, 7, 0, 1, 2, 6, 7], [2]), ([5, 8, 0, 1, 2, 3, 4, 5, 6, 7, 8], [5])])
def spec_DrawPairWith.B5 : List Nat := [0, 0, 0, 0, 0, 24, 57, 123, 255, 511]
theorem spec_DrawPairWith.tab5 : rtab .any (opsOf Try.f30 5) = spec_DrawPairWith.T5 := by kernel_rfl
theorem spec_DrawPairWith.bits5 : waitsOk spec_DrawPairWith.T5.2 spec_DrawPairWith.B5 = true := by kernel_rfl
set_option maxHeartbeats 8000000 in
set_option maxRecDepth 100000 in
theorem spec_DrawPairWith.calls (k : Nat) (A0 : Option Addr) (c0 : Nat) (l0 : List Int) (r1 : Int) (r2 : List (S33)) (r3 : Int) (r4 : Int) (r5 : Int) (w : World) (hr0 : Kd.C (Kd.int .u8) w A0 l0.length l0) (hc0 : l0.length ≤ c0) (h : spec_DrawPairWith.f k l0 = some (r1, r2, r3, r4, r5)) :
  Calls Try.prog 30 #[.slice A0 l0.length c0] w fun e w' => ∃ v1_ : Value, e = .returned (.tuple #[.agg #[.int .i64 r1, v1_], .int .i64 r3, .int .i64 r4, .int .i64 r5]) ∧ Kd.R k33 33 w' w.heap.size (fun _ => True) v1_ r2 ∧ Below w.heap.size w w' := by
 have hu25 := Try.underlying25
 have HR0 := ak hr0
 have HC0 := ak hc0
 clear hr0 hc0
 have HB := ak (Below.refl w.heap.size w)
 have H : ((spec_l30Open.f l0).bind fun bt403 => ((spec_l30AnyNet.f k bt403.1 bt403.2).bind fun bt406 => ((spec_l30Node.f k bt403.1 bt406.2.2 bt406.1 bt406.2.1).bind fun bt412 => ((spec_l30Node.f k bt403.1 bt412.2 bt406.1 bt406.2.1).bind fun bt414 => ((spec_l30Rd_one.f k bt403.1 bt414.2 (([0, 3, 8, 20, (-1)] : List Int))).bind fun bt419 => (some (bt406.1, bt406.2.1, bt412.1, bt414.1, bt419.1))))))) = some (r1, r2, r3, r4, r5) := h
 clear h
 replace H := Option.bind_eq_some_iff.mp H
 obtain ⟨⟨t403, t404⟩, A20, H⟩ := H
 have A2 := ak A20
 clear A20
 replace H := Option.bind_eq_some_iff.mp H
 obtain ⟨⟨t406, t407, t410⟩, A30, H⟩ := H
 have A3 := ak A30
 clear A30
 replace H := Option.bind_eq_some_iff.mp H
 obtain ⟨⟨t412, t413⟩, A40, H⟩ := H
 have A4 := ak A40
 clear A40
 replace H := Option.bind_eq_some_iff.mp H
 obtain ⟨⟨t414, t415⟩, A50, H⟩ := H
 have A5 := ak A50
 clear A50
 obtain ⟨y416, hy416⟩ : ∃ y_ : List Int, y_ = (([0, 3, 8, 20, (-1)] : List Int)) := ⟨_, rfl⟩
 replace H : ((spec_l30Rd_one.f k t403 t415 y416).bind fun bt419 => (some (t406, t407, t412, t414, bt419.1))) = some (r1, r2, r3, r4, r5) := by (rw [hy416]; with_reducible exact H)
 have Ny416 := ak hy416
 clear hy416
 replace H := Option.bind_eq_some_iff.mp H
 obtain ⟨⟨t419, t420⟩, A60, H⟩ := H
 have A6 := ak A60
 clear A60
 simp only [Option.some.injEq, Prod.mk.injEq] at H
 obtain ⟨rfl, rfl, rfl, rfl, rfl⟩ := H
 go_enter Try.func30, Try.ntmps30
 try go_wp2_with (first | ((with_reducible refine gate_dst (N := 2) rfl ?_); refine box_event ?hg (N := 2) ?hd (cs := #[.int .i64 0, .slice none 0 0]) (t := 25) ?hr ?_; (case hd => rfl); (case hg => rfl); (case hr => (go_simp; done)); intro gb402 hg w7 hbox hb; have BK402 := ak (hbox); have GW402 := ak ((by rw [hg]; exact (below_size (bl HB)) : w.heap.size ≤ gb402)); have GE402 := ak ((by rw [hg]; exact (below_size (bl HB)) : w.heap.size ≤ gb402)); replace HB := ak (below_step (bl HB) hb); clear hb hbox hg) | ((with_reducible refine gate_callee (f := 38) rfl ?_); refine goesL_ (some 11) rfl rfl Try.func38 (by kernel_rfl) rfl #[.slice A0 l0.length c0] rfl (by (try simp only [List.map_toArray, List.map_cons, List.map_nil]); rfl) ?_; (with_reducible refine (spec_l30Open.calls _ _ l0 t403 t404 w _ ?side1 ?side2 ?side3 A2.out).mono ?_); (case side1 => repeat ((with_reducible exact HB.out))); (case side2 => exact HR0.out); (case side3 => exact HC0.out); rintro e w8 ⟨g405, rfl, hi, hb, hb2⟩; refine ⟨_, rfl, ?_⟩; replace HB := ak (hb); have HI405 := ak (hi); have NB405_402 := ak (IsS89.ne_blk hi (blk_below (bk BK402) hb2) (by decide)); have NB402_405 := ak (Ne.symm (IsS89.ne_blk hi (blk_below (bk BK402) hb2) (by decide))); replace BK402 := ak (blk_below (bk BK402) hb2); (try clear hb); (try clear hb2); (try clear hk); (try clear hi)) | ((with_reducible refine gate_callee (f := 39) rfl ?_); refine goesL_ (some 13) rfl rfl Try.func39 (by kernel_rfl) rfl #[.pointer (some ⟨g405, 0, none⟩)] rfl (by (try simp only [List.map_toArray, List.map_cons, List.map_nil]); rfl) ?_; (with_reducible refine (spec_l30AnyNet.calls k g405 t403 t404 t406 t407 t410 w _ ?side1 ?side2 A3.out).mono ?_); (case side1 => repeat ((with_reducible exact HI405.out))); (case side2 => repeat ((with_reducible exact HB.out))); rintro e w9 ⟨v408, rfl, ho0, hi, hb, hk⟩; refine ⟨_, rfl, ?_⟩; replace BK402 := ak (KeepBut.blk hk (g' := gb402) (o := .cells #[.int .i64 0, .slice none 0 0] 25 (0, 0)) (bk BK402) NB402_405.out (by simp)); have HO409 := ak (Kd.R_lower ho0 (below_size (by repeat ((with_reducible exact HB.out))))); replace HB := ak (hb); replace HI405 := ak (hi); (try clear hb); (try clear hb2); (try clear hk); (try clear hi); (try clear ho0)) | ((with_reducible refine gate_dst (N := 7) rfl ?_); refine box_event ?hg (N := 7) ?hd (cs := #[.int .i64 0, .slice none 0 0]) (t := 25) ?hr ?_; (case hd => rfl); (case hg => rfl); (case hr => (go_simp; done)); intro gb411 hg w10 hbox hb; replace HO409 := ak (Kd.R_below (rk HO409) hb); have BK411 := ak (hbox); have GW411 := ak ((by rw [hg]; exact (below_size (by repeat ((with_reducible exact HB.out)))) : w.heap.size ≤ gb411)); have GE411 := ak ((by rw [hg]; exact (below_size (by repeat ((with_reducible exact HB.out)))) : w.heap.size ≤ gb411)); replace HB := ak (below_step (by repeat ((with_reducible exact HB.out))) hb); have NB402_411 := ak ((by rw [hg]; exact Nat.ne_of_lt (blk_lt (bk BK402)) : gb402 ≠ gb411)); have NB411_402 := ak ((by rw [hg]; exact Nat.ne_of_gt (blk_lt (bk BK402)) : gb411 ≠ gb402)); replace BK402 := ak (blk_below (bk BK402) hb); have NB405_411 := ak ((by rw [hg]; exact Nat.ne_of_lt (IsS89.lt (show IsS89 w _ g405 t403 t410 from by repeat ((with_reducible exact HI405.out)))) : g405 ≠ gb411)); have NB411_405 := ak ((by rw [hg]; exact Nat.ne_of_gt (IsS89.lt (show IsS89 w _ g405 t403 t410 from by repeat ((with_reducible exact HI405.out)))) : gb411 ≠ g405)); replace HI405 := ak (IsS89.below (by repeat ((with_reducible exact HI405.out))) hb); clear hb hbox hg; have hnb11 := NB411_402.out; have hnc11 := NB402_411.out; have hnb12 := NB411_405.out; have hnc12 := NB405_411.out; have hcz13_0 := bc w10 BK411 0 (.int .i64 0) rfl; have hcz13_1 := bc w10 BK411 1 (.slice none 0 0) rfl; have hfz13_0 := fz BK411 0; have hfz13_1 := fz BK411 1; obtain ⟨Ao14, co14, eo14⟩ := Kd.R_slice HO409.out; subst eo14) | ((with_reducible refine gate_callee (f := 57) rfl ?_); refine goesL_ (some 16) rfl rfl Try.func57 (by kernel_rfl) rfl #[.pointer (some ⟨g405, 0, none⟩), .agg #[.int .i64 t406, .slice Ao14 t407.length co14]] rfl (by (try simp only [List.map_toArray, List.map_cons, List.map_nil]); rfl) ?_; (with_reducible refine (spec_l30Node.calls k g405 t403 t410 t406 _ _ t407 t412 t413 w _ ?side1 ?side2 ?side3 ?side4 A4.out).mono ?_); (case side1 => repeat ((with_reducible first | exact HI405.out | refine IsS89.far ?_ NB405_411.out _))); (case side2 => repeat ((with_reducible first | exact HB.out | refine below_set ?_ GE411.out))); (case side3 => exact Kd.C_foot_own (IsS89.apart (show IsS89 w _ g405 t403 t410 from by repeat ((with_reducible first | exact HI405.out | refine IsS89.far ?_ NB405_411.out _))) (by exact (Kd.R_mono (Kd.R_far (p := ⟨gb411, 1, none⟩) (Kd.R_far (p := ⟨gb411, 0, none⟩) (Kd.R_types HO409.out BK411.out (by decide)) (fun _ hk => hk.2) (.int .i64 t406)) (fun _ hk => hk.2) (.slice Ao14 t407.length co14)) (fun _ h_ => h_.1))) (by decide)) (fun _ h_ => h_.2)); (case side4 => exact (Kd.R_reads' HO409.out).2.1); rintro e w15 ⟨rfl, hi, hb, hk⟩; refine ⟨_, rfl, ?_⟩; replace BK402 := ak (KeepBut.blk hk (g' := gb402) (o := .cells #[.int .i64 0, .slice none 0 0] 25 (0, 0)) (by refine blk_far ?_ NB402_411.out _; refine blk_far ?_ NB402_411.out _; exact BK402.out) NB402_405.out (by simp)); replace HO409 := ak (Kd.R_mono (Kd.R_keep (IsS89.apart (show IsS89 w _ g405 t403 t410 from by repeat ((with_reducible first | exact HI405.out | refine IsS89.far ?_ NB405_411.out _))) (by exact (Kd.R_mono (Kd.R_far (p := ⟨gb411, 1, none⟩) (Kd.R_far (p := ⟨gb411, 0, none⟩) (Kd.R_types HO409.out BK411.out (by decide)) (fun _ hk => hk.2) (.int .i64 t406)) (fun _ hk => hk.2) (.slice Ao14 t407.length co14)) (fun _ h_ => h_.1))) (by decide)) hk (fun _ h => h.2)) (fun _ h => h.1)); replace BK411 := ak (KeepBut.blk hk (g' := gb411) (o := .cells #[.int .i64 t406, .slice Ao14 t407.length co14] 25 (0, 0)) (by refine blk_put (cs := #[.int .i64 t406, .slice none 0 0]) ?_ 1 _ rfl; refine blk_put (cs := #[.int .i64 0, .slice none 0 0]) ?_ 0 _ rfl; exact BK411.out) NB411_405.out (by simp)); replace HB := ak (hb); replace HI405 := ak (hi); (try clear hb); (try clear hb2); (try clear hk); (try clear hi); have hcz16_0 := bc w15 BK411 0 (.int .i64 t406) rfl; have hcz16_1 := bc w15 BK411 1 (.slice Ao14 t407.length co14) rfl; have hfz16_0 := fz BK411 0; have hfz16_1 := fz BK411 1) | ((with_reducible refine gate_callee (f := 57) rfl ?_); refine goesL_ (some 19) rfl rfl Try.func57 (by kernel_rfl) rfl #[.pointer (some ⟨g405, 0, none⟩), .agg #[.int .i64 t406, .slice Ao14 t407.length co14]] rfl (by (try simp only [List.map_toArray, List.map_cons, List.map_nil]); rfl) ?_; (with_reducible refine (spec_l30Node.calls k g405 t403 t413 t406 _ _ t407 t414 t415 w _ ?side1 ?side2 ?side3 ?side4 A5.out).mono ?_); (case side1 => repeat ((with_reducible exact HI405.out))); (case side2 => repeat ((with_reducible exact HB.out))); (case side3 => exact Kd.C_foot_own (IsS89.apart (show IsS89 w _ g405 t403 t413 from by repeat ((with_reducible exact HI405.out))) (rk HO409) (by decide)) (fun _ h_ => h_.2)); (case side4 => exact (Kd.R_reads' HO409.out).2.1); rintro e w17 ⟨rfl, hi, hb, hk⟩; refine ⟨_, rfl, ?_⟩; replace BK402 := ak (KeepBut.blk hk (g' := gb402) (o := .cells #[.int .i64 0, .slice none 0 0] 25 (0, 0)) (bk BK402) NB402_405.out (by simp)); replace HO409 := ak (Kd.R_mono (Kd.R_keep (IsS89.apart (show IsS89 w _ g405 t403 t413 from by repeat ((with_reducible exact HI405.out))) (rk HO409) (by decide)) hk (fun _ h => h.2)) (fun _ h => h.1)); replace BK411 := ak (KeepBut.blk hk (g' := gb411) (o := .cells #[.int .i64 t406, .slice Ao14 t407.length co14] 25 (0, 0)) (bk BK411) NB411_405.out (by simp)); replace HB := ak (hb); replace HI405 := ak (hi); (try clear hb); (try clear hb2); (try clear hk); (try clear hi)))
 replace HO409 := ak (Kd.R_drew HO409.out)
 replace BK402 := ak (blk_drew BK402.out)
 replace BK411 := ak (blk_drew BK411.out)
 replace HI405 := ak (IsS89.drew HI405.out)
 replace HB := ak (below_drew1 HB.out)
 refine start_ (n := 10) (S := fun w' => w'.cell? ⟨gb411, 0, none⟩ = some (.int .i64 t406) ∧ w'.cell? ⟨gb411, 1, none⟩ = some (.slice Ao14 t407.length co14)) (ds := []) (ms 10 0) (by kernel_rfl) rfl (by kernel_rfl) ⟨(blk_cell BK411.out 0).trans rfl, (blk_cell BK411.out 1).trans rfl⟩ (fun hHeld => ?_); refine with_tabW spec_DrawPairWith.tab5 spec_DrawPairWith.bits5 (fun HT_ HW_ => ?_)
 generalize w17.drew = w18 at HO409 BK402 BK411 HI405 HB hHeld ⊢
 refine pu 1 21 ?_ (ms 10 2) rfl rfl HT_ (by kernel_rfl) (fun _ _ _ h => h) (by rfl) ?_ ?_ ?_ ?_
 rotate_left
 ·intro w'
  go_simp
  with_reducible rfl
 rotate_left
 ·simp only [SX]
  rfl
 refine pu 2 22 ?_ (ms 10 6) rfl rfl HT_ (by kernel_rfl) (fun _ _ _ h => h) (by rfl) ?_ ?_ ?_ ?_
 rotate_left
 ·intro w'
  go_simp
  with_reducible rfl
 rotate_left
 ·simp only [SX]
  rfl
 refine pu 3 23 ?_ (ms 10 14) rfl rfl HT_ (by kernel_rfl) (fun _ _ _ h => h) (by rfl) ?_ ?_ ?_ ?_
 rotate_left
 ·intro w'
  go_simp
  with_reducible rfl
 rotate_left
 ·simp only [SX]
  rfl
 refine tk 0 20 ?_ (ms 10 15) rfl rfl HT_ HW_ (by kernel_rfl) (fun _ _ _ h => h) (by rfl) ?_ hHeld ?_ ?_ ?_
 rotate_left
 ·rintro w' ⟨s0, s1⟩
  go_simp
  with_reducible rfl
 rotate_left
 ·simp only [SX]
  rfl
 refine one_ (i := 4) (N := some 24) (ms 10 31) rfl rfl (one_of HT_.out (by kernel_rfl)) (by decide) (fun K hK => ?_)
 refine Kd.R_lit_step (Kd.int .i64) _ 3 ?hg (N := 24) ?hd (xs := ([0, 3, 8, 20, (-1)] : List Int)) (inner := [.int .i64 0, .int .i64 3, .int .i64 8, .int .i64 20, .int .i64 (-1)]) (ok := fun _ => True) (okp := fun _ => True) ?hr ?hp (fun _ hk => hk) trivial (Below.refl _ _) (Nat.le_refl _) (by simp) ?_; (case hd => rfl); (case hg => rfl); (case hr => (go_simp; done)); (case hp => exact (Reps.one (show Kd.M (Kd.int .i64) _ _ _ 0 [.int .i64 0] from rfl) (Reps.one (show Kd.M (Kd.int .i64) _ _ _ 3 [.int .i64 3] from rfl) (Reps.one (show Kd.M (Kd.int .i64) _ _ _ 8 [.int .i64 8] from rfl) (Reps.one (show Kd.M (Kd.int .i64) _ _ _ 20 [.int .i64 20] from rfl) (Reps.one (show Kd.M (Kd.int .i64) _ _ _ (-1) [.int .i64 (-1)] from rfl) (Reps.none _ _)))))))
 intro v417 w19 ho20 hb hg_ hnew_
 clear hg_ hnew_
 (rw [← Ny416.out] at ho20)
 replace HO409 := ak (Kd.R_below (rk HO409) hb)
 have HO418 := ak (Kd.R_lower ho20 (below_size (by repeat ((with_reducible exact HB.out)))))
 replace BK402 := ak (blk_below (bk BK402) hb)
 replace BK411 := ak (blk_below (bk BK411) hb)
 replace HB := ak (below_step (by repeat ((with_reducible exact HB.out))) hb)
 replace HI405 := ak (IsS89.below (by repeat ((with_reducible exact HI405.out))) hb)
 clear hb ho20
 obtain ⟨Ao21, co21, eo21⟩ := Kd.R_slice HO418.out
 (subst eo21)
 refine hK.out _ _ ⟨(blk_cell BK411.out 0).trans rfl, (blk_cell BK411.out 1).trans rfl⟩ (fun hHeld => ?_)
 clear hK K
 refine norm_ (a' := ?_) ?_ ?_
 rotate_left
 ·show Act.put _ (some 24) _ = _
  simp only [SX]
  rfl
 refine one_ (i := 5) (N := some 25) (ms 10 63) rfl rfl (one_of HT_.out (by kernel_rfl)) (by decide) (fun K hK => ?_)
 refine goes_ Try.func58 (by kernel_rfl) rfl #[.pointer (some ⟨g405, 0, none⟩), .slice Ao21 y416.length co21] (by rfl) rfl rfl (by (try simp only [List.map_toArray, List.map_cons, List.map_nil]); rfl) ?_
 with_reducible refine (spec_l30Rd_one.calls k g405 t403 t415 _ _ y416 t419 t420 w _ ?side1 ?side2 ?side3 ?side4 ?side5 A6.out).mono ?_
 (case side1 => repeat ((with_reducible exact HI405.out)))
 (case side2 => repeat ((with_reducible exact HB.out)))
 (case side3 => repeat (exact (Kd.R_reads' HO418.out).2.2))
 (case side4 => exact (Kd.R_reads' HO418.out).2.1)
 (case side5 => exact far_slice (IsS89.own_ne HI405.out HO418.out (by decide)))
 rintro e w22 ⟨rfl, hi, hb, hk⟩
 refine ⟨_, rfl, ?_⟩
 replace BK402 := ak (KeepBut.blk hk (g' := gb402) (o := .cells #[.int .i64 0, .slice none 0 0] 25 (0, 0)) (bk BK402) NB402_405.out (by simp))
 replace HO409 := ak (Kd.R_mono (Kd.R_keep (IsS89.apart (show IsS89 w _ g405 t403 t415 from by repeat ((with_reducible exact HI405.out))) (rk HO409) (by decide)) hk (fun _ h => h.2)) (fun _ h => h.1))
 replace BK411 := ak (KeepBut.blk hk (g' := gb411) (o := .cells #[.int .i64 t406, .slice Ao14 t407.length co14] 25 (0, 0)) (bk BK411) NB411_405.out (by simp))
 replace HO418 := ak (Kd.R_mono (Kd.R_keep (IsS89.apart (show IsS89 w _ g405 t403 t415 from by repeat ((with_reducible exact HI405.out))) (rk HO418) (by decide)) hk (fun _ h => h.2)) (fun _ h => h.1))
 replace HB := ak (hb)
 replace HI405 := ak (hi)
 (try clear hb)
 (try clear hb2)
 (try clear hk)
 (try clear hi)
 refine hK.out _ _ ⟨(blk_cell BK411.out 0).trans rfl, (blk_cell BK411.out 1).trans rfl⟩ (fun hHeld => ?_)
 clear hK K
 refine norm_ (a' := ?_) ?_ ?_
 rotate_left
 ·show Act.put _ (some 25) _ = _
  simp only [SX]
  rfl
 refine one_ (i := 6) (N := none) (ms 10 127) rfl rfl (one_of HT_.out (by kernel_rfl)) (by decide) (fun K hK => ?_)
 have hs23 : w22.cell? ⟨gb402, 0, none⟩ = some (.int .i64 0) := (blk_cell BK402.out 0).trans rfl
 have hfs23 := blk_frozen BK402.out 0
 have hns23_1 := NB411_402.out
 have hms23_1 := NB402_411.out
 have hs24 : w22.cell? ⟨gb402, 1, none⟩ = some (.slice none 0 0) := (blk_cell BK402.out 1).trans rfl
 have hfs24 := blk_frozen BK402.out 1
 have hns24_1 := NB411_402.out
 have hms24_1 := NB402_411.out
 refine skip_ (w1 := ?_) (by rfl) rfl ?_ ?_
 rotate_left
 ·go_simp
  rfl
 refine hK.out _ _ ⟨((cell_far (p := ⟨gb402, _, none⟩) NB411_402.out _).trans (((cell_far (p := ⟨gb402, _, none⟩) NB411_402.out _).trans (hHeld.1)))), ((cell_far (p := ⟨gb402, _, none⟩) NB411_402.out _).trans (((cell_far (p := ⟨gb402, _, none⟩) NB411_402.out _).trans (hHeld.2))))⟩ (fun hHeld => ?_)
 clear hK K
 refine pu 7 3 ?_ (ms 10 255) rfl rfl HT_ (by kernel_rfl) (fun _ _ _ h => h) (by rfl) ?_ ?_ ?_ ?_
 rotate_left
 ·intro w'
  go_simp
  with_reducible rfl
 rotate_left
 ·simp only [SX]
  rfl
 refine pu 8 4 ?_ (ms 10 511) rfl rfl HT_ (by kernel_rfl) (fun _ _ _ h => h) (by rfl) ?_ ?_ ?_ ?_
 rotate_left
 ·intro w'
  go_simp
  with_reducible rfl
 rotate_left
 ·simp only [SX]
  rfl
 refine pu 9 5 ?_ (ms 10 1023) rfl rfl HT_ (by kernel_rfl) (fun _ _ _ h => h) (by rfl) ?_ ?_ ?_ ?_
 rotate_left
 ·intro w'
  go_simp
  with_reducible rfl
 rotate_left
 ·simp only [SX]
  rfl
 refine done_ (done_of HT_.out (by kernel_rfl)) ?_
 try go_wp2
 refine bodyPost_ret (results_list (rs := [.cell 2 25, .tmp 3, .tmp 4, .tmp 5]) rfl (by simp) (.cell gb402 25 #[.int .i64 t406, .slice Ao14 t407.length co14] (0, 0) _ rfl (by refine blk_put (cs := #[.int .i64 t406, .slice none 0 0]) ?_ 1 _ rfl; refine blk_put (cs := #[.int .i64 0, .slice none 0 0]) ?_ 0 _ rfl; exact BK402.out) Try.underlying25 rfl (by kernel_rfl) (.tmp (.tmp (.tmp .nil))))) rfl ?_
 exact ⟨_, by rfl, by exact Kd.R_mono (Kd.R_far (p := ⟨gb402, 1, none⟩) (Kd.R_far (p := ⟨gb402, 0, none⟩) (Kd.R_types HO409.out BK402.out (by decide)) (fun _ hk => hk.2) (.int .i64 t406)) (fun _ hk => hk.2) (.slice Ao14 t407.length co14)) (fun _ hk => trivial), by repeat ((with_reducible first | exact HB.out | refine below_set ?_ GE402.out))⟩

end Go.Proofs.Ytddkaiegnohkcaa.F
