-- Printed by wip/px/px.py of this claim's repository (the kit's printer, extended there). Lean checks it.
import Derived.Test.YtgickejeakmenaaFKinds
import Derived.Test.YtgickejeakmenaaFspecl30Open
import Derived.Test.YtgickejeakmenaaFspecl30Rdone
import Derived.Test.YtgickejeakmenaaFspecl30AnyNet
import Derived.Test.YtgickejeakmenaaFspecl30Node
namespace Go.Proofs.Ytgickejeakmenaa.F
open Go.RowKit Go.Proofs.YtgickejeakmenaaW.PrintWords Go.Proofs.YtgickejeakmenaaW.PrintLast Go.Proofs.YtgickejeakmenaaW.PrintMore
attribute [local go_sem] max2_int min2_int max_two min_two max_three min_three max_four min_four   -- for this text's walks alone
set_option linter.unusedVariables false
set_option linter.unusedSimpArgs false

/-! ### spec_DrawLoadWalk: function 44 -/
def spec_DrawLoadWalk.f (k : Nat) (l0 : List Int) : Option (Int × (List (S41)) × Int × Int × Int) := (spec_l30Open.f l0).bind fun bt1248 => ((spec_l30AnyNet.f k bt1248.1 bt1248.2).bind fun bt1251 => ((spec_l30Node.f k bt1248.1 bt1251.2.2 bt1251.1 bt1251.2.1).bind fun bt1257 => ((spec_l30Node.f k bt1248.1 bt1257.2 bt1251.1 bt1251.2.1).bind fun bt1259 => ((spec_l30Rd_one.f k bt1248.1 bt1259.2 (([0, 2, 5, 9, 10] : List Int))).bind fun bt1264 => (some (bt1251.1, bt1251.2.1, bt1257.1, bt1259.1, bt1264.1))))))
theorem spec_DrawLoadWalk.mono : ∀ a0 k, LeO (spec_DrawLoadWalk.f k a0) (spec_DrawLoadWalk.f (k + 1) a0) := by
 intro a0 k
 unfold spec_DrawLoadWalk.f
 repeat' first | (with_reducible exact spec_l30AnyNet.mono _ _ _) | (with_reducible exact spec_l30Node.mono _ _ _ _ _) | (with_reducible exact spec_l30Rd_one.mono _ _ _ _) | (with_reducible exact LeO.refl _) | (with_reducible refine LeO.bind ?_ (fun _ => ?_))
def spec_DrawLoadWalk.T5 : Bool × List (List Nat × List Nat) := (true, [([], []), ([], []), ([], []), ([], []), ([], []), ([3, 4], [3, 4]), ([0, 5, 0], [0]), ([1, 6, 0, 1, 6], [1]), ([2, 7, 0, 1, 2, 6, 7], [2]), ([5, 8, 0, 1, 2, 3, 4, 5, 6, 7, 8], [5])])
def spec_DrawLoadWalk.B5 : List Nat := [0, 0, 0, 0, 0, 24, 57, 123, 255, 511]
theorem spec_DrawLoadWalk.tab5 : rtab .any (opsOf Try.f44 5) = spec_DrawLoadWalk.T5 := by kernel_rfl
theorem spec_DrawLoadWalk.bits5 : waitsOk spec_DrawLoadWalk.T5.2 spec_DrawLoadWalk.B5 = true := by kernel_rfl
set_option maxHeartbeats 8000000 in
set_option maxRecDepth 100000 in
theorem spec_DrawLoadWalk.calls (k : Nat) (A0 : Option Addr) (c0 : Nat) (l0 : List Int) (r1 : Int) (r2 : List (S41)) (r3 : Int) (r4 : Int) (r5 : Int) (w : World) (hr0 : Kd.C (Kd.int .u8) w A0 l0.length l0) (hc0 : l0.length ≤ c0) (h : spec_DrawLoadWalk.f k l0 = some (r1, r2, r3, r4, r5)) :
  Calls Try.prog 44 #[.slice A0 l0.length c0] w fun e w' => ∃ v1_ : Value, e = .returned (.tuple #[.agg #[.int .i64 r1, v1_], .int .i64 r3, .int .i64 r4, .int .i64 r5]) ∧ Kd.R k41 41 w' w.heap.size (fun _ => True) v1_ r2 ∧ Below w.heap.size w w' := by
 have hu25 := Try.underlying25
 have HR0 := Aside0.mk hr0
 have HC0 := Aside0.mk hc0
 clear hr0 hc0
 have HB := Aside0.mk (Below.refl w.heap.size w)
 have H : ((spec_l30Open.f l0).bind fun bt1248 => ((spec_l30AnyNet.f k bt1248.1 bt1248.2).bind fun bt1251 => ((spec_l30Node.f k bt1248.1 bt1251.2.2 bt1251.1 bt1251.2.1).bind fun bt1257 => ((spec_l30Node.f k bt1248.1 bt1257.2 bt1251.1 bt1251.2.1).bind fun bt1259 => ((spec_l30Rd_one.f k bt1248.1 bt1259.2 (([0, 2, 5, 9, 10] : List Int))).bind fun bt1264 => (some (bt1251.1, bt1251.2.1, bt1257.1, bt1259.1, bt1264.1))))))) = some (r1, r2, r3, r4, r5) := h
 clear h
 replace H := Option.bind_eq_some_iff.mp H
 obtain ⟨⟨t1248, t1249⟩, A20, H⟩ := H
 have A2 := Aside0.mk A20
 clear A20
 replace H := Option.bind_eq_some_iff.mp H
 obtain ⟨⟨t1251, t1252, t1255⟩, A30, H⟩ := H
 have A3 := Aside0.mk A30
 clear A30
 replace H := Option.bind_eq_some_iff.mp H
 obtain ⟨⟨t1257, t1258⟩, A40, H⟩ := H
 have A4 := Aside0.mk A40
 clear A40
 replace H := Option.bind_eq_some_iff.mp H
 obtain ⟨⟨t1259, t1260⟩, A50, H⟩ := H
 have A5 := Aside0.mk A50
 clear A50
 obtain ⟨y1261, hy1261⟩ : ∃ y_ : List Int, y_ = (([0, 2, 5, 9, 10] : List Int)) := ⟨_, rfl⟩
 replace H : ((spec_l30Rd_one.f k t1248 t1260 y1261).bind fun bt1264 => (some (t1251, t1252, t1257, t1259, bt1264.1))) = some (r1, r2, r3, r4, r5) := by (rw [hy1261]; with_reducible exact H)
 have Ny1261 := Aside0.mk hy1261
 clear hy1261
 replace H := Option.bind_eq_some_iff.mp H
 obtain ⟨⟨t1264, t1265⟩, A60, H⟩ := H
 have A6 := Aside0.mk A60
 clear A60
 simp only [Option.some.injEq, Prod.mk.injEq] at H
 obtain ⟨rfl, rfl, rfl, rfl, rfl⟩ := H
 go_enter Try.func44, Try.ntmps44
 try go_wp2_with (first | ((with_reducible refine gate_dst (N := 2) rfl ?_); refine box_event ?hg (N := 2) ?hd (cs := #[.int .i64 0, .slice none 0 0]) (t := 25) ?hr ?_; (case hd => rfl); (case hg => rfl); (case hr => (go_simp; done)); intro gb1247 hg w7 hbox hb; have BK1247 := Aside0.mk (hbox); have GW1247 := Aside0.mk ((by rw [hg]; exact (below_size (bl HB)) : w.heap.size ≤ gb1247)); have GE1247 := Aside0.mk ((by rw [hg]; exact (below_size (bl HB)) : w.heap.size ≤ gb1247)); replace HB := Aside0.mk (below_step (bl HB) hb); clear hb hbox hg) | ((with_reducible refine gate_callee (f := 49) rfl ?_); refine goesL_ (some 11) rfl rfl Try.func49 (by kernel_rfl) rfl #[.slice A0 l0.length c0] rfl (by (try simp only [List.map_toArray, List.map_cons, List.map_nil]); rfl) ?_; (with_reducible refine (spec_l30Open.calls _ _ l0 t1248 t1249 w _ ?side1 ?side2 ?side3 A2.out).mono ?_); (case side1 => repeat ((with_reducible exact HB.out))); (case side2 => exact HR0.out); (case side3 => exact HC0.out); rintro e w8 ⟨g1250, rfl, hi, hb, hb2⟩; refine ⟨_, rfl, ?_⟩; replace HB := Aside0.mk (hb); have HI1250 := Aside0.mk (hi); have NB1250_1247 := Aside0.mk (IsS99.ne_blk hi (blk_below (bk BK1247) hb2) (by decide)); have NB1247_1250 := Aside0.mk (Ne.symm (IsS99.ne_blk hi (blk_below (bk BK1247) hb2) (by decide))); replace BK1247 := Aside0.mk (blk_below (bk BK1247) hb2); (try clear hb); (try clear hb2); (try clear hk); (try clear hi)) | ((with_reducible refine gate_callee (f := 50) rfl ?_); refine goesL_ (some 13) rfl rfl Try.func50 (by kernel_rfl) rfl #[.pointer (some ⟨g1250, 0, none⟩)] rfl (by (try simp only [List.map_toArray, List.map_cons, List.map_nil]); rfl) ?_; (with_reducible refine (spec_l30AnyNet.calls k g1250 t1248 t1249 t1251 t1252 t1255 w _ ?side1 ?side2 A3.out).mono ?_); (case side1 => repeat ((with_reducible exact HI1250.out))); (case side2 => repeat ((with_reducible exact HB.out))); rintro e w9 ⟨v1253, rfl, ho0, hi, hb, hk⟩; refine ⟨_, rfl, ?_⟩; replace BK1247 := Aside0.mk (KeepBut.blk hk (g' := gb1247) (o := .cells #[.int .i64 0, .slice none 0 0] 25 (0, 0)) (bk BK1247) NB1247_1250.out (by simp)); have HO1254 := Aside0.mk (Kd.R_lower ho0 (below_size (by repeat ((with_reducible exact HB.out))))); replace HB := Aside0.mk (hb); replace HI1250 := Aside0.mk (hi); (try clear hb); (try clear hb2); (try clear hk); (try clear hi); (try clear ho0)) | ((with_reducible refine gate_dst (N := 7) rfl ?_); refine box_event ?hg (N := 7) ?hd (cs := #[.int .i64 0, .slice none 0 0]) (t := 25) ?hr ?_; (case hd => rfl); (case hg => rfl); (case hr => (go_simp; done)); intro gb1256 hg w10 hbox hb; replace HO1254 := Aside0.mk (Kd.R_below (rk HO1254) hb); have BK1256 := Aside0.mk (hbox); have GW1256 := Aside0.mk ((by rw [hg]; exact (below_size (by repeat ((with_reducible exact HB.out)))) : w.heap.size ≤ gb1256)); have GE1256 := Aside0.mk ((by rw [hg]; exact (below_size (by repeat ((with_reducible exact HB.out)))) : w.heap.size ≤ gb1256)); replace HB := Aside0.mk (below_step (by repeat ((with_reducible exact HB.out))) hb); have NB1247_1256 := Aside0.mk ((by rw [hg]; exact Nat.ne_of_lt (blk_lt (bk BK1247)) : gb1247 ≠ gb1256)); have NB1256_1247 := Aside0.mk ((by rw [hg]; exact Nat.ne_of_gt (blk_lt (bk BK1247)) : gb1256 ≠ gb1247)); replace BK1247 := Aside0.mk (blk_below (bk BK1247) hb); have NB1250_1256 := Aside0.mk ((by rw [hg]; exact Nat.ne_of_lt (IsS99.lt (show IsS99 w _ g1250 t1248 t1255 from by repeat ((with_reducible exact HI1250.out)))) : g1250 ≠ gb1256)); have NB1256_1250 := Aside0.mk ((by rw [hg]; exact Nat.ne_of_gt (IsS99.lt (show IsS99 w _ g1250 t1248 t1255 from by repeat ((with_reducible exact HI1250.out)))) : gb1256 ≠ g1250)); replace HI1250 := Aside0.mk (IsS99.below (by repeat ((with_reducible exact HI1250.out))) hb); clear hb hbox hg; have hnb11 := NB1256_1247.out; have hnc11 := NB1247_1256.out; have hnb12 := NB1256_1250.out; have hnc12 := NB1250_1256.out; have hcz13_0 := bc w10 BK1256 0 (.int .i64 0) rfl; have hcz13_1 := bc w10 BK1256 1 (.slice none 0 0) rfl; have hfz13_0 := fz BK1256 0; have hfz13_1 := fz BK1256 1; obtain ⟨Ao14, co14, eo14⟩ := Kd.R_slice HO1254.out; subst eo14) | ((with_reducible refine gate_callee (f := 71) rfl ?_); refine goesL_ (some 16) rfl rfl Try.func71 (by kernel_rfl) rfl #[.pointer (some ⟨g1250, 0, none⟩), .agg #[.int .i64 t1251, .slice Ao14 t1252.length co14]] rfl (by (try simp only [List.map_toArray, List.map_cons, List.map_nil]); rfl) ?_; (with_reducible refine (spec_l30Node.calls k g1250 t1248 t1255 t1251 _ _ t1252 t1257 t1258 w _ ?side1 ?side2 ?side3 ?side4 A4.out).mono ?_); (case side1 => repeat ((with_reducible first | exact HI1250.out | refine IsS99.far ?_ NB1250_1256.out _))); (case side2 => repeat ((with_reducible first | exact HB.out | refine below_set ?_ GE1256.out))); (case side3 => exact Kd.C_foot_own (IsS99.apart (show IsS99 w _ g1250 t1248 t1255 from by repeat ((with_reducible first | exact HI1250.out | refine IsS99.far ?_ NB1250_1256.out _))) (by (with_reducible repeat (fail)); exact (Kd.R_mono (Kd.R_far (p := ⟨gb1256, 1, none⟩) (Kd.R_far (p := ⟨gb1256, 0, none⟩) (Kd.R_types HO1254.out BK1256.out (by decide)) (fun _ hk => hk.2) (.int .i64 t1251)) (fun _ hk => hk.2) (.slice Ao14 t1252.length co14)) (fun _ h_ => h_.1))) (by decide)) (fun _ h_ => h_.2)); (case side4 => exact (Kd.R_reads' HO1254.out).2.1); rintro e w15 ⟨rfl, hi, hb, hk⟩; refine ⟨_, rfl, ?_⟩; replace BK1247 := Aside0.mk (KeepBut.blk hk (g' := gb1247) (o := .cells #[.int .i64 0, .slice none 0 0] 25 (0, 0)) (by (with_reducible repeat (fail)); refine blk_far ?_ NB1247_1256.out _; refine blk_far ?_ NB1247_1256.out _; (with_reducible repeat (fail)); exact BK1247.out) NB1247_1250.out (by simp)); replace HO1254 := Aside0.mk (Kd.R_mono (Kd.R_keep (IsS99.apart (show IsS99 w _ g1250 t1248 t1255 from by repeat ((with_reducible first | exact HI1250.out | refine IsS99.far ?_ NB1250_1256.out _))) (by (with_reducible repeat (fail)); exact (Kd.R_mono (Kd.R_far (p := ⟨gb1256, 1, none⟩) (Kd.R_far (p := ⟨gb1256, 0, none⟩) (Kd.R_types HO1254.out BK1256.out (by decide)) (fun _ hk => hk.2) (.int .i64 t1251)) (fun _ hk => hk.2) (.slice Ao14 t1252.length co14)) (fun _ h_ => h_.1))) (by decide)) hk (fun _ h => h.2)) (fun _ h => h.1)); replace BK1256 := Aside0.mk (KeepBut.blk hk (g' := gb1256) (o := .cells #[.int .i64 t1251, .slice Ao14 t1252.length co14] 25 (0, 0)) (by (with_reducible repeat (fail)); refine blk_put (cs := #[.int .i64 t1251, .slice none 0 0]) ?_ 1 _ rfl; refine blk_put (cs := #[.int .i64 0, .slice none 0 0]) ?_ 0 _ rfl; (with_reducible repeat (fail)); exact BK1256.out) NB1256_1250.out (by simp)); replace HB := Aside0.mk (hb); replace HI1250 := Aside0.mk (hi); (try clear hb); (try clear hb2); (try clear hk); (try clear hi); have hcz16_0 := bc w15 BK1256 0 (.int .i64 t1251) rfl; have hcz16_1 := bc w15 BK1256 1 (.slice Ao14 t1252.length co14) rfl; have hfz16_0 := fz BK1256 0; have hfz16_1 := fz BK1256 1) | ((with_reducible refine gate_callee (f := 71) rfl ?_); refine goesL_ (some 19) rfl rfl Try.func71 (by kernel_rfl) rfl #[.pointer (some ⟨g1250, 0, none⟩), .agg #[.int .i64 t1251, .slice Ao14 t1252.length co14]] rfl (by (try simp only [List.map_toArray, List.map_cons, List.map_nil]); rfl) ?_; (with_reducible refine (spec_l30Node.calls k g1250 t1248 t1258 t1251 _ _ t1252 t1259 t1260 w _ ?side1 ?side2 ?side3 ?side4 A5.out).mono ?_); (case side1 => repeat ((with_reducible exact HI1250.out))); (case side2 => repeat ((with_reducible exact HB.out))); (case side3 => exact Kd.C_foot_own (IsS99.apart (show IsS99 w _ g1250 t1248 t1258 from by repeat ((with_reducible exact HI1250.out))) (rk HO1254) (by decide)) (fun _ h_ => h_.2)); (case side4 => exact (Kd.R_reads' HO1254.out).2.1); rintro e w17 ⟨rfl, hi, hb, hk⟩; refine ⟨_, rfl, ?_⟩; replace BK1247 := Aside0.mk (KeepBut.blk hk (g' := gb1247) (o := .cells #[.int .i64 0, .slice none 0 0] 25 (0, 0)) (bk BK1247) NB1247_1250.out (by simp)); replace HO1254 := Aside0.mk (Kd.R_mono (Kd.R_keep (IsS99.apart (show IsS99 w _ g1250 t1248 t1258 from by repeat ((with_reducible exact HI1250.out))) (rk HO1254) (by decide)) hk (fun _ h => h.2)) (fun _ h => h.1)); replace BK1256 := Aside0.mk (KeepBut.blk hk (g' := gb1256) (o := .cells #[.int .i64 t1251, .slice Ao14 t1252.length co14] 25 (0, 0)) (bk BK1256) NB1256_1250.out (by simp)); replace HB := Aside0.mk (hb); replace HI1250 := Aside0.mk (hi); (try clear hb); (try clear hb2); (try clear hk); (try clear hi)))
 replace HO1254 := Aside0.mk (Kd.R_drew HO1254.out)
 replace BK1247 := Aside0.mk (blk_drew BK1247.out)
 replace BK1256 := Aside0.mk (blk_drew BK1256.out)
 replace HI1250 := Aside0.mk (IsS99.drew HI1250.out)
 replace HB := Aside0.mk (below_drew1 HB.out)
 refine start_ (n := 10) (S := fun w' => w'.cell? ⟨gb1256, 0, none⟩ = some (.int .i64 t1251) ∧ w'.cell? ⟨gb1256, 1, none⟩ = some (.slice Ao14 t1252.length co14)) (ds := []) (ms 10 0) (by kernel_rfl) rfl (by kernel_rfl) ⟨(blk_cell BK1256.out 0).trans rfl, (blk_cell BK1256.out 1).trans rfl⟩ (fun hHeld => ?_); refine with_tabW spec_DrawLoadWalk.tab5 spec_DrawLoadWalk.bits5 (fun HT_ HW_ => ?_)
 generalize w17.drew = w18 at HO1254 BK1247 BK1256 HI1250 HB hHeld ⊢
 refine pu 1 21 ?_ (ms 10 2) rfl rfl HT_ (by kernel_rfl) (fun _ _ _ h => h) (by rfl) ?_ ?_ ?_ ?_
 rotate_left
 ·intro w'
  go_simp
  with_reducible rfl
 rotate_left
 ·simp only [SX]
  rfl
 refine pu 2 22 ?_ (ms 10 6) rfl rfl HT_ (by kernel_rfl) (fun _ _ _ h => h) (by rfl) ?_ ?_ ?_ ?_
 rotate_left
 ·intro w'
  go_simp
  with_reducible rfl
 rotate_left
 ·simp only [SX]
  rfl
 refine pu 3 23 ?_ (ms 10 14) rfl rfl HT_ (by kernel_rfl) (fun _ _ _ h => h) (by rfl) ?_ ?_ ?_ ?_
 rotate_left
 ·intro w'
  go_simp
  with_reducible rfl
 rotate_left
 ·simp only [SX]
  rfl
 refine tk 0 20 ?_ (ms 10 15) rfl rfl HT_ HW_ (by kernel_rfl) (fun _ _ _ h => h) (by rfl) ?_ hHeld ?_ ?_ ?_
 rotate_left
 ·rintro w' ⟨s0, s1⟩
  go_simp
  with_reducible rfl
 rotate_left
 ·simp only [SX]
  rfl
 refine one_ (i := 4) (N := some 24) (ms 10 31) rfl rfl (one_of HT_.out (by kernel_rfl)) (by decide) (fun K hK => ?_)
 refine Kd.R_lit_step (Kd.int .i64) _ 3 ?hg (N := 24) ?hd (xs := ([0, 2, 5, 9, 10] : List Int)) (inner := [.int .i64 0, .int .i64 2, .int .i64 5, .int .i64 9, .int .i64 10]) (ok := fun _ => True) (okp := fun _ => True) ?hr ?hp (fun _ hk => hk) trivial (Below.refl _ _) (Nat.le_refl _) (by simp) ?_; (case hd => rfl); (case hg => rfl); (case hr => (go_simp; done)); (case hp => exact (Reps.one (show Kd.M (Kd.int .i64) _ _ _ 0 [.int .i64 0] from rfl) (Reps.one (show Kd.M (Kd.int .i64) _ _ _ 2 [.int .i64 2] from rfl) (Reps.one (show Kd.M (Kd.int .i64) _ _ _ 5 [.int .i64 5] from rfl) (Reps.one (show Kd.M (Kd.int .i64) _ _ _ 9 [.int .i64 9] from rfl) (Reps.one (show Kd.M (Kd.int .i64) _ _ _ 10 [.int .i64 10] from rfl) (Reps.none _ _)))))))
 intro v1262 w19 ho20 hb hg_ hnew_
 clear hg_ hnew_
 (rw [← Ny1261.out] at ho20)
 replace HO1254 := Aside0.mk (Kd.R_below (rk HO1254) hb)
 have HO1263 := Aside0.mk (Kd.R_lower ho20 (below_size (by repeat ((with_reducible exact HB.out)))))
 replace BK1247 := Aside0.mk (blk_below (bk BK1247) hb)
 replace BK1256 := Aside0.mk (blk_below (bk BK1256) hb)
 replace HB := Aside0.mk (below_step (by repeat ((with_reducible exact HB.out))) hb)
 replace HI1250 := Aside0.mk (IsS99.below (by repeat ((with_reducible exact HI1250.out))) hb)
 clear hb ho20
 obtain ⟨Ao21, co21, eo21⟩ := Kd.R_slice HO1263.out
 (subst eo21)
 refine hK.out _ _ ⟨(blk_cell BK1256.out 0).trans rfl, (blk_cell BK1256.out 1).trans rfl⟩ (fun hHeld => ?_)
 clear hK K
 refine norm_ (a' := ?_) ?_ ?_
 rotate_left
 ·show Act.put _ (some 24) _ = _
  simp only [SX]
  rfl
 refine one_ (i := 5) (N := some 25) (ms 10 63) rfl rfl (one_of HT_.out (by kernel_rfl)) (by decide) (fun K hK => ?_)
 refine goes_ Try.func96 (by kernel_rfl) rfl #[.pointer (some ⟨g1250, 0, none⟩), .slice Ao21 y1261.length co21] (by rfl) rfl rfl (by (try simp only [List.map_toArray, List.map_cons, List.map_nil]); rfl) ?_
 with_reducible refine (spec_l30Rd_one.calls k g1250 t1248 t1260 _ _ y1261 t1264 t1265 w _ ?side1 ?side2 ?side3 ?side4 ?side5 A6.out).mono ?_
 (case side1 => repeat ((with_reducible exact HI1250.out)))
 (case side2 => repeat ((with_reducible exact HB.out)))
 (case side3 => repeat (exact (Kd.R_reads' HO1263.out).2.2))
 (case side4 => exact (Kd.R_reads' HO1263.out).2.1)
 (case side5 => exact far_slice (IsS99.own_ne HI1250.out HO1263.out (by decide)))
 rintro e w22 ⟨rfl, hi, hb, hk⟩
 refine ⟨_, rfl, ?_⟩
 replace BK1247 := Aside0.mk (KeepBut.blk hk (g' := gb1247) (o := .cells #[.int .i64 0, .slice none 0 0] 25 (0, 0)) (bk BK1247) NB1247_1250.out (by simp))
 replace HO1254 := Aside0.mk (Kd.R_mono (Kd.R_keep (IsS99.apart (show IsS99 w _ g1250 t1248 t1260 from by repeat ((with_reducible exact HI1250.out))) (rk HO1254) (by decide)) hk (fun _ h => h.2)) (fun _ h => h.1))
 replace BK1256 := Aside0.mk (KeepBut.blk hk (g' := gb1256) (o := .cells #[.int .i64 t1251, .slice Ao14 t1252.length co14] 25 (0, 0)) (bk BK1256) NB1256_1250.out (by simp))
 replace HO1263 := Aside0.mk (Kd.R_mono (Kd.R_keep (IsS99.apart (show IsS99 w _ g1250 t1248 t1260 from by repeat ((with_reducible exact HI1250.out))) (rk HO1263) (by decide)) hk (fun _ h => h.2)) (fun _ h => h.1))
 replace HB := Aside0.mk (hb)
 replace HI1250 := Aside0.mk (hi)
 (try clear hb)
 (try clear hb2)
 (try clear hk)
 (try clear hi)
 refine hK.out _ _ ⟨(blk_cell BK1256.out 0).trans rfl, (blk_cell BK1256.out 1).trans rfl⟩ (fun hHeld => ?_)
 clear hK K
 refine norm_ (a' := ?_) ?_ ?_
 rotate_left
 ·show Act.put _ (some 25) _ = _
  simp only [SX]
  rfl
 refine one_ (i := 6) (N := none) (ms 10 127) rfl rfl (one_of HT_.out (by kernel_rfl)) (by decide) (fun K hK => ?_)
 have hs23 : w22.cell? ⟨gb1247, 0, none⟩ = some (.int .i64 0) := (blk_cell BK1247.out 0).trans rfl
 have hfs23 := blk_frozen BK1247.out 0
 have hns23_1 := NB1256_1247.out
 have hms23_1 := NB1247_1256.out
 have hs24 : w22.cell? ⟨gb1247, 1, none⟩ = some (.slice none 0 0) := (blk_cell BK1247.out 1).trans rfl
 have hfs24 := blk_frozen BK1247.out 1
 have hns24_1 := NB1256_1247.out
 have hms24_1 := NB1247_1256.out
 refine skip_ (w1 := ?_) (by rfl) rfl ?_ ?_
 rotate_left
 ·go_simp
  rfl
 refine hK.out _ _ ⟨((cell_far (p := ⟨gb1247, _, none⟩) NB1256_1247.out _).trans (((cell_far (p := ⟨gb1247, _, none⟩) NB1256_1247.out _).trans (hHeld.1)))), ((cell_far (p := ⟨gb1247, _, none⟩) NB1256_1247.out _).trans (((cell_far (p := ⟨gb1247, _, none⟩) NB1256_1247.out _).trans (hHeld.2))))⟩ (fun hHeld => ?_)
 clear hK K
 refine pu 7 3 ?_ (ms 10 255) rfl rfl HT_ (by kernel_rfl) (fun _ _ _ h => h) (by rfl) ?_ ?_ ?_ ?_
 rotate_left
 ·intro w'
  go_simp
  with_reducible rfl
 rotate_left
 ·simp only [SX]
  rfl
 refine pu 8 4 ?_ (ms 10 511) rfl rfl HT_ (by kernel_rfl) (fun _ _ _ h => h) (by rfl) ?_ ?_ ?_ ?_
 rotate_left
 ·intro w'
  go_simp
  with_reducible rfl
 rotate_left
 ·simp only [SX]
  rfl
 refine pu 9 5 ?_ (ms 10 1023) rfl rfl HT_ (by kernel_rfl) (fun _ _ _ h => h) (by rfl) ?_ ?_ ?_ ?_
 rotate_left
 ·intro w'
  go_simp
  with_reducible rfl
 rotate_left
 ·simp only [SX]
  rfl
 refine done_ (done_of HT_.out (by kernel_rfl)) ?_
 try go_wp2
 refine bodyPost_ret (results_list (rs := [.cell 2 25, .tmp 3, .tmp 4, .tmp 5]) rfl (by simp) (.cell gb1247 25 #[.int .i64 t1251, .slice Ao14 t1252.length co14] (0, 0) _ rfl (by (with_reducible repeat (fail)); refine blk_put (cs := #[.int .i64 t1251, .slice none 0 0]) ?_ 1 _ rfl; refine blk_put (cs := #[.int .i64 0, .slice none 0 0]) ?_ 0 _ rfl; (with_reducible repeat (fail)); exact BK1247.out) Try.underlying25 rfl (by kernel_rfl) (.tmp (.tmp (.tmp .nil))))) rfl ?_
 exact ⟨_, by rfl, by (with_reducible repeat (fail)); exact Kd.R_mono (Kd.R_far (p := ⟨gb1247, 1, none⟩) (Kd.R_far (p := ⟨gb1247, 0, none⟩) (Kd.R_types HO1254.out BK1247.out (by decide)) (fun _ hk => hk.2) (.int .i64 t1251)) (fun _ hk => hk.2) (.slice Ao14 t1252.length co14)) (fun _ hk => trivial), by repeat ((with_reducible first | exact HB.out | refine below_set ?_ GE1247.out))⟩

end Go.Proofs.Ytgickejeakmenaa.F
