-- Printed by wip/px/px.py of this claim's repository (the kit's printer, extended there). Lean checks it.
import Derived.Test.YtgickejeakmenaaFKinds
import Derived.Test.YtgickejeakmenaaFimplTourCost
import Derived.Test.YtgickejeakmenaaFwkNet
import Derived.Test.YtgickejeakmenaaFwkNet
import Derived.Test.YtgickejeakmenaaFimplTourNear
import Derived.Test.YtgickejeakmenaaFimplTourBest
import Derived.Test.YtgickejeakmenaaFspecDrawTourBest
import Derived.Test.YtgickejeakmenaaFspecTourBest
namespace Go.Proofs.Ytgickejeakmenaa.F
open Go.RowKit Go.Proofs.YtgickejeakmenaaW.PrintWords Go.Proofs.YtgickejeakmenaaW.PrintLast Go.Proofs.YtgickejeakmenaaW.PrintMore
attribute [local go_sem] max2_int min2_int max_two min_two max_three min_three max_four min_four   -- for this text's walks alone
set_option linter.unusedVariables false
set_option linter.unusedSimpArgs false

/-! ### laws_FnTourBest: function 12 -/
mutual
def laws_FnTourBest.j0 : Nat → List Int → List Int → Int → List Int → Int → Bool → Int → List (S41) → Option (Bool)
 | 0, _, _, _, _, _, _, _, _ => none
 | k + 1, x4, x5, x6, x7, x8, x43, x1282000, x1282001 => if x43 = true then (if x6 = x8 then ((laws_wkInts.f k x5 x7).bind fun t1291 => (some t1291)) else (some false)) else (if x6 = 99999 then (if (x5.length : Int) = 0 then ((impl_TourCost.f k x1282000 x1282001 x4).bind fun t1292 => (some (t1292 == 99999))) else (some false)) else (laws_FnTourBest.l0 k x4 x5 x6 0 x1282000 x1282001))
def laws_FnTourBest.l0 : Nat → List Int → List Int → Int → Int → Int → List (S41) → Option (Bool)
 | 0, _, _, _, _, _, _ => none
 | k + 1, x4, x5, x6, x9, x1282000, x1282001 => if x9 < (x4.length : Int) then (if 0 ≤ x9 then ((laws_wkIn.f k x5 (rd x4 x9)).bind fun t1294 => (if t1294 = true then (laws_FnTourBest.l0 k x4 x5 x6 (wrap64 (x9 + 1)) x1282000 x1282001) else (some false))) else (none)) else ((impl_TourNear.f k x1282000 x1282001 x4).bind fun t1295 => (if (x5.length : Int) = (x4.length : Int) then (if 0 < (x5.length : Int) then (if 0 < (x4.length : Int) then (if (rd x5 0) = (rd x4 0) then ((impl_TourCost.f k x1282000 x1282001 x5).bind fun t1300 => (if t1300 = x6 then ((impl_TourCost.f k x1282000 x1282001 x4).bind fun t1301 => (if t1301 ≥ x6 then (if (t1295.length : Int) = 0 then (some true) else ((impl_TourCost.f k x1282000 x1282001 t1295).bind fun t1302 => (some (decide (t1302 ≥ x6))))) else (some false))) else (some false))) else (some false)) else (none)) else (none)) else (some false)))
end
def laws_FnTourBest.f (k : Nat) (l0 : List Int) : Option (Bool) := if (l0.length : Int) > 1048576 then (some true) else ((spec_DrawTourBest.f k l0).bind fun bt1274 => ((impl_TourBest.f k bt1274.1 bt1274.2.1 bt1274.2.2).bind fun bt1282 => ((spec_TourBest.f k bt1274.1 bt1274.2.1 bt1274.2.2).bind fun bt1286 => (if bt1282.2 = bt1286.2 then ((laws_wkInts.f k bt1282.1 bt1286.1).bind fun t1290 => (if t1290 = true then (laws_FnTourBest.j0 k bt1274.2.2 bt1282.1 bt1282.2 bt1286.1 bt1286.2 (decide (bt1282.2 < 0)) bt1274.1 bt1274.2.1) else (laws_FnTourBest.j0 k bt1274.2.2 bt1282.1 bt1282.2 bt1286.1 bt1286.2 true bt1274.1 bt1274.2.1))) else (laws_FnTourBest.j0 k bt1274.2.2 bt1282.1 bt1282.2 bt1286.1 bt1286.2 true bt1274.1 bt1274.2.1)))))
theorem laws_FnTourBest.mono_l : ∀ k, (∀ y0 y1 y2 y3 y4 y5 y6 y7, LeO (laws_FnTourBest.j0 k y0 y1 y2 y3 y4 y5 y6 y7) (laws_FnTourBest.j0 (k + 1) y0 y1 y2 y3 y4 y5 y6 y7)) ∧ (∀ y0 y1 y2 y3 y4 y5, LeO (laws_FnTourBest.l0 k y0 y1 y2 y3 y4 y5) (laws_FnTourBest.l0 (k + 1) y0 y1 y2 y3 y4 y5))
 | 0 => ⟨fun _ _ _ _ _ _ _ _ r h => by simp [laws_FnTourBest.j0] at h, fun _ _ _ _ _ _ r h => by simp [laws_FnTourBest.l0] at h⟩
 | k + 1 => by
  obtain ⟨ih0, ih1⟩ := laws_FnTourBest.mono_l k
  refine ⟨?_, ?_⟩
  ·intro y0 y1 y2 y3 y4 y5 y6 y7
   unfold laws_FnTourBest.j0
   repeat' first | (with_reducible exact ih1 _ _ _ _ _ _) | (with_reducible exact impl_TourCost.mono _ _ _ _) | (with_reducible exact laws_wkInts.mono _ _ _) | (with_reducible exact LeO.refl _) | (with_reducible refine LeO.ite ?_ ?_) | (with_reducible refine LeO.bind ?_ (fun _ => ?_))
  ·intro y0 y1 y2 y3 y4 y5
   unfold laws_FnTourBest.l0
   repeat' first | (with_reducible exact ih1 _ _ _ _ _ _) | (with_reducible exact impl_TourCost.mono _ _ _ _) | (with_reducible exact impl_TourNear.mono _ _ _ _) | (with_reducible exact laws_wkIn.mono _ _ _) | (with_reducible exact LeO.refl _) | (with_reducible refine LeO.ite ?_ ?_) | (with_reducible refine LeO.bind ?_ (fun _ => ?_))
theorem laws_FnTourBest.mono : ∀ a0 k, LeO (laws_FnTourBest.f k a0) (laws_FnTourBest.f (k + 1) a0) := by
 intro a0 k
 obtain ⟨ih0, ih1⟩ := laws_FnTourBest.mono_l k
 unfold laws_FnTourBest.f
 repeat' first | (with_reducible exact ih0 _ _ _ _ _ _ _ _) | (with_reducible exact impl_TourBest.mono _ _ _ _) | (with_reducible exact laws_wkInts.mono _ _ _) | (with_reducible exact spec_DrawTourBest.mono _ _) | (with_reducible exact spec_TourBest.mono _ _ _ _) | (with_reducible exact LeO.refl _) | (with_reducible refine LeO.ite ?_ ?_) | (with_reducible refine LeO.bind ?_ (fun _ => ?_))
def laws_FnTourBest.T16 : Bool × List (List Nat × List Nat) := (true, [([], []), ([0], [0]), ([], []), ([2], [2]), ([1, 3], [1, 3]), ([4], [4]), ([5], [5]), ([6, 5], [5, 6]), ([7, 5], [5, 7]), ([5], [5]), ([9, 5], [5, 9]), ([10, 5], [5, 10]), ([8, 11, 5], [5, 8, 11]), ([5, 12], [5, 12]), ([13, 5], [13]), ([14], [14]), ([14], [14]), ([15, 16, 14, 14], [14, 15, 16]), ([14], [14]), ([17, 18, 14], [14, 17, 18]), ([14, 19], [14, 19]), ([20, 17], [20]), ([21], [21]), ([21], [21]), ([22, 23, 21, 21], [21, 22, 23]), ([21], [21]), ([24, 25, 21], [21, 24, 25]), ([21, 26], [21, 26]), ([27, 24], [27]), ([28], [28]), ([29, 28], [28, 29]), ([30, 28], [28, 30]), ([31, 28, 28], [28, 31]), ([32], [32]), ([32], [32]), ([33, 34, 32, 32], [32, 33, 34]), ([32], [32]), ([35, 36, 32], [32, 35, 36]), ([32, 37, 28], [28, 32, 37]), ([28, 38], [28, 38]), ([39, 35, 0, 1, 2, 3, 4, 5, 6, 7, 8, 9, 10, 11, 12, 13, 14, 15, 16, 17, 18, 19, 20, 21, 22, 23, 24, 25, 26, 27, 28, 29, 30, 31, 32, 33, 34, 35, 36, 37, 38, 39], [39])])
def laws_FnTourBest.B16 : List Nat := [0, 1, 0, 4, 15, 31, 63, 127, 255, 63, 575, 1599, 4095, 8191, 16383, 32767, 32767, 131071, 32767, 524287, 1048575, 2097151, 4194303, 4194303, 16777215, 4194303, 67108863, 134217727, 268435455, 536870911, 1073741823, 2147483647, 4294967295, 8589934591, 8589934591, 34359738367, 8589934591, 137438953471, 274877906943, 549755813887, 1099511627775]
theorem laws_FnTourBest.tab16 : rtab .any (opsOf Try.f12 16) = laws_FnTourBest.T16 := by kernel_rfl
theorem laws_FnTourBest.bits16 : waitsOk laws_FnTourBest.T16.2 laws_FnTourBest.B16 = true := by kernel_rfl
set_option maxHeartbeats 8000000 in
set_option maxRecDepth 100000 in
theorem laws_FnTourBest.calls (k : Nat) (A0 : Option Addr) (c0 : Nat) (l0 : List Int) (r : Bool) (w : World) (hr0 : Kd.C (Kd.int .u8) w A0 l0.length l0) (hc0 : l0.length ≤ c0) (h : laws_FnTourBest.f k l0 = some r) (hr_ : r = true) :
  Calls Try.prog 12 #[.slice A0 l0.length c0] w fun e w' => e = .returned (.bool r) ∧ Below w.heap.size w w' := by
 have hu25 := Try.underlying25
 have HR0 := ak hr0
 have HC0 := ak hc0
 clear hr0 hc0
 have HB := ak (Below.refl w.heap.size w)
 have H : (if (l0.length : Int) > 1048576 then (some true) else ((spec_DrawTourBest.f k l0).bind fun bt1274 => ((impl_TourBest.f k bt1274.1 bt1274.2.1 bt1274.2.2).bind fun bt1282 => ((spec_TourBest.f k bt1274.1 bt1274.2.1 bt1274.2.2).bind fun bt1286 => (if bt1282.2 = bt1286.2 then ((laws_wkInts.f k bt1282.1 bt1286.1).bind fun t1290 => (if t1290 = true then (laws_FnTourBest.j0 k bt1274.2.2 bt1282.1 bt1282.2 bt1286.1 bt1286.2 (decide (bt1282.2 < 0)) bt1274.1 bt1274.2.1) else (laws_FnTourBest.j0 k bt1274.2.2 bt1282.1 bt1282.2 bt1286.1 bt1286.2 true bt1274.1 bt1274.2.1))) else (laws_FnTourBest.j0 k bt1274.2.2 bt1282.1 bt1282.2 bt1286.1 bt1286.2 true bt1274.1 bt1274.2.1)))))) = some r := h
 clear h
 by_cases c2 : (l0.length : Int) > 1048576
 ·rw [if_pos c2] at H
  have c2b0 : decide (1048576 < (l0.length : Int)) = true := decide_eq_true c2
  have c2b1 : decide (1048576 < l0.length) = true := decide_eq_true (by omega)
  clear c2
  obtain rfl := Option.some.inj H
  go_enter Try.func12, Try.ntmps12
  go_wp2
  go_ret
  exact ⟨by rfl, bl HB⟩
 rw [if_neg c2] at H
 have c2b0 : decide (1048576 < (l0.length : Int)) = false := decide_eq_false c2
 have c2b1 : decide (1048576 < l0.length) = false := decide_eq_false (by omega)
 clear c2
 replace H := Option.bind_eq_some_iff.mp H
 obtain ⟨⟨t1274, t1275, t1278⟩, A30, H⟩ := H
 have A3 := ak A30
 clear A30
 replace H := Option.bind_eq_some_iff.mp H
 obtain ⟨⟨t1282, t1285⟩, A40, H⟩ := H
 have A4 := ak A40
 clear A40
 replace H := Option.bind_eq_some_iff.mp H
 obtain ⟨⟨t1286, t1289⟩, A50, H⟩ := H
 have A5 := ak A50
 clear A50
 have HC6 := ak H
 clear H
 go_enter Try.func12, Try.ntmps12
 go_upto_region 6 with (first | ((with_reducible refine gate_callee (f := 42) rfl ?_); refine goesL_ (some 16) rfl rfl Try.func42 (by kernel_rfl) rfl #[.slice A0 l0.length c0] rfl (by (try simp only [List.map_toArray, List.map_cons, List.map_nil]); rfl) ?_; (with_reducible refine (spec_DrawTourBest.calls k _ _ l0 t1274 t1275 t1278 _ ?side1 ?side2 A3.out).mono ?_); (case side1 => repeat (exact HR0.out)); (case side2 => exact HC0.out); rintro e w7 ⟨v1276, v1279, rfl, ho0, ho1, hb⟩; refine ⟨_, rfl, ?_⟩; have HO1277 := ak (Kd.R_lower ho0 (below_size (bl HB))); have HO1280 := ak (Kd.R_lower ho1 (below_size (bl HB))); replace HB := ak (below_step (bl HB) hb); (try clear hb); (try clear hb2); (try clear hk); (try clear hi); (try clear ho0); (try clear ho1)) | ((with_reducible refine gate_dst (N := 3) rfl ?_); refine box_event ?hg (N := 3) ?hd (cs := #[.int .i64 0, .slice none 0 0]) (t := 25) ?hr ?_; (case hd => rfl); (case hg => rfl); (case hr => (go_simp; done)); intro gb1281 hg w8 hbox hb; replace HO1277 := ak (Kd.R_below (rk HO1277) hb); replace HO1280 := ak (Kd.R_below (rk HO1280) hb); have BK1281 := ak (hbox); have GW1281 := ak ((by rw [hg]; exact (below_size (bl HB)) : w.heap.size ≤ gb1281)); have GE1281 := ak ((by rw [hg]; exact (below_size (bl HB)) : w.heap.size ≤ gb1281)); replace HB := ak (below_step (bl HB) hb); clear hb hbox hg; have hcz9_0 := bc w8 BK1281 0 (.int .i64 0) rfl; have hcz9_1 := bc w8 BK1281 1 (.slice none 0 0) rfl; have hfz9_0 := fz BK1281 0; have hfz9_1 := fz BK1281 1; obtain ⟨Ao10, co10, eo10⟩ := Kd.R_slice HO1277.out; subst eo10; obtain ⟨Ao11, co11, eo11⟩ := Kd.R_slice HO1280.out; subst eo11) | ((with_reducible refine gate_callee (f := 35) rfl ?_); refine goesL_ (some 22) rfl rfl Try.func35 (by kernel_rfl) rfl #[.agg #[.int .i64 t1274, .slice Ao10 t1275.length co10], .slice Ao11 t1278.length co11] rfl (by (try simp only [List.map_toArray, List.map_cons, List.map_nil]); rfl) ?_; (with_reducible refine (impl_TourBest.calls k t1274 _ _ t1275 _ _ t1278 t1282 t1285 _ ?side1 ?side2 ?side3 ?side4 A4.out).mono ?_); (case side1 => refine (Kd.R_reads' (e := 41) (base := w.heap.size) (ok := fun k_ => True) (n := t1275.length) (c := co10) ?_).2.2; exact (by exact (Kd.R_mono (Kd.R_far (p := ⟨gb1281, 1, none⟩) (Kd.R_far (p := ⟨gb1281, 0, none⟩) (Kd.R_types HO1277.out BK1281.out (by decide)) (fun _ hk => hk.2) (.int .i64 t1274)) (fun _ hk => hk.2) (.slice Ao10 t1275.length co10)) (fun _ h_ => h_.1)))); (case side2 => exact (Kd.R_reads' HO1277.out).2.1); (case side3 => refine (Kd.R_reads' (e := 3) (base := w.heap.size) (ok := fun k_ => True) (n := t1278.length) (c := co11) ?_).2.2; exact (by exact (Kd.R_mono (Kd.R_far (p := ⟨gb1281, 1, none⟩) (Kd.R_far (p := ⟨gb1281, 0, none⟩) (Kd.R_types HO1280.out BK1281.out (by decide)) (fun _ hk => hk.2) (.int .i64 t1274)) (fun _ hk => hk.2) (.slice Ao10 t1275.length co10)) (fun _ h_ => h_.1)))); (case side4 => exact (Kd.R_reads' HO1280.out).2.1); rintro e w12 ⟨v1283, rfl, ho0, hb⟩; refine ⟨_, rfl, ?_⟩; replace HO1277 := ak (Kd.R_below (by exact (Kd.R_mono (Kd.R_far (p := ⟨gb1281, 1, none⟩) (Kd.R_far (p := ⟨gb1281, 0, none⟩) (Kd.R_types HO1277.out BK1281.out (by decide)) (fun _ hk => hk.2) (.int .i64 t1274)) (fun _ hk => hk.2) (.slice Ao10 t1275.length co10)) (fun _ h_ => h_.1))) hb); have HO1284 := ak (Kd.R_lower (Kd.R_new' ho0 (Kd.R_lt (by exact (Kd.R_mono (Kd.R_far (p := ⟨gb1281, 1, none⟩) (Kd.R_far (p := ⟨gb1281, 0, none⟩) (Kd.R_types HO1280.out BK1281.out (by decide)) (fun _ hk => hk.2) (.int .i64 t1274)) (fun _ hk => hk.2) (.slice Ao10 t1275.length co10)) (fun _ h_ => h_.1))))) (below_size (bl1 HB GE1281))); replace HO1280 := ak (Kd.R_elder' (by exact (Kd.R_mono (Kd.R_far (p := ⟨gb1281, 1, none⟩) (Kd.R_far (p := ⟨gb1281, 0, none⟩) (Kd.R_types HO1280.out BK1281.out (by decide)) (fun _ hk => hk.2) (.int .i64 t1274)) (fun _ hk => hk.2) (.slice Ao10 t1275.length co10)) (fun _ h_ => h_.1))) (Kd.R_base ho0) hb); replace BK1281 := ak (blk_below (g := gb1281) (o := .cells #[.int .i64 t1274, .slice Ao10 t1275.length co10] 25 (0, 0)) (by refine blk_put (cs := #[.int .i64 t1274, .slice none 0 0]) ?_ 1 _ rfl; refine blk_put (cs := #[.int .i64 0, .slice none 0 0]) ?_ 0 _ rfl; exact BK1281.out) hb); replace HB := ak (below_step (bl1 HB GE1281) hb); (try clear hb); (try clear hb2); (try clear hk); (try clear hi); (try clear ho0); have hcz13_0 := bc w12 BK1281 0 (.int .i64 t1274) rfl; have hcz13_1 := bc w12 BK1281 1 (.slice Ao10 t1275.length co10) rfl; have hfz13_0 := fz BK1281 0; have hfz13_1 := fz BK1281 1) | ((with_reducible refine gate_callee (f := 43) rfl ?_); refine goesL_ (some 28) rfl rfl Try.func43 (by kernel_rfl) rfl #[.agg #[.int .i64 t1274, .slice Ao10 t1275.length co10], .slice Ao11 t1278.length co11] rfl (by (try simp only [List.map_toArray, List.map_cons, List.map_nil]); rfl) ?_; (with_reducible refine (spec_TourBest.calls k t1274 _ _ t1275 _ _ t1278 t1286 t1289 _ ?side1 ?side2 ?side3 ?side4 A5.out).mono ?_); (case side1 => repeat (exact (Kd.R_reads' HO1277.out).2.2)); (case side2 => exact (Kd.R_reads' HO1277.out).2.1); (case side3 => repeat (exact (Kd.R_reads' HO1280.out).2.2)); (case side4 => exact (Kd.R_reads' HO1280.out).2.1); rintro e w14 ⟨v1287, rfl, ho0, hb⟩; refine ⟨_, rfl, ?_⟩; have HO1288 := ak (Kd.V_lower (Kd.V_mono (ok' := fun k_ => some k_ ≠ (.slice Ao10 t1275.length co10 : Value).ownBlock ∧ some k_ ≠ (.slice Ao11 t1278.length co11 : Value).ownBlock ∧ some k_ ≠ (v1283 : Value).ownBlock ∧ k_ ≠ gb1281) ho0 (fun k_ hk_ => ⟨(Kd.fresh' (Kd.R_lt (rk HO1277)) k_ hk_), (Kd.fresh' (Kd.R_lt (rk HO1280)) k_ hk_), (Kd.fresh' (Kd.R_lt (rk HO1284)) k_ hk_), (Kd.freshB (bk BK1281) k_ hk_)⟩)) (below_size (bl1 HB GE1281))); replace HO1277 := ak (Kd.R_below (rk HO1277) hb); replace HO1280 := ak (Kd.R_below (rk HO1280) hb); replace HO1284 := ak (Kd.R_below (rk HO1284) hb); replace BK1281 := ak (blk_below (bk BK1281) hb); replace HB := ak (below_step (bl1 HB GE1281) hb); (try clear hb); (try clear hb2); (try clear hk); (try clear hi); (try clear ho0)))
 (try simp only [Act.put, List.setIfInBounds_toArray, List.set_cons_zero, List.set_cons_succ])
 go_cut [43] (fun v43 wc => ∃ (kq : Nat) (x43_5 : Bool), v43 = .bool x43_5 ∧ Aside0 (laws_FnTourBest.j0 kq t1278 t1282 t1285 t1286 t1289 x43_5 t1274 t1275 = some r) ∧ Aside0 (kq ≤ k) ∧ Aside0 (Kd.R (Kd.int .i64) 3 wc w.heap.size (fun k_ => some k_ ≠ (v1283 : Value).ownBlock) (.slice Ao11 t1278.length co11) t1278) ∧ Aside0 (Kd.R (Kd.int .i64) 3 wc w.heap.size (fun k_ => some k_ ≠ ((.slice Ao11 t1278.length co11) : Value).ownBlock) v1283 t1282) ∧ Aside0 (Kd.V (Kd.int .i64) 3 wc w.heap.size (fun k_ => some k_ ≠ ((.slice Ao11 t1278.length co11) : Value).ownBlock ∧ some k_ ≠ (v1283 : Value).ownBlock ∧ some k_ ≠ ((.slice Ao10 t1275.length co10) : Value).ownBlock ∧ k_ ≠ gb1281) v1287 t1286) ∧ Aside0 (Kd.R k41 41 wc w.heap.size (fun _ => True) (.slice Ao10 t1275.length co10) t1275) ∧ Aside0 (wc.heap[gb1281]? = some (.cells #[.int .i64 t1274, (.slice Ao10 t1275.length co10)] 25 (0, 0))) ∧ Aside0 (Below w.heap.size w wc))
 case first =>
  have H := HC6.out
  clear HC6
  by_cases c15 : t1285 = t1289
  rotate_left
  ·rw [if_neg c15] at H
   have c15b0 : (t1285 == t1289) = false := beq_eq_false_iff_ne.mpr c15
   have c15b1 : (t1285 != t1289) = true := bne_iff_ne.mpr c15
   (skip)
   have H' := ak H
   clear H
   go_wp2
   go_meet
   case rel => exact ⟨_, (true), (by rfl), H', ⟨by omega⟩, ⟨by exact Kd.R_mono HO1280.out (fun _ hk => hk.2)⟩, ⟨by exact Kd.R_mono HO1284.out (fun _ hk => hk.2)⟩, ⟨by exact Kd.V_mono HO1288.out (fun _ hk => ⟨hk.2.1, ⟨hk.2.2.1, ⟨hk.1, hk.2.2.2⟩⟩⟩)⟩, ⟨rk HO1277⟩, ⟨bk BK1281⟩, ⟨bl1 HB GE1281⟩⟩
  rw [if_pos c15] at H
  have c15b0 : (t1285 == t1289) = true := beq_iff_eq.mpr c15
  have c15b1 : (t1285 != t1289) = false := bne_eq_false_iff_eq.mpr c15
  clear c15
  (skip)
  replace H := Option.bind_eq_some_iff.mp H
  obtain ⟨t1290, A160, H⟩ := H
  have A16 := ak A160
  clear A160
  by_cases c17 : t1290 = true
  ·subst c17
   rw [if_pos rfl] at H
   have H' := ak H
   clear H
   obtain ⟨Ao18, co18, eo18⟩ := Kd.R_slice HO1284.out
   subst eo18
   obtain ⟨Ao19, co19, eo19⟩ := Kd.V_slice HO1288.out
   subst eo19
   go_wp2_with ((go_at_call 21; (with_reducible refine (laws_wkInts.calls k _ _ t1282 _ _ t1286 true _ ?side1 ?side2 ?side3 ?side4 A16.out).mono ?_); (case side1 => repeat (exact (Kd.R_reads' HO1284.out).2.2)); (case side2 => exact (Kd.R_reads' HO1284.out).2.1); (case side3 => repeat (exact (Kd.V_reads' HO1288.out).2.2)); (case side4 => exact (Kd.V_reads' HO1288.out).2.1); rintro e w' ⟨rfl, ⟨nd, rfl⟩⟩))
   go_meet
   case rel => exact ⟨_, (decide (t1285 < 0)), (by rfl), H', ⟨by omega⟩, ⟨by (with_reducible repeat (apply Kd.R_drewN)); exact Kd.R_mono HO1280.out (fun _ hk => hk.2)⟩, ⟨by (with_reducible repeat (apply Kd.R_drewN)); exact Kd.R_mono HO1284.out (fun _ hk => hk.2)⟩, ⟨by (with_reducible repeat (apply Kd.V_drewN)); exact Kd.V_mono HO1288.out (fun _ hk => ⟨hk.2.1, ⟨hk.2.2.1, ⟨hk.1, hk.2.2.2⟩⟩⟩)⟩, ⟨rk HO1277⟩, ⟨bk BK1281⟩, ⟨bl1 HB GE1281⟩⟩
  replace c17 := Bool.eq_false_iff.mpr c17
  subst c17
  rw [if_neg (show ¬ (false = true) by decide)] at H
  have H' := ak H
  clear H
  obtain ⟨Ao20, co20, eo20⟩ := Kd.R_slice HO1284.out
  subst eo20
  obtain ⟨Ao21, co21, eo21⟩ := Kd.V_slice HO1288.out
  subst eo21
  go_wp2_with ((go_at_call 21; (with_reducible refine (laws_wkInts.calls k _ _ t1282 _ _ t1286 false _ ?side1 ?side2 ?side3 ?side4 A16.out).mono ?_); (case side1 => repeat (exact (Kd.R_reads' HO1284.out).2.2)); (case side2 => exact (Kd.R_reads' HO1284.out).2.1); (case side3 => repeat (exact (Kd.V_reads' HO1288.out).2.2)); (case side4 => exact (Kd.V_reads' HO1288.out).2.1); rintro e w' ⟨rfl, ⟨nd, rfl⟩⟩))
  go_meet
  case rel => exact ⟨_, (true), (by rfl), H', ⟨by omega⟩, ⟨by (with_reducible repeat (apply Kd.R_drewN)); exact Kd.R_mono HO1280.out (fun _ hk => hk.2)⟩, ⟨by (with_reducible repeat (apply Kd.R_drewN)); exact Kd.R_mono HO1284.out (fun _ hk => hk.2)⟩, ⟨by (with_reducible repeat (apply Kd.V_drewN)); exact Kd.V_mono HO1288.out (fun _ hk => ⟨hk.2.1, ⟨hk.2.2.1, ⟨hk.1, hk.2.2.2⟩⟩⟩)⟩, ⟨rk HO1277⟩, ⟨bk BK1281⟩, ⟨bl1 HB GE1281⟩⟩
 clear HC6
 try clear c1
 try clear c2
 try clear c2b0
 try clear c2b1
 try clear p2
 try clear c3
 try clear c4
 try clear c12
 try clear c15
 try clear c15b0
 try clear c15b1
 try clear c17
 try clear hcz13_0
 try clear hcz13_1
 try clear hcz9_0
 try clear hcz9_1
 try clear hfz13_0
 try clear hfz13_1
 try clear hfz9_0
 try clear hfz9_1
 obtain ⟨kq, x43_5, rfl, HA, HJ5, HO_4, HO_5, HO_7, HO_1282001, BK1281, HB⟩ := hcut
 cases kq with
 | zero => exact absurd HA.out (by simp [laws_FnTourBest.j0])
 | succ kj5 =>
  have H := HA.out
  clear HA
  simp only [laws_FnTourBest.j0] at H
  by_cases c22 : x43_5 = true
  ·subst c22
   rw [if_pos rfl] at H
   by_cases c23 : t1285 = t1289
   rotate_left
   ·rw [if_neg c23] at H
    have c23b0 : (t1285 == t1289) = false := beq_eq_false_iff_ne.mpr c23
    have c23b1 : (t1285 != t1289) = true := bne_iff_ne.mpr c23
    exact absurd ((Option.some.inj H).trans hr_) Bool.false_ne_true
   rw [if_pos c23] at H
   have c23b0 : (t1285 == t1289) = true := beq_iff_eq.mpr c23
   have c23b1 : (t1285 != t1289) = false := bne_eq_false_iff_eq.mpr c23
   clear c23
   replace H := Option.bind_eq_some_iff.mp H
   obtain ⟨t1291, A240, H⟩ := H
   have A24 := ak A240
   clear A240
   obtain rfl := Option.some.inj H
   obtain ⟨Ao25, co25, eo25⟩ := Kd.R_slice HO_5.out
   subst eo25
   obtain ⟨Ao26, co26, eo26⟩ := Kd.V_slice HO_7.out
   subst eo26
   go_wp2_with ((go_at_call 21; (with_reducible refine (laws_wkInts.calls kj5 _ _ t1282 _ _ t1286 t1291 _ ?side1 ?side2 ?side3 ?side4 A24.out).mono ?_); (case side1 => repeat (exact (Kd.R_reads' HO_5.out).2.2)); (case side2 => exact (Kd.R_reads' HO_5.out).2.1); (case side3 => repeat (exact (Kd.V_reads' HO_7.out).2.2)); (case side4 => exact (Kd.V_reads' HO_7.out).2.1); rintro e w' ⟨rfl, ⟨nd, rfl⟩⟩))
   go_ret
   exact ⟨by (simp [*, errW_none, errW_some] <;> rfl), bl1 HB GE1281⟩
  replace c22 := Bool.eq_false_iff.mpr c22
  subst c22
  rw [if_neg (show ¬ (false = true) by decide)] at H
  by_cases c27 : t1285 = 99999
  ·rw [if_pos c27] at H
   have c27b0 : (t1285 == 99999) = true := beq_iff_eq.mpr c27
   have c27b1 : (t1285 != 99999) = false := bne_eq_false_iff_eq.mpr c27
   clear c27
   by_cases c28 : (t1282.length : Int) = 0
   rotate_left
   ·rw [if_neg c28] at H
    have c28b0 : ((t1282.length : Int) == 0) = false := beq_eq_false_iff_ne.mpr c28
    have c28b1 : ((t1282.length : Int) != 0) = true := bne_iff_ne.mpr c28
    have c28b2 : ¬ (t1282 = []) := fun h_ => c28 (by rw [h_]; rfl)
    exact absurd ((Option.some.inj H).trans hr_) Bool.false_ne_true
   rw [if_pos c28] at H
   have c28b0 : ((t1282.length : Int) == 0) = true := beq_iff_eq.mpr c28
   have c28b1 : ((t1282.length : Int) != 0) = false := bne_eq_false_iff_eq.mpr c28
   clear c28
   replace H := Option.bind_eq_some_iff.mp H
   obtain ⟨t1292, A290, H⟩ := H
   have A29 := ak A290
   clear A290
   obtain rfl := Option.some.inj H
   obtain ⟨Ao30, co30, eo30⟩ := Kd.R_slice HO_5.out
   subst eo30
   have hcz31_0 := bc wc BK1281 0 (.int .i64 t1274) rfl
   have hcz31_1 := bc wc BK1281 1 (.slice Ao10 t1275.length co10) rfl
   have hfz31_0 := fz BK1281 0
   have hfz31_1 := fz BK1281 1
   go_wp2_with ((go_at_call 16; (with_reducible refine (impl_TourCost.calls kj5 t1274 _ _ t1275 _ _ t1278 t1292 _ ?side1 ?side2 ?side3 ?side4 A29.out).mono ?_); (case side1 => repeat (exact (Kd.R_reads' HO_1282001.out).2.2)); (case side2 => exact (Kd.R_reads' HO_1282001.out).2.1); (case side3 => repeat (exact (Kd.R_reads' HO_4.out).2.2)); (case side4 => exact (Kd.R_reads' HO_4.out).2.1); rintro e w32 ⟨rfl, hb⟩; have n0_ := ak (Kd.R_below (rk HO_4) hb); have n1_ := ak (Kd.R_below (rk HO_5) hb); have n2_ := ak (Kd.V_below (by exact HO_7.out) hb); have n3_ := ak (Kd.R_below (rk HO_1282001) hb); have n4_ := ak (blk_below (bk BK1281) hb); have n5_ := ak (below_step (bl1 HB GE1281) hb); clear HO_4; clear HO_5; clear HO_7; clear HO_1282001; clear BK1281; clear HB; have HO_4 := n0_; have HO_5 := n1_; have HO_7 := n2_; have HO_1282001 := n3_; have BK1281 := n4_; have HB := n5_; clear n0_ n1_ n2_ n3_ n4_ n5_; (try clear hb); (try clear hb2); (try clear hk); (try clear hi)))
   go_ret
   exact ⟨by (simp [*, errW_none, errW_some] <;> rfl), bl1 HB GE1281⟩
  rw [if_neg c27] at H
  have c27b0 : (t1285 == 99999) = false := beq_eq_false_iff_ne.mpr c27
  have c27b1 : (t1285 != 99999) = true := bne_iff_ne.mpr c27
  have H' := ak H
  clear H
  go_wp2
  go_loopg [9] kj5 (fun kq v9 w' => ∃ (x9_2 : Int), v9 = .int .i64 x9_2 ∧ Aside0 (laws_FnTourBest.l0 kq t1278 t1282 t1285 x9_2 t1274 t1275 = some r) ∧ Aside0 (kq ≤ kj5) ∧ Aside0 (Kd.R (Kd.int .i64) 3 w' w.heap.size (fun k_ => some k_ ≠ (v1283 : Value).ownBlock) (.slice Ao11 t1278.length co11) t1278) ∧ Aside0 (Kd.R (Kd.int .i64) 3 w' w.heap.size (fun k_ => some k_ ≠ ((.slice Ao11 t1278.length co11) : Value).ownBlock) v1283 t1282) ∧ Aside0 (Kd.R k41 41 w' w.heap.size (fun _ => True) (.slice Ao10 t1275.length co10) t1275) ∧ Aside0 (w'.heap[gb1281]? = some (.cells #[.int .i64 t1274, (.slice Ao10 t1275.length co10)] 25 (0, 0))) ∧ Aside0 (Below w.heap.size w w'))
  case atStart => exact ⟨(0), (by rfl), H', ⟨Nat.le_refl _⟩, ⟨rk HO_4⟩, ⟨rk HO_5⟩, ⟨rk HO_1282001⟩, ⟨bk BK1281⟩, ⟨bl1 HB GE1281⟩⟩
  clear H'
  try clear c1
  try clear c2
  try clear c2b0
  try clear c2b1
  try clear p2
  try clear c3
  try clear c4
  try clear c12
  try clear c15
  try clear c15b0
  try clear c15b1
  try clear c17
  try clear c22
  try clear c23
  try clear c23b0
  try clear c23b1
  try clear c27
  try clear c27b0
  try clear c27b1
  try clear c28
  try clear c28b0
  try clear c28b1
  try clear c28b2
  try clear hcz13_0
  try clear hcz13_1
  try clear hcz31_0
  try clear hcz31_1
  try clear hcz9_0
  try clear hcz9_1
  try clear hfz13_0
  try clear hfz13_1
  try clear hfz31_0
  try clear hfz31_1
  try clear hfz9_0
  try clear hfz9_1
  try clear p2
  obtain ⟨x9_2, rfl, HA, HK2, HO_4, HO_5, HO_1282001, BK1281, HB⟩ := hrel
  cases gk with
  | zero => exact absurd HA.out (by simp [laws_FnTourBest.l0])
  | succ k2 =>
   have H := HA.out
   clear HA
   simp only [laws_FnTourBest.l0] at H
   by_cases c33 : x9_2 < (t1278.length : Int)
   ·rw [if_pos c33] at H
    have c33b0 : decide (x9_2 < (t1278.length : Int)) = true := decide_eq_true c33
    clear c33
    by_cases c34 : 0 ≤ x9_2
    rotate_left
    ·rw [if_neg c34] at H
     exact absurd H (by simp)
    rw [if_pos c34] at H
    have c34b0 : decide (0 ≤ x9_2) = true := decide_eq_true c34
    clear c34
    replace H := Option.bind_eq_some_iff.mp H
    obtain ⟨t1294, A350, H⟩ := H
    have A35 := ak A350
    clear A350
    by_cases c36 : t1294 = true
    rotate_left
    ·replace c36 := Bool.eq_false_iff.mpr c36
     subst c36
     rw [if_neg (show ¬ (false = true) by decide)] at H
     exact absurd ((Option.some.inj H).trans hr_) Bool.false_ne_true
    subst c36
    rw [if_pos rfl] at H
    have H' := ak H
    clear H
    have p1293 : 0 ≤ (x9_2 : Int) := oT (by (with_reducible assumption))
    have q1293 : x9_2 < (t1278.length : Int) := oT (by (with_reducible assumption))
    obtain ⟨ad1293, e1293, hx1293_0⟩ := Kd.at_int (Kd.R_reads' HO_4.out).2.2 x9_2 p1293 q1293
    cases e1293
    replace p1293 := eq_true p1293
    replace q1293 := eq_true q1293
    obtain ⟨Ao37, co37, eo37⟩ := Kd.R_slice HO_5.out
    subst eo37
    go_wp2_with (((with_reducible refine gate_callee (f := 25) rfl ?_); refine goesL_ (some 74) rfl rfl Try.func25 (by kernel_rfl) rfl #[.slice Ao37 t1282.length co37, .int .i64 (rd t1278 x9_2)] rfl (by (try simp only [List.map_toArray, List.map_cons, List.map_nil]); rfl) ?_; (with_reducible refine (laws_wkIn.calls k2 _ _ t1282 (rd t1278 x9_2) true _ ?side1 ?side2 A35.out).mono ?_); (case side1 => repeat (exact (Kd.R_reads' HO_5.out).2.2)); (case side2 => exact (Kd.R_reads' HO_5.out).2.1); rintro e w' ⟨rfl, ⟨nd, rfl⟩⟩; refine ⟨_, rfl, ?_⟩))
    go_roundg k2
    case measure => have := HJ5.out; have := HK2.out; omega
    case rel => exact ⟨(wrap64 (x9_2 + 1)), (by rfl), H', ⟨by have := HJ5.out; have := HK2.out; omega⟩, ⟨rk HO_4⟩, ⟨rk HO_5⟩, ⟨rk HO_1282001⟩, ⟨bk BK1281⟩, ⟨bl1 HB GE1281⟩⟩
   rw [if_neg c33] at H
   have c33b0 : decide (x9_2 < (t1278.length : Int)) = false := decide_eq_false c33
   clear c33
   replace H := Option.bind_eq_some_iff.mp H
   obtain ⟨t1295, A380, H⟩ := H
   have A38 := ak A380
   clear A380
   by_cases c39 : (t1282.length : Int) = (t1278.length : Int)
   rotate_left
   ·rw [if_neg c39] at H
    have c39b0 : ((t1282.length : Int) == (t1278.length : Int)) = false := beq_eq_false_iff_ne.mpr c39
    have c39b1 : ((t1282.length : Int) != (t1278.length : Int)) = true := bne_iff_ne.mpr c39
    have c39b2 : (t1282.length == t1278.length) = false := by (simp at c39 ⊢; omega)
    exact absurd ((Option.some.inj H).trans hr_) Bool.false_ne_true
   rw [if_pos c39] at H
   have c39b0 : ((t1282.length : Int) == (t1278.length : Int)) = true := beq_iff_eq.mpr c39
   have c39b1 : ((t1282.length : Int) != (t1278.length : Int)) = false := bne_eq_false_iff_eq.mpr c39
   have c39b2 : (t1282.length == t1278.length) = true := by (simp at c39 ⊢; omega)
   clear c39
   by_cases c40 : 0 < (t1282.length : Int)
   rotate_left
   ·rw [if_neg c40] at H
    exact absurd H (by simp)
   rw [if_pos c40] at H
   have c40b0 : decide (0 < (t1282.length : Int)) = true := decide_eq_true c40
   have c40b1 : decide (0 < t1282.length) = true := decide_eq_true (by omega)
   clear c40
   by_cases c41 : 0 < (t1278.length : Int)
   rotate_left
   ·rw [if_neg c41] at H
    exact absurd H (by simp)
   rw [if_pos c41] at H
   have c41b0 : decide (0 < (t1278.length : Int)) = true := decide_eq_true c41
   have c41b1 : decide (0 < t1278.length) = true := decide_eq_true (by omega)
   clear c41
   by_cases c42 : (rd t1282 0) = (rd t1278 0)
   rotate_left
   ·rw [if_neg c42] at H
    have c42b0 : ((rd t1282 0) == (rd t1278 0)) = false := beq_eq_false_iff_ne.mpr c42
    have c42b1 : ((rd t1282 0) != (rd t1278 0)) = true := bne_iff_ne.mpr c42
    exact absurd ((Option.some.inj H).trans hr_) Bool.false_ne_true
   rw [if_pos c42] at H
   have c42b0 : ((rd t1282 0) == (rd t1278 0)) = true := beq_iff_eq.mpr c42
   have c42b1 : ((rd t1282 0) != (rd t1278 0)) = false := bne_eq_false_iff_eq.mpr c42
   clear c42
   replace H := Option.bind_eq_some_iff.mp H
   obtain ⟨t1300, A430, H⟩ := H
   have A43 := ak A430
   clear A430
   by_cases c44 : t1300 = t1285
   rotate_left
   ·rw [if_neg c44] at H
    have c44b0 : (t1300 == t1285) = false := beq_eq_false_iff_ne.mpr c44
    have c44b1 : (t1300 != t1285) = true := bne_iff_ne.mpr c44
    exact absurd ((Option.some.inj H).trans hr_) Bool.false_ne_true
   rw [if_pos c44] at H
   have c44b0 : (t1300 == t1285) = true := beq_iff_eq.mpr c44
   have c44b1 : (t1300 != t1285) = false := bne_eq_false_iff_eq.mpr c44
   clear c44
   replace H := Option.bind_eq_some_iff.mp H
   obtain ⟨t1301, A450, H⟩ := H
   have A45 := ak A450
   clear A450
   by_cases c46 : t1301 ≥ t1285
   rotate_left
   ·rw [if_neg c46] at H
    have c46b0 : decide (t1285 ≤ t1301) = false := decide_eq_false c46
    clear c46
    exact absurd ((Option.some.inj H).trans hr_) Bool.false_ne_true
   rw [if_pos c46] at H
   have c46b0 : decide (t1285 ≤ t1301) = true := decide_eq_true c46
   clear c46
   by_cases c47 : (t1295.length : Int) = 0
   ·rw [if_pos c47] at H
    have c47b0 : ((t1295.length : Int) == 0) = true := beq_iff_eq.mpr c47
    have c47b1 : ((t1295.length : Int) != 0) = false := bne_eq_false_iff_eq.mpr c47
    clear c47
    obtain rfl := Option.some.inj H
    have hcz48_0 := bc wr BK1281 0 (.int .i64 t1274) rfl
    have hcz48_1 := bc wr BK1281 1 (.slice Ao10 t1275.length co10) rfl
    have hfz48_0 := fz BK1281 0
    have hfz48_1 := fz BK1281 1
    try go_wp2_with (((with_reducible refine gate_callee (f := 32) rfl ?_); refine goesL_ (some 78) rfl rfl Try.func32 (by kernel_rfl) rfl #[.agg #[.int .i64 t1274, .slice Ao10 t1275.length co10], .slice Ao11 t1278.length co11] rfl (by (try simp only [List.map_toArray, List.map_cons, List.map_nil]); rfl) ?_; (with_reducible refine (impl_TourNear.calls k2 t1274 _ _ t1275 _ _ t1278 t1295 _ ?side1 ?side2 ?side3 ?side4 A38.out).mono ?_); (case side1 => repeat (exact (Kd.R_reads' HO_1282001.out).2.2)); (case side2 => exact (Kd.R_reads' HO_1282001.out).2.1); (case side3 => repeat (exact (Kd.R_reads' HO_4.out).2.2)); (case side4 => exact (Kd.R_reads' HO_4.out).2.1); rintro e w49 ⟨v1296, rfl, ho0, hb⟩; refine ⟨_, rfl, ?_⟩; replace HO_1282001 := ak (Kd.R_below (rk HO_1282001) hb); have HO1297 := ak (Kd.R_lower (Kd.R_new' (Kd.R_new' ho0 (Kd.R_lt (rk HO_4))) (Kd.R_lt (rk HO_5))) (below_size (bl1 HB GE1281))); replace HO_4 := ak (Kd.R_elder' (rk HO_4) (Kd.R_base ho0) hb); replace HO_5 := ak (Kd.R_elder' (rk HO_5) (Kd.R_base ho0) hb); replace BK1281 := ak (blk_below (bk BK1281) hb); replace HB := ak (below_step (bl1 HB GE1281) hb); (try clear hb); (try clear hb2); (try clear hk); (try clear hi); (try clear ho0)))
    replace HO_4 := ak (Kd.R_drew HO_4.out)
    replace HO_5 := ak (Kd.R_drew HO_5.out)
    replace HO_1282001 := ak (Kd.R_drew HO_1282001.out)
    replace HO1297 := ak (Kd.R_drew HO1297.out)
    replace BK1281 := ak (blk_drew BK1281.out)
    replace HB := ak (below_drew1 HB.out)
    obtain ⟨Ao51, co51, eo51⟩ := Kd.R_slice HO_5.out
    (subst eo51)
    have p1298 : 0 ≤ (0 : Int) := (by omega)
    have q1298 : 0 < (t1282.length : Int) := oT (by (with_reducible assumption))
    obtain ⟨ad1298, e1298, hx1298_0⟩ := Kd.at_int (Kd.R_reads' HO_5.out).2.2 0 p1298 q1298
    cases e1298
    have qi1298 : (0 < t1282.length) = True := eq_true (by omega)
    (try rw [show ((0 : Int)).toNat = 0 from rfl] at hx1298_0)
    (try rw [Addr.add_zero'] at hx1298_0)
    replace p1298 := eq_true p1298
    replace q1298 := eq_true q1298
    have p1299 : 0 ≤ (0 : Int) := (by omega)
    have q1299 : 0 < (t1278.length : Int) := oT (by (with_reducible assumption))
    obtain ⟨ad1299, e1299, hx1299_0⟩ := Kd.at_int (Kd.R_reads' HO_4.out).2.2 0 p1299 q1299
    cases e1299
    have qi1299 : (0 < t1278.length) = True := eq_true (by omega)
    (try rw [show ((0 : Int)).toNat = 0 from rfl] at hx1299_0)
    (try rw [Addr.add_zero'] at hx1299_0)
    replace p1299 := eq_true p1299
    replace q1299 := eq_true q1299
    refine start_ (n := 41) (S := fun w' => w'.cell? ⟨gb1281, 0, none⟩ = some (.int .i64 t1274) ∧ w'.cell? ⟨gb1281, 1, none⟩ = some (.slice Ao10 t1275.length co10) ∧ w'.cell? ad1298 = some (.int .i64 (rd t1282 0)) ∧ w'.cell? ad1299 = some (.int .i64 (rd t1278 0))) (ds := []) (ms 41 0) (by kernel_rfl) rfl (by kernel_rfl) ⟨(blk_cell BK1281.out 0).trans rfl, (blk_cell BK1281.out 1).trans rfl, hx1298_0, hx1299_0⟩ (fun hHeld => ?_); refine with_tabW laws_FnTourBest.tab16 laws_FnTourBest.bits16 (fun HT_ HW_ => ?_)
    generalize w49.drew = w50 at HO_4 HO_5 HO_1282001 HO1297 BK1281 HB hx1298_0 hx1299_0 hHeld ⊢
    refine pu 0 79 ?_ (ms 41 1) rfl rfl HT_ (by kernel_rfl) (fun _ _ _ h => h) (by rfl) ?_ ?_ ?_ ?_
    rotate_left
    ·intro w'
     go_simp
     with_reducible rfl
    rotate_left
    ·simp only [SX]
     rfl
    refine pu 1 80 ?_ (ms 41 3) rfl rfl HT_ (by kernel_rfl) (fun _ _ _ h => h) (by rfl) ?_ ?_ ?_ ?_
    rotate_left
    ·intro w'
     go_simp
     with_reducible rfl
    rotate_left
    ·simp only [SX]
     rfl
    refine pu 2 81 ?_ (ms 41 7) rfl rfl HT_ (by kernel_rfl) (fun _ _ _ h => h) (by rfl) ?_ ?_ ?_ ?_
    rotate_left
    ·intro w'
     go_simp
     with_reducible rfl
    rotate_left
    ·simp only [SX]
     rfl
    refine pu 3 82 ?_ (ms 41 15) rfl rfl HT_ (by kernel_rfl) (fun _ _ _ h => h) (by rfl) ?_ ?_ ?_ ?_
    rotate_left
    ·intro w'
     go_simp
     with_reducible rfl
    rotate_left
    ·simp only [SX]
     rfl
    refine pu 4 83 ?_ (ms 41 31) rfl rfl HT_ (by kernel_rfl) (fun _ _ _ h => h) (by rfl) ?_ ?_ ?_ ?_
    rotate_left
    ·intro w'
     go_simp
     with_reducible rfl
    rotate_left
    ·simp only [SX]
     rfl
    refine pu 5 84 ?_ (ms 41 63) rfl rfl HT_ (by kernel_rfl) (fun _ _ _ h => h) (by rfl) ?_ ?_ ?_ ?_
    rotate_left
    ·intro w'
     go_simp
     with_reducible rfl
    rotate_left
    ·simp only [SX]
     rfl
    refine pu 6 85 ?_ (ms 41 127) rfl rfl HT_ (by kernel_rfl) (fun _ _ _ h => h) (by rfl) ?_ ?_ ?_ ?_
    rotate_left
    ·intro w'
     go_simp
     with_reducible rfl
    rotate_left
    ·simp only [SX]
     rfl
    refine pu 7 86 ?_ (ms 41 255) rfl rfl HT_ (by kernel_rfl) (fun _ _ _ h => h) (by rfl) ?_ ?_ ?_ ?_
    rotate_left
    ·intro w'
     go_simp
     with_reducible rfl
    rotate_left
    ·simp only [SX]
     rfl
    refine pu 9 88 ?_ (ms 41 767) rfl rfl HT_ (by kernel_rfl) (fun _ _ _ h => h) (by rfl) ?_ ?_ ?_ ?_
    rotate_left
    ·intro w'
     go_simp
     with_reducible rfl
    rotate_left
    ·simp only [SX]
     rfl
    refine pu 10 89 ?_ (ms 41 1791) rfl rfl HT_ (by kernel_rfl) (fun _ _ _ h => h) (by rfl) ?_ ?_ ?_ ?_
    rotate_left
    ·intro w'
     go_simp
     with_reducible rfl
    rotate_left
    ·simp only [SX]
     rfl
    refine tk 8 87 ?_ (ms 41 2047) rfl rfl HT_ HW_ (by kernel_rfl) (fun _ _ _ h => h) (by rfl) ?_ hHeld ?_ ?_ ?_
    rotate_left
    ·rintro w' ⟨s0, s1, s2, s3⟩
     go_simp
     with_reducible rfl
    rotate_left
    ·simp only [SX]
     rfl
    refine tk 11 90 ?_ (ms 41 4095) rfl rfl HT_ HW_ (by kernel_rfl) (fun _ _ _ h => h) (by rfl) ?_ hHeld ?_ ?_ ?_
    rotate_left
    ·rintro w' ⟨s0, s1, s2, s3⟩
     go_simp
     with_reducible rfl
    rotate_left
    ·simp only [SX]
     rfl
    refine pu 12 91 ?_ (ms 41 8191) rfl rfl HT_ (by kernel_rfl) (fun _ _ _ h => h) (by rfl) ?_ ?_ ?_ ?_
    rotate_left
    ·intro w'
     go_simp
     with_reducible rfl
    rotate_left
    ·simp only [SX]
     rfl
    refine pu 13 92 ?_ (ms 41 16383) rfl rfl HT_ (by kernel_rfl) (fun _ _ _ h => h) (by rfl) ?_ ?_ ?_ ?_
    rotate_left
    ·intro w'
     go_simp
     with_reducible rfl
    rotate_left
    ·simp only [SX]
     rfl
    refine pu 14 93 ?_ (ms 41 32767) rfl rfl HT_ (by kernel_rfl) (fun _ _ _ h => h) (by rfl) ?_ ?_ ?_ ?_
    rotate_left
    ·intro w'
     go_simp
     with_reducible rfl
    rotate_left
    ·simp only [SX]
     rfl
    refine pu 16 95 ?_ (ms 41 98303) rfl rfl HT_ (by kernel_rfl) (fun _ _ _ h => h) (by rfl) ?_ ?_ ?_ ?_
    rotate_left
    ·intro w'
     go_simp
     with_reducible rfl
    rotate_left
    ·simp only [SX]
     rfl
    refine pu 18 97 ?_ (ms 41 360447) rfl rfl HT_ (by kernel_rfl) (fun _ _ _ h => h) (by rfl) ?_ ?_ ?_ ?_
    rotate_left
    ·intro w'
     go_simp
     with_reducible rfl
    rotate_left
    ·simp only [SX]
     rfl
    refine tk 15 94 ?_ (ms 41 393215) rfl rfl HT_ HW_ (by kernel_rfl) (fun _ _ _ h => h) (by rfl) ?_ hHeld ?_ ?_ ?_
    rotate_left
    ·rintro w' ⟨s0, s1, s2, s3⟩
     go_simp
     with_reducible rfl
    rotate_left
    ·simp only [SX]
     rfl
    refine one_ (i := 17) (N := some 96) (ms 41 524287) rfl rfl (one_of HT_.out (by kernel_rfl)) (by decide) (fun K hK => ?_)
    refine goes_ Try.func16 (by kernel_rfl) rfl #[.agg #[.int .i64 t1274, .slice Ao10 t1275.length co10], .slice (some ad1298) t1282.length co51] (by rfl) rfl rfl (by (try simp only [List.map_toArray, List.map_cons, List.map_nil]); rfl) ?_
    with_reducible refine (impl_TourCost.calls k2 t1274 _ _ t1275 _ _ t1282 t1300 _ ?side1 ?side2 ?side3 ?side4 A43.out).mono ?_
    (case side1 => repeat (exact (Kd.R_reads' HO_1282001.out).2.2))
    (case side2 => exact (Kd.R_reads' HO_1282001.out).2.1)
    (case side3 => repeat (exact (Kd.R_reads' HO_5.out).2.2))
    (case side4 => exact (Kd.R_reads' HO_5.out).2.1)
    rintro e w52 ⟨rfl, hb⟩
    have HS2_ := (hb.cell (World.block_lt_of_cell? _ _ (hHeld.2.2.1))).trans (hHeld.2.2.1)
    have HS3_ := (hb.cell (World.block_lt_of_cell? _ _ (hHeld.2.2.2))).trans (hHeld.2.2.2)
    refine ⟨_, rfl, ?_⟩
    replace HO_4 := ak (Kd.R_below (rk HO_4) hb)
    replace HO_5 := ak (Kd.R_below (rk HO_5) hb)
    replace HO_1282001 := ak (Kd.R_below (rk HO_1282001) hb)
    replace HO1297 := ak (Kd.R_below (rk HO1297) hb)
    replace BK1281 := ak (blk_below (bk BK1281) hb)
    replace HB := ak (below_step (bl1 HB GE1281) hb)
    (try clear hb)
    (try clear hb2)
    (try clear hk)
    (try clear hi)
    refine hK.out _ _ ⟨(blk_cell BK1281.out 0).trans rfl, (blk_cell BK1281.out 1).trans rfl, HS2_, HS3_⟩ (fun hHeld => ?_)
    clear hK K
    refine norm_ (a' := ?_) ?_ ?_
    rotate_left
    ·show Act.put _ (some 96) _ = _
     simp only [SX]
     rfl
    refine pu 19 98 ?_ (ms 41 1048575) rfl rfl HT_ (by kernel_rfl) (fun _ _ _ h => h) (by rfl) ?_ ?_ ?_ ?_
    rotate_left
    ·intro w'
     go_simp
     with_reducible rfl
    rotate_left
    ·simp only [SX]
     rfl
    refine pu 20 99 ?_ (ms 41 2097151) rfl rfl HT_ (by kernel_rfl) (fun _ _ _ h => h) (by rfl) ?_ ?_ ?_ ?_
    rotate_left
    ·intro w'
     go_simp
     with_reducible rfl
    rotate_left
    ·simp only [SX]
     rfl
    refine pu 21 100 ?_ (ms 41 4194303) rfl rfl HT_ (by kernel_rfl) (fun _ _ _ h => h) (by rfl) ?_ ?_ ?_ ?_
    rotate_left
    ·intro w'
     go_simp
     with_reducible rfl
    rotate_left
    ·simp only [SX]
     rfl
    refine pu 23 102 ?_ (ms 41 12582911) rfl rfl HT_ (by kernel_rfl) (fun _ _ _ h => h) (by rfl) ?_ ?_ ?_ ?_
    rotate_left
    ·intro w'
     go_simp
     with_reducible rfl
    rotate_left
    ·simp only [SX]
     rfl
    refine pu 25 104 ?_ (ms 41 46137343) rfl rfl HT_ (by kernel_rfl) (fun _ _ _ h => h) (by rfl) ?_ ?_ ?_ ?_
    rotate_left
    ·intro w'
     go_simp
     with_reducible rfl
    rotate_left
    ·simp only [SX]
     rfl
    refine tk 22 101 ?_ (ms 41 50331647) rfl rfl HT_ HW_ (by kernel_rfl) (fun _ _ _ h => h) (by rfl) ?_ hHeld ?_ ?_ ?_
    rotate_left
    ·rintro w' ⟨s0, s1, s2, s3⟩
     go_simp
     with_reducible rfl
    rotate_left
    ·simp only [SX]
     rfl
    refine one_ (i := 24) (N := some 103) (ms 41 67108863) rfl rfl (one_of HT_.out (by kernel_rfl)) (by decide) (fun K hK => ?_)
    refine goes_ Try.func16 (by kernel_rfl) rfl #[.agg #[.int .i64 t1274, .slice Ao10 t1275.length co10], .slice (some ad1299) t1278.length co11] (by rfl) rfl rfl (by (try simp only [List.map_toArray, List.map_cons, List.map_nil]); rfl) ?_
    with_reducible refine (impl_TourCost.calls k2 t1274 _ _ t1275 _ _ t1278 t1301 _ ?side1 ?side2 ?side3 ?side4 A45.out).mono ?_
    (case side1 => repeat (exact (Kd.R_reads' HO_1282001.out).2.2))
    (case side2 => exact (Kd.R_reads' HO_1282001.out).2.1)
    (case side3 => repeat (exact (Kd.R_reads' HO_4.out).2.2))
    (case side4 => exact (Kd.R_reads' HO_4.out).2.1)
    rintro e w53 ⟨rfl, hb⟩
    have HS2_ := (hb.cell (World.block_lt_of_cell? _ _ (hHeld.2.2.1))).trans (hHeld.2.2.1)
    have HS3_ := (hb.cell (World.block_lt_of_cell? _ _ (hHeld.2.2.2))).trans (hHeld.2.2.2)
    refine ⟨_, rfl, ?_⟩
    replace HO_4 := ak (Kd.R_below (rk HO_4) hb)
    replace HO_5 := ak (Kd.R_below (rk HO_5) hb)
    replace HO_1282001 := ak (Kd.R_below (rk HO_1282001) hb)
    replace HO1297 := ak (Kd.R_below (rk HO1297) hb)
    replace BK1281 := ak (blk_below (bk BK1281) hb)
    replace HB := ak (below_step (bl1 HB GE1281) hb)
    (try clear hb)
    (try clear hb2)
    (try clear hk)
    (try clear hi)
    obtain ⟨Ao54, co54, eo54⟩ := Kd.R_slice HO1297.out
    (subst eo54)
    refine hK.out _ _ ⟨(blk_cell BK1281.out 0).trans rfl, (blk_cell BK1281.out 1).trans rfl, HS2_, HS3_⟩ (fun hHeld => ?_)
    clear hK K
    refine norm_ (a' := ?_) ?_ ?_
    rotate_left
    ·show Act.put _ (some 103) _ = _
     simp only [SX]
     rfl
    refine pu 26 105 ?_ (ms 41 134217727) rfl rfl HT_ (by kernel_rfl) (fun _ _ _ h => h) (by rfl) ?_ ?_ ?_ ?_
    rotate_left
    ·intro w'
     go_simp
     with_reducible rfl
    rotate_left
    ·simp only [SX]
     rfl
    refine pu 27 106 ?_ (ms 41 268435455) rfl rfl HT_ (by kernel_rfl) (fun _ _ _ h => h) (by rfl) ?_ ?_ ?_ ?_
    rotate_left
    ·intro w'
     go_simp
     with_reducible rfl
    rotate_left
    ·simp only [SX]
     rfl
    refine pu 28 107 ?_ (ms 41 536870911) rfl rfl HT_ (by kernel_rfl) (fun _ _ _ h => h) (by rfl) ?_ ?_ ?_ ?_
    rotate_left
    ·intro w'
     go_simp
     with_reducible rfl
    rotate_left
    ·simp only [SX]
     rfl
    refine pu 29 108 ?_ (ms 41 1073741823) rfl rfl HT_ (by kernel_rfl) (fun _ _ _ h => h) (by rfl) ?_ ?_ ?_ ?_
    rotate_left
    ·intro w'
     go_simp
     with_reducible rfl
    rotate_left
    ·simp only [SX]
     rfl
    refine pu 30 109 ?_ (ms 41 2147483647) rfl rfl HT_ (by kernel_rfl) (fun _ _ _ h => h) (by rfl) ?_ ?_ ?_ ?_
    rotate_left
    ·intro w'
     go_simp
     with_reducible rfl
    rotate_left
    ·simp only [SX]
     rfl
    refine pu 31 110 ?_ (ms 41 4294967295) rfl rfl HT_ (by kernel_rfl) (fun _ _ _ h => h) (by rfl) ?_ ?_ ?_ ?_
    rotate_left
    ·intro w'
     go_simp
     with_reducible rfl
    rotate_left
    ·simp only [SX]
     rfl
    refine pu 32 111 ?_ (ms 41 8589934591) rfl rfl HT_ (by kernel_rfl) (fun _ _ _ h => h) (by rfl) ?_ ?_ ?_ ?_
    rotate_left
    ·intro w'
     go_simp
     with_reducible rfl
    rotate_left
    ·simp only [SX]
     rfl
    refine pure_ (i := 33) (N := some 112) (v := undef) (a' := ?_) (ms 41 17179869183) rfl rfl (any_of HT_.out (by kernel_rfl)) (fun _ _ _ h => h) (Or.inr ⟨by rfl, rfl⟩) ?_ ?_
    rotate_left
    ·simp only [SX]
     rfl
    refine pure_ (i := 34) (N := some 113) (v := undef) (a' := ?_) (ms 41 34359738367) rfl rfl (any_of HT_.out (by kernel_rfl)) (fun _ _ _ h => h) (Or.inr ⟨by rfl, rfl⟩) ?_ ?_
    rotate_left
    ·simp only [SX]
     rfl
    refine pure_ (i := 35) (N := some 114) (v := undef) (a' := ?_) (ms 41 68719476735) rfl rfl (any_of HT_.out (by kernel_rfl)) (fun _ _ _ h => h) (Or.inr ⟨by rfl, rfl⟩) ?_ ?_
    rotate_left
    ·simp only [SX]
     rfl
    refine pure_ (i := 36) (N := some 115) (v := undef) (a' := ?_) (ms 41 137438953471) rfl rfl (any_of HT_.out (by kernel_rfl)) (fun _ _ _ h => h) (Or.inr ⟨by rfl, rfl⟩) ?_ ?_
    rotate_left
    ·simp only [SX]
     rfl
    refine pure_ (i := 37) (N := some 116) (v := undef) (a' := ?_) (ms 41 274877906943) rfl rfl (any_of HT_.out (by kernel_rfl)) (fun _ _ _ h => h) (Or.inr ⟨by rfl, rfl⟩) ?_ ?_
    rotate_left
    ·simp only [SX]
     rfl
    refine pu 38 117 ?_ (ms 41 549755813887) rfl rfl HT_ (by kernel_rfl) (fun _ _ _ h => h) (by rfl) ?_ ?_ ?_ ?_
    rotate_left
    ·intro w'
     go_simp
     with_reducible rfl
    rotate_left
    ·simp only [SX]
     rfl
    refine pu 39 118 ?_ (ms 41 1099511627775) rfl rfl HT_ (by kernel_rfl) (fun _ _ _ h => h) (by rfl) ?_ ?_ ?_ ?_
    rotate_left
    ·intro w'
     go_simp
     with_reducible rfl
    rotate_left
    ·simp only [SX]
     rfl
    refine pu 40 2 ?_ (ms 41 2199023255551) rfl rfl HT_ (by kernel_rfl) (fun _ _ _ h => h) (by rfl) ?_ ?_ ?_ ?_
    rotate_left
    ·intro w'
     go_simp
     with_reducible rfl
    rotate_left
    ·simp only [SX]
     rfl
    refine done_ (done_of HT_.out (by kernel_rfl)) ?_
    try go_wp2
    go_ret
    exact ⟨by rfl, bl1 HB GE1281⟩
   rw [if_neg c47] at H
   have c47b0 : ((t1295.length : Int) == 0) = false := beq_eq_false_iff_ne.mpr c47
   have c47b1 : ((t1295.length : Int) != 0) = true := bne_iff_ne.mpr c47
   have c47b2 : ¬ (t1295 = []) := fun h_ => c47 (by rw [h_]; rfl)
   replace H := Option.bind_eq_some_iff.mp H
   obtain ⟨t1302, A550, H⟩ := H
   have A55 := ak A550
   clear A550
   obtain rfl := Option.some.inj H
   have hcz56_0 := bc wr BK1281 0 (.int .i64 t1274) rfl
   have hcz56_1 := bc wr BK1281 1 (.slice Ao10 t1275.length co10) rfl
   have hfz56_0 := fz BK1281 0
   have hfz56_1 := fz BK1281 1
   try go_wp2_with (((with_reducible refine gate_callee (f := 32) rfl ?_); refine goesL_ (some 78) rfl rfl Try.func32 (by kernel_rfl) rfl #[.agg #[.int .i64 t1274, .slice Ao10 t1275.length co10], .slice Ao11 t1278.length co11] rfl (by (try simp only [List.map_toArray, List.map_cons, List.map_nil]); rfl) ?_; (with_reducible refine (impl_TourNear.calls k2 t1274 _ _ t1275 _ _ t1278 t1295 _ ?side1 ?side2 ?side3 ?side4 A38.out).mono ?_); (case side1 => repeat (exact (Kd.R_reads' HO_1282001.out).2.2)); (case side2 => exact (Kd.R_reads' HO_1282001.out).2.1); (case side3 => repeat (exact (Kd.R_reads' HO_4.out).2.2)); (case side4 => exact (Kd.R_reads' HO_4.out).2.1); rintro e w57 ⟨v1296, rfl, ho0, hb⟩; refine ⟨_, rfl, ?_⟩; replace HO_1282001 := ak (Kd.R_below (rk HO_1282001) hb); have HO1297 := ak (Kd.R_lower (Kd.R_new' (Kd.R_new' ho0 (Kd.R_lt (rk HO_4))) (Kd.R_lt (rk HO_5))) (below_size (bl1 HB GE1281))); replace HO_4 := ak (Kd.R_elder' (rk HO_4) (Kd.R_base ho0) hb); replace HO_5 := ak (Kd.R_elder' (rk HO_5) (Kd.R_base ho0) hb); replace BK1281 := ak (blk_below (bk BK1281) hb); replace HB := ak (below_step (bl1 HB GE1281) hb); (try clear hb); (try clear hb2); (try clear hk); (try clear hi); (try clear ho0)))
   replace HO_4 := ak (Kd.R_drew HO_4.out)
   replace HO_5 := ak (Kd.R_drew HO_5.out)
   replace HO_1282001 := ak (Kd.R_drew HO_1282001.out)
   replace HO1297 := ak (Kd.R_drew HO1297.out)
   replace BK1281 := ak (blk_drew BK1281.out)
   replace HB := ak (below_drew1 HB.out)
   obtain ⟨Ao59, co59, eo59⟩ := Kd.R_slice HO_5.out
   (subst eo59)
   have p1298 : 0 ≤ (0 : Int) := (by omega)
   have q1298 : 0 < (t1282.length : Int) := oT (by (with_reducible assumption))
   obtain ⟨ad1298, e1298, hx1298_0⟩ := Kd.at_int (Kd.R_reads' HO_5.out).2.2 0 p1298 q1298
   cases e1298
   have qi1298 : (0 < t1282.length) = True := eq_true (by omega)
   (try rw [show ((0 : Int)).toNat = 0 from rfl] at hx1298_0)
   (try rw [Addr.add_zero'] at hx1298_0)
   replace p1298 := eq_true p1298
   replace q1298 := eq_true q1298
   have p1299 : 0 ≤ (0 : Int) := (by omega)
   have q1299 : 0 < (t1278.length : Int) := oT (by (with_reducible assumption))
   obtain ⟨ad1299, e1299, hx1299_0⟩ := Kd.at_int (Kd.R_reads' HO_4.out).2.2 0 p1299 q1299
   cases e1299
   have qi1299 : (0 < t1278.length) = True := eq_true (by omega)
   (try rw [show ((0 : Int)).toNat = 0 from rfl] at hx1299_0)
   (try rw [Addr.add_zero'] at hx1299_0)
   replace p1299 := eq_true p1299
   replace q1299 := eq_true q1299
   refine start_ (n := 41) (S := fun w' => w'.cell? ⟨gb1281, 0, none⟩ = some (.int .i64 t1274) ∧ w'.cell? ⟨gb1281, 1, none⟩ = some (.slice Ao10 t1275.length co10) ∧ w'.cell? ad1298 = some (.int .i64 (rd t1282 0)) ∧ w'.cell? ad1299 = some (.int .i64 (rd t1278 0))) (ds := []) (ms 41 0) (by kernel_rfl) rfl (by kernel_rfl) ⟨(blk_cell BK1281.out 0).trans rfl, (blk_cell BK1281.out 1).trans rfl, hx1298_0, hx1299_0⟩ (fun hHeld => ?_); refine with_tabW laws_FnTourBest.tab16 laws_FnTourBest.bits16 (fun HT_ HW_ => ?_)
   generalize w57.drew = w58 at HO_4 HO_5 HO_1282001 HO1297 BK1281 HB hx1298_0 hx1299_0 hHeld ⊢
   refine pu 0 79 ?_ (ms 41 1) rfl rfl HT_ (by kernel_rfl) (fun _ _ _ h => h) (by rfl) ?_ ?_ ?_ ?_
   rotate_left
   ·intro w'
    go_simp
    with_reducible rfl
   rotate_left
   ·simp only [SX]
    rfl
   refine pu 1 80 ?_ (ms 41 3) rfl rfl HT_ (by kernel_rfl) (fun _ _ _ h => h) (by rfl) ?_ ?_ ?_ ?_
   rotate_left
   ·intro w'
    go_simp
    with_reducible rfl
   rotate_left
   ·simp only [SX]
    rfl
   refine pu 2 81 ?_ (ms 41 7) rfl rfl HT_ (by kernel_rfl) (fun _ _ _ h => h) (by rfl) ?_ ?_ ?_ ?_
   rotate_left
   ·intro w'
    go_simp
    with_reducible rfl
   rotate_left
   ·simp only [SX]
    rfl
   refine pu 3 82 ?_ (ms 41 15) rfl rfl HT_ (by kernel_rfl) (fun _ _ _ h => h) (by rfl) ?_ ?_ ?_ ?_
   rotate_left
   ·intro w'
    go_simp
    with_reducible rfl
   rotate_left
   ·simp only [SX]
    rfl
   refine pu 4 83 ?_ (ms 41 31) rfl rfl HT_ (by kernel_rfl) (fun _ _ _ h => h) (by rfl) ?_ ?_ ?_ ?_
   rotate_left
   ·intro w'
    go_simp
    with_reducible rfl
   rotate_left
   ·simp only [SX]
    rfl
   refine pu 5 84 ?_ (ms 41 63) rfl rfl HT_ (by kernel_rfl) (fun _ _ _ h => h) (by rfl) ?_ ?_ ?_ ?_
   rotate_left
   ·intro w'
    go_simp
    with_reducible rfl
   rotate_left
   ·simp only [SX]
    rfl
   refine pu 6 85 ?_ (ms 41 127) rfl rfl HT_ (by kernel_rfl) (fun _ _ _ h => h) (by rfl) ?_ ?_ ?_ ?_
   rotate_left
   ·intro w'
    go_simp
    with_reducible rfl
   rotate_left
   ·simp only [SX]
    rfl
   refine pu 7 86 ?_ (ms 41 255) rfl rfl HT_ (by kernel_rfl) (fun _ _ _ h => h) (by rfl) ?_ ?_ ?_ ?_
   rotate_left
   ·intro w'
    go_simp
    with_reducible rfl
   rotate_left
   ·simp only [SX]
    rfl
   refine pu 9 88 ?_ (ms 41 767) rfl rfl HT_ (by kernel_rfl) (fun _ _ _ h => h) (by rfl) ?_ ?_ ?_ ?_
   rotate_left
   ·intro w'
    go_simp
    with_reducible rfl
   rotate_left
   ·simp only [SX]
    rfl
   refine pu 10 89 ?_ (ms 41 1791) rfl rfl HT_ (by kernel_rfl) (fun _ _ _ h => h) (by rfl) ?_ ?_ ?_ ?_
   rotate_left
   ·intro w'
    go_simp
    with_reducible rfl
   rotate_left
   ·simp only [SX]
    rfl
   refine tk 8 87 ?_ (ms 41 2047) rfl rfl HT_ HW_ (by kernel_rfl) (fun _ _ _ h => h) (by rfl) ?_ hHeld ?_ ?_ ?_
   rotate_left
   ·rintro w' ⟨s0, s1, s2, s3⟩
    go_simp
    with_reducible rfl
   rotate_left
   ·simp only [SX]
    rfl
   refine tk 11 90 ?_ (ms 41 4095) rfl rfl HT_ HW_ (by kernel_rfl) (fun _ _ _ h => h) (by rfl) ?_ hHeld ?_ ?_ ?_
   rotate_left
   ·rintro w' ⟨s0, s1, s2, s3⟩
    go_simp
    with_reducible rfl
   rotate_left
   ·simp only [SX]
    rfl
   refine pu 12 91 ?_ (ms 41 8191) rfl rfl HT_ (by kernel_rfl) (fun _ _ _ h => h) (by rfl) ?_ ?_ ?_ ?_
   rotate_left
   ·intro w'
    go_simp
    with_reducible rfl
   rotate_left
   ·simp only [SX]
    rfl
   refine pu 13 92 ?_ (ms 41 16383) rfl rfl HT_ (by kernel_rfl) (fun _ _ _ h => h) (by rfl) ?_ ?_ ?_ ?_
   rotate_left
   ·intro w'
    go_simp
    with_reducible rfl
   rotate_left
   ·simp only [SX]
    rfl
   refine pu 14 93 ?_ (ms 41 32767) rfl rfl HT_ (by kernel_rfl) (fun _ _ _ h => h) (by rfl) ?_ ?_ ?_ ?_
   rotate_left
   ·intro w'
    go_simp
    with_reducible rfl
   rotate_left
   ·simp only [SX]
    rfl
   refine pu 16 95 ?_ (ms 41 98303) rfl rfl HT_ (by kernel_rfl) (fun _ _ _ h => h) (by rfl) ?_ ?_ ?_ ?_
   rotate_left
   ·intro w'
    go_simp
    with_reducible rfl
   rotate_left
   ·simp only [SX]
    rfl
   refine pu 18 97 ?_ (ms 41 360447) rfl rfl HT_ (by kernel_rfl) (fun _ _ _ h => h) (by rfl) ?_ ?_ ?_ ?_
   rotate_left
   ·intro w'
    go_simp
    with_reducible rfl
   rotate_left
   ·simp only [SX]
    rfl
   refine tk 15 94 ?_ (ms 41 393215) rfl rfl HT_ HW_ (by kernel_rfl) (fun _ _ _ h => h) (by rfl) ?_ hHeld ?_ ?_ ?_
   rotate_left
   ·rintro w' ⟨s0, s1, s2, s3⟩
    go_simp
    with_reducible rfl
   rotate_left
   ·simp only [SX]
    rfl
   refine one_ (i := 17) (N := some 96) (ms 41 524287) rfl rfl (one_of HT_.out (by kernel_rfl)) (by decide) (fun K hK => ?_)
   refine goes_ Try.func16 (by kernel_rfl) rfl #[.agg #[.int .i64 t1274, .slice Ao10 t1275.length co10], .slice (some ad1298) t1282.length co59] (by rfl) rfl rfl (by (try simp only [List.map_toArray, List.map_cons, List.map_nil]); rfl) ?_
   with_reducible refine (impl_TourCost.calls k2 t1274 _ _ t1275 _ _ t1282 t1300 _ ?side1 ?side2 ?side3 ?side4 A43.out).mono ?_
   (case side1 => repeat (exact (Kd.R_reads' HO_1282001.out).2.2))
   (case side2 => exact (Kd.R_reads' HO_1282001.out).2.1)
   (case side3 => repeat (exact (Kd.R_reads' HO_5.out).2.2))
   (case side4 => exact (Kd.R_reads' HO_5.out).2.1)
   rintro e w60 ⟨rfl, hb⟩
   have HS2_ := (hb.cell (World.block_lt_of_cell? _ _ (hHeld.2.2.1))).trans (hHeld.2.2.1)
   have HS3_ := (hb.cell (World.block_lt_of_cell? _ _ (hHeld.2.2.2))).trans (hHeld.2.2.2)
   refine ⟨_, rfl, ?_⟩
   replace HO_4 := ak (Kd.R_below (rk HO_4) hb)
   replace HO_5 := ak (Kd.R_below (rk HO_5) hb)
   replace HO_1282001 := ak (Kd.R_below (rk HO_1282001) hb)
   replace HO1297 := ak (Kd.R_below (rk HO1297) hb)
   replace BK1281 := ak (blk_below (bk BK1281) hb)
   replace HB := ak (below_step (bl1 HB GE1281) hb)
   (try clear hb)
   (try clear hb2)
   (try clear hk)
   (try clear hi)
   refine hK.out _ _ ⟨(blk_cell BK1281.out 0).trans rfl, (blk_cell BK1281.out 1).trans rfl, HS2_, HS3_⟩ (fun hHeld => ?_)
   clear hK K
   refine norm_ (a' := ?_) ?_ ?_
   rotate_left
   ·show Act.put _ (some 96) _ = _
    simp only [SX]
    rfl
   refine pu 19 98 ?_ (ms 41 1048575) rfl rfl HT_ (by kernel_rfl) (fun _ _ _ h => h) (by rfl) ?_ ?_ ?_ ?_
   rotate_left
   ·intro w'
    go_simp
    with_reducible rfl
   rotate_left
   ·simp only [SX]
    rfl
   refine pu 20 99 ?_ (ms 41 2097151) rfl rfl HT_ (by kernel_rfl) (fun _ _ _ h => h) (by rfl) ?_ ?_ ?_ ?_
   rotate_left
   ·intro w'
    go_simp
    with_reducible rfl
   rotate_left
   ·simp only [SX]
    rfl
   refine pu 21 100 ?_ (ms 41 4194303) rfl rfl HT_ (by kernel_rfl) (fun _ _ _ h => h) (by rfl) ?_ ?_ ?_ ?_
   rotate_left
   ·intro w'
    go_simp
    with_reducible rfl
   rotate_left
   ·simp only [SX]
    rfl
   refine pu 23 102 ?_ (ms 41 12582911) rfl rfl HT_ (by kernel_rfl) (fun _ _ _ h => h) (by rfl) ?_ ?_ ?_ ?_
   rotate_left
   ·intro w'
    go_simp
    with_reducible rfl
   rotate_left
   ·simp only [SX]
    rfl
   refine pu 25 104 ?_ (ms 41 46137343) rfl rfl HT_ (by kernel_rfl) (fun _ _ _ h => h) (by rfl) ?_ ?_ ?_ ?_
   rotate_left
   ·intro w'
    go_simp
    with_reducible rfl
   rotate_left
   ·simp only [SX]
    rfl
   refine tk 22 101 ?_ (ms 41 50331647) rfl rfl HT_ HW_ (by kernel_rfl) (fun _ _ _ h => h) (by rfl) ?_ hHeld ?_ ?_ ?_
   rotate_left
   ·rintro w' ⟨s0, s1, s2, s3⟩
    go_simp
    with_reducible rfl
   rotate_left
   ·simp only [SX]
    rfl
   refine one_ (i := 24) (N := some 103) (ms 41 67108863) rfl rfl (one_of HT_.out (by kernel_rfl)) (by decide) (fun K hK => ?_)
   refine goes_ Try.func16 (by kernel_rfl) rfl #[.agg #[.int .i64 t1274, .slice Ao10 t1275.length co10], .slice (some ad1299) t1278.length co11] (by rfl) rfl rfl (by (try simp only [List.map_toArray, List.map_cons, List.map_nil]); rfl) ?_
   with_reducible refine (impl_TourCost.calls k2 t1274 _ _ t1275 _ _ t1278 t1301 _ ?side1 ?side2 ?side3 ?side4 A45.out).mono ?_
   (case side1 => repeat (exact (Kd.R_reads' HO_1282001.out).2.2))
   (case side2 => exact (Kd.R_reads' HO_1282001.out).2.1)
   (case side3 => repeat (exact (Kd.R_reads' HO_4.out).2.2))
   (case side4 => exact (Kd.R_reads' HO_4.out).2.1)
   rintro e w61 ⟨rfl, hb⟩
   have HS2_ := (hb.cell (World.block_lt_of_cell? _ _ (hHeld.2.2.1))).trans (hHeld.2.2.1)
   have HS3_ := (hb.cell (World.block_lt_of_cell? _ _ (hHeld.2.2.2))).trans (hHeld.2.2.2)
   refine ⟨_, rfl, ?_⟩
   replace HO_4 := ak (Kd.R_below (rk HO_4) hb)
   replace HO_5 := ak (Kd.R_below (rk HO_5) hb)
   replace HO_1282001 := ak (Kd.R_below (rk HO_1282001) hb)
   replace HO1297 := ak (Kd.R_below (rk HO1297) hb)
   replace BK1281 := ak (blk_below (bk BK1281) hb)
   replace HB := ak (below_step (bl1 HB GE1281) hb)
   (try clear hb)
   (try clear hb2)
   (try clear hk)
   (try clear hi)
   obtain ⟨Ao62, co62, eo62⟩ := Kd.R_slice HO1297.out
   (subst eo62)
   refine hK.out _ _ ⟨(blk_cell BK1281.out 0).trans rfl, (blk_cell BK1281.out 1).trans rfl, HS2_, HS3_⟩ (fun hHeld => ?_)
   clear hK K
   refine norm_ (a' := ?_) ?_ ?_
   rotate_left
   ·show Act.put _ (some 103) _ = _
    simp only [SX]
    rfl
   refine pu 26 105 ?_ (ms 41 134217727) rfl rfl HT_ (by kernel_rfl) (fun _ _ _ h => h) (by rfl) ?_ ?_ ?_ ?_
   rotate_left
   ·intro w'
    go_simp
    with_reducible rfl
   rotate_left
   ·simp only [SX]
    rfl
   refine pu 27 106 ?_ (ms 41 268435455) rfl rfl HT_ (by kernel_rfl) (fun _ _ _ h => h) (by rfl) ?_ ?_ ?_ ?_
   rotate_left
   ·intro w'
    go_simp
    with_reducible rfl
   rotate_left
   ·simp only [SX]
    rfl
   refine pu 28 107 ?_ (ms 41 536870911) rfl rfl HT_ (by kernel_rfl) (fun _ _ _ h => h) (by rfl) ?_ ?_ ?_ ?_
   rotate_left
   ·intro w'
    go_simp
    with_reducible rfl
   rotate_left
   ·simp only [SX]
    rfl
   refine pu 29 108 ?_ (ms 41 1073741823) rfl rfl HT_ (by kernel_rfl) (fun _ _ _ h => h) (by rfl) ?_ ?_ ?_ ?_
   rotate_left
   ·intro w'
    go_simp
    with_reducible rfl
   rotate_left
   ·simp only [SX]
    rfl
   refine pu 30 109 ?_ (ms 41 2147483647) rfl rfl HT_ (by kernel_rfl) (fun _ _ _ h => h) (by rfl) ?_ ?_ ?_ ?_
   rotate_left
   ·intro w'
    go_simp
    with_reducible rfl
   rotate_left
   ·simp only [SX]
    rfl
   refine pu 31 110 ?_ (ms 41 4294967295) rfl rfl HT_ (by kernel_rfl) (fun _ _ _ h => h) (by rfl) ?_ ?_ ?_ ?_
   rotate_left
   ·intro w'
    go_simp
    with_reducible rfl
   rotate_left
   ·simp only [SX]
    rfl
   refine pu 32 111 ?_ (ms 41 8589934591) rfl rfl HT_ (by kernel_rfl) (fun _ _ _ h => h) (by rfl) ?_ ?_ ?_ ?_
   rotate_left
   ·intro w'
    go_simp
    with_reducible rfl
   rotate_left
   ·simp only [SX]
    rfl
   refine pu 34 113 ?_ (ms 41 25769803775) rfl rfl HT_ (by kernel_rfl) (fun _ _ _ h => h) (by rfl) ?_ ?_ ?_ ?_
   rotate_left
   ·intro w'
    go_simp
    with_reducible rfl
   rotate_left
   ·simp only [SX]
    rfl
   refine pu 36 115 ?_ (ms 41 94489280511) rfl rfl HT_ (by kernel_rfl) (fun _ _ _ h => h) (by rfl) ?_ ?_ ?_ ?_
   rotate_left
   ·intro w'
    go_simp
    with_reducible rfl
   rotate_left
   ·simp only [SX]
    rfl
   refine tk 33 112 ?_ (ms 41 103079215103) rfl rfl HT_ HW_ (by kernel_rfl) (fun _ _ _ h => h) (by rfl) ?_ hHeld ?_ ?_ ?_
   rotate_left
   ·rintro w' ⟨s0, s1, s2, s3⟩
    go_simp
    with_reducible rfl
   rotate_left
   ·simp only [SX]
    rfl
   refine one_ (i := 35) (N := some 114) (ms 41 137438953471) rfl rfl (one_of HT_.out (by kernel_rfl)) (by decide) (fun K hK => ?_)
   refine goes_ Try.func16 (by kernel_rfl) rfl #[.agg #[.int .i64 t1274, .slice Ao10 t1275.length co10], .slice Ao62 t1295.length co62] (by rfl) rfl rfl (by (try simp only [List.map_toArray, List.map_cons, List.map_nil]); rfl) ?_
   with_reducible refine (impl_TourCost.calls k2 t1274 _ _ t1275 _ _ t1295 t1302 _ ?side1 ?side2 ?side3 ?side4 A55.out).mono ?_
   (case side1 => repeat (exact (Kd.R_reads' HO_1282001.out).2.2))
   (case side2 => exact (Kd.R_reads' HO_1282001.out).2.1)
   (case side3 => repeat (exact (Kd.R_reads' HO1297.out).2.2))
   (case side4 => exact (Kd.R_reads' HO1297.out).2.1)
   rintro e w63 ⟨rfl, hb⟩
   have HS2_ := (hb.cell (World.block_lt_of_cell? _ _ (hHeld.2.2.1))).trans (hHeld.2.2.1)
   have HS3_ := (hb.cell (World.block_lt_of_cell? _ _ (hHeld.2.2.2))).trans (hHeld.2.2.2)
   refine ⟨_, rfl, ?_⟩
   replace HO_4 := ak (Kd.R_below (rk HO_4) hb)
   replace HO_5 := ak (Kd.R_below (rk HO_5) hb)
   replace HO_1282001 := ak (Kd.R_below (rk HO_1282001) hb)
   replace HO1297 := ak (Kd.R_below (rk HO1297) hb)
   replace BK1281 := ak (blk_below (bk BK1281) hb)
   replace HB := ak (below_step (bl1 HB GE1281) hb)
   (try clear hb)
   (try clear hb2)
   (try clear hk)
   (try clear hi)
   refine hK.out _ _ ⟨(blk_cell BK1281.out 0).trans rfl, (blk_cell BK1281.out 1).trans rfl, HS2_, HS3_⟩ (fun hHeld => ?_)
   clear hK K
   refine norm_ (a' := ?_) ?_ ?_
   rotate_left
   ·show Act.put _ (some 114) _ = _
    simp only [SX]
    rfl
   refine pu 37 116 ?_ (ms 41 274877906943) rfl rfl HT_ (by kernel_rfl) (fun _ _ _ h => h) (by rfl) ?_ ?_ ?_ ?_
   rotate_left
   ·intro w'
    go_simp
    with_reducible rfl
   rotate_left
   ·simp only [SX]
    rfl
   refine pu 38 117 ?_ (ms 41 549755813887) rfl rfl HT_ (by kernel_rfl) (fun _ _ _ h => h) (by rfl) ?_ ?_ ?_ ?_
   rotate_left
   ·intro w'
    go_simp
    with_reducible rfl
   rotate_left
   ·simp only [SX]
    rfl
   refine pu 39 118 ?_ (ms 41 1099511627775) rfl rfl HT_ (by kernel_rfl) (fun _ _ _ h => h) (by rfl) ?_ ?_ ?_ ?_
   rotate_left
   ·intro w'
    go_simp
    with_reducible rfl
   rotate_left
   ·simp only [SX]
    rfl
   refine pu 40 2 ?_ (ms 41 2199023255551) rfl rfl HT_ (by kernel_rfl) (fun _ _ _ h => h) (by rfl) ?_ ?_ ?_ ?_
   rotate_left
   ·intro w'
    go_simp
    with_reducible rfl
   rotate_left
   ·simp only [SX]
    rfl
   refine done_ (done_of HT_.out (by kernel_rfl)) ?_
   try go_wp2
   go_ret
   exact ⟨by (simp [*, errW_none, errW_some] <;> rfl), bl1 HB GE1281⟩

/-- THE ONE PURE STATEMENT of laws_FnTourBest: yours. -/
def laws_FnTourBest.Pure : Prop := ∀ (l0 : List Int), l0.length ≤ maxLen → l0.length * 1 ≤ 140737488351232 → (∀ x ∈ l0, (Lit.int .u8 x).wf = true) → ∃ k, laws_FnTourBest.f k l0 = some true
theorem laws_FnTourBest.walk (P : laws_FnTourBest.Pure) (a0 : Option Addr) (len0 cap0 : Nat) (z0 : List Int) (w : World) (w0 : (a0 = none ∧ len0 = 0 ∧ cap0 = 0 ∧ z0 = []) ∨ ∃ x, a0 = some x ∧ len0 ≤ cap0 ∧ cap0 ≤ maxLen ∧ z0.length = cap0 ∧ (∀ i, i < z0.length → w.cell? (x.add i) = some (.int .u8 (z0.getD i 0))) ∧ ∀ n ∈ z0, (Lit.int .u8 n).wf = true) (y0 : len0 * 1 ≤ 140737488351232) :
  Calls Try.prog 12 #[.slice a0 len0 cap0] w fun e w' => e = .returned (.bool true) ∧ Below w.heap.size w w' := by
 obtain ⟨l0, rfl, hr0, hm0, hw0, hc0⟩ := ReadsInt.ofRowC w0
 obtain ⟨k, h⟩ := P l0 hm0 y0 hw0
 refine (laws_FnTourBest.calls k _ _ l0 true w (Kd.C_of_reads (d := (0 : Int)) (h1 := fun _ => rfl) hr0) hc0 h rfl).mono ?_
 rintro e w' ⟨rfl, hd⟩
 exact ⟨rfl, hd⟩

end Go.Proofs.Ytgickejeakmenaa.F
