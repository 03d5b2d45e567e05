-- Printed by wip/px/px.py of this claim's repository (the kit's printer, extended there). Lean checks it.
import Derived.Test.YtgickejeakmenaaFKinds
import Derived.Test.YtgickejeakmenaaFimplNearAll
import Derived.Test.YtgickejeakmenaaFwkNet
import Derived.Test.YtgickejeakmenaaFimplLoadNet
import Derived.Test.YtgickejeakmenaaFimplLoadWalk
import Derived.Test.YtgickejeakmenaaFspecDrawLoadWalk
import Derived.Test.YtgickejeakmenaaFspecLoadWalk
import Derived.Test.YtgickejeakmenaaFimplNearWalk
import Derived.Test.YtgickejeakmenaaFlawswkEnds
import Derived.Test.YtgickejeakmenaaFimplWalkCost
namespace Go.Proofs.Ytgickejeakmenaa.F
open Go.RowKit Go.Proofs.YtgickejeakmenaaW.PrintWords Go.Proofs.YtgickejeakmenaaW.PrintLast Go.Proofs.YtgickejeakmenaaW.PrintMore
attribute [local go_sem] max2_int min2_int max_two min_two max_three min_three max_four min_four   -- for this text's walks alone
set_option linter.unusedVariables false
set_option linter.unusedSimpArgs false

/-! ### laws_FnLoadWalk: function 13 -/
mutual
def laws_FnLoadWalk.j0 : Nat → Int → Int → Int → List Int → Bool → List Int → Bool → Bool → Int → List (S41) → Option (Bool)
 | 0, _, _, _, _, _, _, _, _, _, _ => none
 | k + 1, x4, x5, x6, x7, x8, x9, x10, x52, x1385000, x1385001 => if x52 = true then (if (x8 == x10) = true then ((laws_wkInts.f k x7 x9).bind fun t1394 => (some t1394)) else (some false)) else (laws_FnLoadWalk.l0 k x4 x5 x6 x7 0 x1385000 x1385001)
def laws_FnLoadWalk.l0 : Nat → Int → Int → Int → List Int → Int → Int → List (S41) → Option (Bool)
 | 0, _, _, _, _, _, _, _ => none
 | k + 1, x4, x5, x6, x7, x11, x1385000, x1385001 => if x11 < (x7.length : Int) then (if 0 ≤ x11 then (if 0 ≤ (rd x7 x11) then (if (rd x7 x11) < (x1385001.length : Int) then (if ((rd_T41 x1385001 (rd x7 x11)).f4) < x6 then (some false) else (laws_FnLoadWalk.l0 k x4 x5 x6 x7 (wrap64 (x11 + 1)) x1385000 x1385001)) else (none)) else (none)) else (none)) else ((impl_NearWalk.f k x1385000 x1385001 x4 x5).bind fun bt1397 => ((laws_wkEnds.f k x1385000 x1385001 x7 x4 x5).bind fun t1401 => (if t1401 = true then ((impl_WalkCost.f k x1385000 x1385001 x7).bind fun t1402 => ((impl_LoadNet.f k x1385000 x1385001 x6).bind fun bt1403 => ((impl_NearAll.f k bt1403.1 bt1403.2 x4).bind fun t1407 => (if 0 ≤ x5 then (if x5 < (t1407.length : Int) then (if t1402 = (rd t1407 x5) then ((impl_WalkCost.f k x1385000 x1385001 x7).bind fun t1411 => ((impl_WalkCost.f k x1385000 x1385001 bt1397.1).bind fun t1412 => (some (decide (t1411 ≥ t1412))))) else (some false)) else (none)) else (none))))) else (some false))))
end
def laws_FnLoadWalk.f (k : Nat) (l0 : List Int) : Option (Bool) := if (l0.length : Int) > 1048576 then (some true) else ((spec_DrawLoadWalk.f k l0).bind fun bt1377 => ((impl_LoadWalk.f k bt1377.1 bt1377.2.1 bt1377.2.2.1 bt1377.2.2.2.1 bt1377.2.2.2.2).bind fun bt1385 => ((spec_LoadWalk.f k bt1377.1 bt1377.2.1 bt1377.2.2.1 bt1377.2.2.2.1 bt1377.2.2.2.2).bind fun bt1389 => (if (bt1385.2 != bt1389.2) = true then (laws_FnLoadWalk.j0 k bt1377.2.2.1 bt1377.2.2.2.1 bt1377.2.2.2.2 bt1385.1 bt1385.2 bt1389.1 bt1389.2 true bt1377.1 bt1377.2.1) else ((laws_wkInts.f k bt1385.1 bt1389.1).bind fun t1393 => (if t1393 = true then (laws_FnLoadWalk.j0 k bt1377.2.2.1 bt1377.2.2.2.1 bt1377.2.2.2.2 bt1385.1 bt1385.2 bt1389.1 bt1389.2 (!bt1385.2) bt1377.1 bt1377.2.1) else (laws_FnLoadWalk.j0 k bt1377.2.2.1 bt1377.2.2.2.1 bt1377.2.2.2.2 bt1385.1 bt1385.2 bt1389.1 bt1389.2 true bt1377.1 bt1377.2.1)))))))
theorem laws_FnLoadWalk.mono_l : ∀ k, (∀ y0 y1 y2 y3 y4 y5 y6 y7 y8 y9, LeO (laws_FnLoadWalk.j0 k y0 y1 y2 y3 y4 y5 y6 y7 y8 y9) (laws_FnLoadWalk.j0 (k + 1) y0 y1 y2 y3 y4 y5 y6 y7 y8 y9)) ∧ (∀ y0 y1 y2 y3 y4 y5 y6, LeO (laws_FnLoadWalk.l0 k y0 y1 y2 y3 y4 y5 y6) (laws_FnLoadWalk.l0 (k + 1) y0 y1 y2 y3 y4 y5 y6))
 | 0 => ⟨fun _ _ _ _ _ _ _ _ _ _ r h => by simp [laws_FnLoadWalk.j0] at h, fun _ _ _ _ _ _ _ r h => by simp [laws_FnLoadWalk.l0] at h⟩
 | k + 1 => by
  obtain ⟨ih0, ih1⟩ := laws_FnLoadWalk.mono_l k
  refine ⟨?_, ?_⟩
  ·intro y0 y1 y2 y3 y4 y5 y6 y7 y8 y9
   unfold laws_FnLoadWalk.j0
   repeat' first | (with_reducible exact ih1 _ _ _ _ _ _ _) | (with_reducible exact laws_wkInts.mono _ _ _) | (with_reducible exact LeO.refl _) | (with_reducible refine LeO.ite ?_ ?_) | (with_reducible refine LeO.bind ?_ (fun _ => ?_))
  ·intro y0 y1 y2 y3 y4 y5 y6
   unfold laws_FnLoadWalk.l0
   repeat' first | (with_reducible exact ih1 _ _ _ _ _ _ _) | (with_reducible exact impl_LoadNet.mono _ _ _ _) | (with_reducible exact impl_NearAll.mono _ _ _ _) | (with_reducible exact impl_NearWalk.mono _ _ _ _ _) | (with_reducible exact impl_WalkCost.mono _ _ _ _) | (with_reducible exact laws_wkEnds.mono _ _ _ _ _ _) | (with_reducible exact LeO.refl _) | (with_reducible refine LeO.ite ?_ ?_) | (with_reducible refine LeO.bind ?_ (fun _ => ?_))
theorem laws_FnLoadWalk.mono : ∀ a0 k, LeO (laws_FnLoadWalk.f k a0) (laws_FnLoadWalk.f (k + 1) a0) := by
 intro a0 k
 obtain ⟨ih0, ih1⟩ := laws_FnLoadWalk.mono_l k
 unfold laws_FnLoadWalk.f
 repeat' first | (with_reducible exact ih0 _ _ _ _ _ _ _ _ _ _) | (with_reducible exact impl_LoadWalk.mono _ _ _ _ _ _) | (with_reducible exact laws_wkInts.mono _ _ _) | (with_reducible exact spec_DrawLoadWalk.mono _ _) | (with_reducible exact spec_LoadWalk.mono _ _ _ _ _ _) | (with_reducible exact LeO.refl _) | (with_reducible refine LeO.ite ?_ ?_) | (with_reducible refine LeO.bind ?_ (fun _ => ?_))
def laws_FnLoadWalk.T11 : Bool × List (List Nat × List Nat) := (true, [([], []), ([0], [0]), ([], []), ([], []), ([2, 3], [2, 3]), ([4], [4]), ([1, 5], [1, 5]), ([6], [6]), ([7], [7]), ([], []), ([8, 9], [8, 9])])
def laws_FnLoadWalk.B11 : List Nat := [0, 1, 0, 0, 12, 28, 63, 127, 255, 0, 1023]
theorem laws_FnLoadWalk.tab11 : rtab .any (opsOf Try.f13 11) = laws_FnLoadWalk.T11 := by kernel_rfl
theorem laws_FnLoadWalk.bits11 : waitsOk laws_FnLoadWalk.T11.2 laws_FnLoadWalk.B11 = true := by kernel_rfl
def laws_FnLoadWalk.T14 : Bool × List (List Nat × List Nat) := (true, [([], []), ([], []), ([], []), ([], []), ([0, 1, 2, 3], [0, 1, 2, 3]), ([4, 4], [4]), ([5], [5]), ([5], [5]), ([6, 7, 5, 5], [5, 6, 7]), ([5], [5]), ([5], [5]), ([9, 10, 8, 5], [5, 9, 10]), ([5], [5]), ([11, 12, 11, 5], [5, 11, 12]), ([5], [5]), ([13, 14, 5], [5, 13, 14]), ([15, 5], [5, 15]), ([8, 16, 5], [5, 8, 16]), ([5, 17], [5, 17]), ([18, 13], [18]), ([19], [19]), ([19], [19]), ([20, 21, 19, 19], [19, 20, 21]), ([19], [19]), ([19], [19]), ([23, 24, 22, 19], [19, 23, 24]), ([22, 25, 19], [19, 22, 25]), ([19, 26], [19, 26]), ([27, 25, 0, 1, 2, 3, 4, 5, 6, 7, 8, 9, 10, 11, 12, 13, 14, 15, 16, 17, 18, 19, 20, 21, 22, 23, 24, 25, 26, 27], [27])])
def laws_FnLoadWalk.B14 : List Nat := [0, 0, 0, 0, 15, 31, 63, 63, 255, 63, 63, 2047, 63, 8191, 63, 32767, 65535, 131071, 262143, 524287, 1048575, 1048575, 4194303, 1048575, 1048575, 33554431, 67108863, 134217727, 268435455]
theorem laws_FnLoadWalk.tab14 : rtab .any (opsOf Try.f13 14) = laws_FnLoadWalk.T14 := by kernel_rfl
theorem laws_FnLoadWalk.bits14 : waitsOk laws_FnLoadWalk.T14.2 laws_FnLoadWalk.B14 = true := by kernel_rfl
theorem laws_FnLoadWalk.restart {P : Program} {md : Region.Mode} {ops : Array Oper} {Q : Exit → Act → World → Prop} {S S' : World → Prop} (h : ∀ w, S' w → S w) : ∀ {fuel : Nat} {l : Array Bool} {a : Act} {w : World}, S' w → (S' w → wpAnyLast P md ops Q S' [] fuel l a w) → wpAnyLast P md ops Q S [] fuel l a w := by
 have key : ∀ (fuel : Nat) (l : Array Bool) (a : Act) (w : World), S' w → wpAnyLast P md ops Q S' [] fuel l a w → wpAnyLast P md ops Q S [] fuel l a w := by
  intro fuel
  induction fuel with
  | zero => intro l a w _ hk; exact hk
  | succ n ih =>
   intro l a w hS hk
   refine ⟨hk.1, fun i hi => wpOp_mono (fun a' w' h' => ?_) (hk.2 i hi)⟩
   have h1 := h'.1 (by simp) hS
   exact ⟨fun _ _ => h _ h1, ih _ _ _ h1 h'.2⟩
 intro fuel l a w hS hk
 exact key fuel l a w hS (hk hS)
set_option maxHeartbeats 8000000 in
set_option maxRecDepth 100000 in
theorem laws_FnLoadWalk.calls (k : Nat) (A0 : Option Addr) (c0 : Nat) (l0 : List Int) (r : Bool) (w : World) (hr0 : Kd.C (Kd.int .u8) w A0 l0.length l0) (hc0 : l0.length ≤ c0) (h : laws_FnLoadWalk.f k l0 = some r) (hr_ : r = true) :
  Calls Try.prog 13 #[.slice A0 l0.length c0] w fun e w' => e = .returned (.bool r) ∧ Below w.heap.size w w' := by
 have hu25 := Try.underlying25
 have HR0 := Aside0.mk hr0
 have HC0 := Aside0.mk hc0
 clear hr0 hc0
 have HB := Aside0.mk (Below.refl w.heap.size w)
 have H : (if (l0.length : Int) > 1048576 then (some true) else ((spec_DrawLoadWalk.f k l0).bind fun bt1377 => ((impl_LoadWalk.f k bt1377.1 bt1377.2.1 bt1377.2.2.1 bt1377.2.2.2.1 bt1377.2.2.2.2).bind fun bt1385 => ((spec_LoadWalk.f k bt1377.1 bt1377.2.1 bt1377.2.2.1 bt1377.2.2.2.1 bt1377.2.2.2.2).bind fun bt1389 => (if (bt1385.2 != bt1389.2) = true then (laws_FnLoadWalk.j0 k bt1377.2.2.1 bt1377.2.2.2.1 bt1377.2.2.2.2 bt1385.1 bt1385.2 bt1389.1 bt1389.2 true bt1377.1 bt1377.2.1) else ((laws_wkInts.f k bt1385.1 bt1389.1).bind fun t1393 => (if t1393 = true then (laws_FnLoadWalk.j0 k bt1377.2.2.1 bt1377.2.2.2.1 bt1377.2.2.2.2 bt1385.1 bt1385.2 bt1389.1 bt1389.2 (!bt1385.2) bt1377.1 bt1377.2.1) else (laws_FnLoadWalk.j0 k bt1377.2.2.1 bt1377.2.2.2.1 bt1377.2.2.2.2 bt1385.1 bt1385.2 bt1389.1 bt1389.2 true bt1377.1 bt1377.2.1)))))))) = some r := h
 clear h
 by_cases c2 : (l0.length : Int) > 1048576
 ·rw [if_pos c2] at H
  have c2b0 : decide (1048576 < (l0.length : Int)) = true := decide_eq_true c2
  have c2b1 : decide (1048576 < l0.length) = true := decide_eq_true (by omega)
  clear c2
  obtain rfl := Option.some.inj H
  go_enter Try.func13, Try.ntmps13
  go_wp2
  go_ret
  exact ⟨by rfl, bl HB⟩
 rw [if_neg c2] at H
 have c2b0 : decide (1048576 < (l0.length : Int)) = false := decide_eq_false c2
 have c2b1 : decide (1048576 < l0.length) = false := decide_eq_false (by omega)
 clear c2
 replace H := Option.bind_eq_some_iff.mp H
 obtain ⟨⟨t1377, t1378, t1381, t1382, t1383⟩, A30, H⟩ := H
 have A3 := Aside0.mk A30
 clear A30
 replace H := Option.bind_eq_some_iff.mp H
 obtain ⟨⟨t1385, t1388⟩, A40, H⟩ := H
 have A4 := Aside0.mk A40
 clear A40
 replace H := Option.bind_eq_some_iff.mp H
 obtain ⟨⟨t1389, t1392⟩, A50, H⟩ := H
 have A5 := Aside0.mk A50
 clear A50
 have HC6 := Aside0.mk H
 clear H
 go_enter Try.func13, Try.ntmps13
 go_upto_region 6 with (first | ((with_reducible refine gate_callee (f := 44) rfl ?_); refine goesL_ (some 19) rfl rfl Try.func44 (by kernel_rfl) rfl #[.slice A0 l0.length c0] rfl (by (try simp only [List.map_toArray, List.map_cons, List.map_nil]); rfl) ?_; (with_reducible refine (spec_DrawLoadWalk.calls k _ _ l0 t1377 t1378 t1381 t1382 t1383 _ ?side1 ?side2 A3.out).mono ?_); (case side1 => repeat (exact HR0.out)); (case side2 => exact HC0.out); rintro e w7 ⟨v1379, rfl, ho0, hb⟩; refine ⟨_, rfl, ?_⟩; have HO1380 := Aside0.mk (Kd.R_lower ho0 (below_size (bl HB))); replace HB := Aside0.mk (below_step (bl HB) hb); (try clear hb); (try clear hb2); (try clear hk); (try clear hi); (try clear ho0)) | ((with_reducible refine gate_dst (N := 3) rfl ?_); refine box_event ?hg (N := 3) ?hd (cs := #[.int .i64 0, .slice none 0 0]) (t := 25) ?hr ?_; (case hd => rfl); (case hg => rfl); (case hr => (go_simp; done)); intro gb1384 hg w8 hbox hb; replace HO1380 := Aside0.mk (Kd.R_below (rk HO1380) hb); have BK1384 := Aside0.mk (hbox); have GW1384 := Aside0.mk ((by rw [hg]; exact (below_size (bl HB)) : w.heap.size ≤ gb1384)); have GE1384 := Aside0.mk ((by rw [hg]; exact (below_size (bl HB)) : w.heap.size ≤ gb1384)); replace HB := Aside0.mk (below_step (bl HB) hb); clear hb hbox hg; have hcz9_0 := bc w8 BK1384 0 (.int .i64 0) rfl; have hcz9_1 := bc w8 BK1384 1 (.slice none 0 0) rfl; have hfz9_0 := fz BK1384 0; have hfz9_1 := fz BK1384 1; obtain ⟨Ao10, co10, eo10⟩ := Kd.R_slice HO1380.out; subst eo10) | ((with_reducible refine gate_callee (f := 26) rfl ?_); refine goesL_ (some 29) rfl rfl Try.func26 (by kernel_rfl) rfl #[.agg #[.int .i64 t1377, .slice Ao10 t1378.length co10], .int .i64 t1381, .int .i64 t1382, .int .i64 t1383] rfl (by (try simp only [List.map_toArray, List.map_cons, List.map_nil]); rfl) ?_; (with_reducible refine (impl_LoadWalk.calls k t1377 _ _ t1378 t1381 t1382 t1383 t1385 t1388 _ ?side1 ?side2 A4.out).mono ?_); (case side1 => refine (Kd.R_reads' (e := 41) (base := w.heap.size) (ok := fun k_ => True) (n := t1378.length) (c := co10) ?_).2.2; exact (by (with_reducible repeat (fail)); exact (Kd.R_mono (Kd.R_far (p := ⟨gb1384, 1, none⟩) (Kd.R_far (p := ⟨gb1384, 0, none⟩) (Kd.R_types HO1380.out BK1384.out (by decide)) (fun _ hk => hk.2) (.int .i64 t1377)) (fun _ hk => hk.2) (.slice Ao10 t1378.length co10)) (fun _ h_ => h_.1)))); (case side2 => exact (Kd.R_reads' HO1380.out).2.1); rintro e w11 ⟨v1386, rfl, ho0, hb⟩; refine ⟨_, rfl, ?_⟩; replace HO1380 := Aside0.mk (Kd.R_below (by (with_reducible repeat (fail)); exact (Kd.R_mono (Kd.R_far (p := ⟨gb1384, 1, none⟩) (Kd.R_far (p := ⟨gb1384, 0, none⟩) (Kd.R_types HO1380.out BK1384.out (by decide)) (fun _ hk => hk.2) (.int .i64 t1377)) (fun _ hk => hk.2) (.slice Ao10 t1378.length co10)) (fun _ h_ => h_.1))) hb); have HO1387 := Aside0.mk (Kd.R_lower ho0 (below_size (bl1 HB GE1384))); replace BK1384 := Aside0.mk (blk_below (g := gb1384) (o := .cells #[.int .i64 t1377, .slice Ao10 t1378.length co10] 25 (0, 0)) (by (with_reducible repeat (fail)); refine blk_put (cs := #[.int .i64 t1377, .slice none 0 0]) ?_ 1 _ rfl; refine blk_put (cs := #[.int .i64 0, .slice none 0 0]) ?_ 0 _ rfl; (with_reducible repeat (fail)); exact BK1384.out) hb); replace HB := Aside0.mk (below_step (bl1 HB GE1384) hb); (try clear hb); (try clear hb2); (try clear hk); (try clear hi); (try clear ho0); have hcz12_0 := bc w11 BK1384 0 (.int .i64 t1377) rfl; have hcz12_1 := bc w11 BK1384 1 (.slice Ao10 t1378.length co10) rfl; have hfz12_0 := fz BK1384 0; have hfz12_1 := fz BK1384 1) | ((with_reducible refine gate_callee (f := 45) rfl ?_); refine goesL_ (some 37) rfl rfl Try.func45 (by kernel_rfl) rfl #[.agg #[.int .i64 t1377, .slice Ao10 t1378.length co10], .int .i64 t1381, .int .i64 t1382, .int .i64 t1383] rfl (by (try simp only [List.map_toArray, List.map_cons, List.map_nil]); rfl) ?_; (with_reducible refine (spec_LoadWalk.calls k t1377 _ _ t1378 t1381 t1382 t1383 t1389 t1392 _ ?side1 ?side2 A5.out).mono ?_); (case side1 => repeat (exact (Kd.R_reads' HO1380.out).2.2)); (case side2 => exact (Kd.R_reads' HO1380.out).2.1); rintro e w13 ⟨v1390, rfl, ho0, hb⟩; refine ⟨_, rfl, ?_⟩; replace HO1380 := Aside0.mk (Kd.R_below (rk HO1380) hb); have HO1391 := Aside0.mk (Kd.R_lower (Kd.R_new' ho0 (Kd.R_lt (rk HO1387))) (below_size (bl1 HB GE1384))); replace HO1387 := Aside0.mk (Kd.R_elder' (rk HO1387) (Kd.R_base ho0) hb); replace BK1384 := Aside0.mk (blk_below (bk BK1384) hb); replace HB := Aside0.mk (below_step (bl1 HB GE1384) hb); (try clear hb); (try clear hb2); (try clear hk); (try clear hi); (try clear ho0)))
 (try simp only [Act.put, List.setIfInBounds_toArray, List.set_cons_zero, List.set_cons_succ])
 go_cut [52] (fun v52 wc => ∃ (kq : Nat) (x52_5 : Bool), v52 = .bool x52_5 ∧ Aside0 (laws_FnLoadWalk.j0 kq t1381 t1382 t1383 t1385 t1388 t1389 t1392 x52_5 t1377 t1378 = some r) ∧ Aside0 (kq ≤ k) ∧ Aside0 (Kd.R (Kd.int .i64) 3 wc w.heap.size (fun k_ => some k_ ≠ (v1390 : Value).ownBlock) v1386 t1385) ∧ Aside0 (Kd.R (Kd.int .i64) 3 wc w.heap.size (fun k_ => some k_ ≠ (v1386 : Value).ownBlock) v1390 t1389) ∧ Aside0 (Kd.R k41 41 wc w.heap.size (fun _ => True) (.slice Ao10 t1378.length co10) t1378) ∧ Aside0 (wc.heap[gb1384]? = some (.cells #[.int .i64 t1377, (.slice Ao10 t1378.length co10)] 25 (0, 0))) ∧ Aside0 (Below w.heap.size w wc))
 case first =>
  have H := HC6.out
  clear HC6
  by_cases c14 : (t1388 != t1392) = true
  ·rw [if_pos c14] at H
   have c14b0 : (t1388 != t1392) = true := c14
   (try (have c14b1 : decide (t1388 = t1392) = false := by simpa using c14))
   (try (have c14b2 : (t1388 == t1392) = false := by simpa using c14))
   (try (have c14b3 : ¬ (t1388 = t1392) := by simpa using c14))
   clear c14
   (skip)
   have H' := Aside0.mk H
   clear H
   go_wp2
   go_meet
   case rel => exact ⟨_, (true), (by rfl), H', ⟨by omega⟩, ⟨by (with_reducible repeat (fail)); exact Kd.R_mono HO1387.out (fun _ hk => hk.2)⟩, ⟨by (with_reducible repeat (fail)); exact Kd.R_mono HO1391.out (fun _ hk => hk.2)⟩, ⟨rk HO1380⟩, ⟨bk BK1384⟩, ⟨bl1 HB GE1384⟩⟩
  rw [if_neg c14] at H
  have c14b0 : (t1388 != t1392) = false := by simpa using c14
  (try (have c14b1 : decide (t1388 = t1392) = true := by simpa using c14))
  (try (have c14b2 : (t1388 == t1392) = true := by simpa using c14))
  clear c14
  (skip)
  replace H := Option.bind_eq_some_iff.mp H
  obtain ⟨t1393, A150, H⟩ := H
  have A15 := Aside0.mk A150
  clear A150
  by_cases c16 : t1393 = true
  ·subst c16
   rw [if_pos rfl] at H
   have H' := Aside0.mk H
   clear H
   obtain ⟨Ao17, co17, eo17⟩ := Kd.R_slice HO1387.out
   subst eo17
   obtain ⟨Ao18, co18, eo18⟩ := Kd.R_slice HO1391.out
   subst eo18
   go_wp2_with ((go_at_call 21; (with_reducible refine (laws_wkInts.calls k _ _ t1385 _ _ t1389 true _ ?side1 ?side2 ?side3 ?side4 A15.out).mono ?_); (case side1 => repeat (exact (Kd.R_reads' HO1387.out).2.2)); (case side2 => exact (Kd.R_reads' HO1387.out).2.1); (case side3 => repeat (exact (Kd.R_reads' HO1391.out).2.2)); (case side4 => exact (Kd.R_reads' HO1391.out).2.1); rintro e w' ⟨rfl, ⟨nd, rfl⟩⟩))
   go_meet
   case rel => exact ⟨_, (!t1388), (by rfl), H', ⟨by omega⟩, ⟨by (with_reducible repeat (apply Kd.R_drewN)); exact Kd.R_mono HO1387.out (fun _ hk => hk.2)⟩, ⟨by (with_reducible repeat (apply Kd.R_drewN)); exact Kd.R_mono HO1391.out (fun _ hk => hk.2)⟩, ⟨rk HO1380⟩, ⟨bk BK1384⟩, ⟨bl1 HB GE1384⟩⟩
  replace c16 := Bool.eq_false_iff.mpr c16
  subst c16
  rw [if_neg (show ¬ (false = true) by decide)] at H
  have H' := Aside0.mk H
  clear H
  obtain ⟨Ao19, co19, eo19⟩ := Kd.R_slice HO1387.out
  subst eo19
  obtain ⟨Ao20, co20, eo20⟩ := Kd.R_slice HO1391.out
  subst eo20
  go_wp2_with ((go_at_call 21; (with_reducible refine (laws_wkInts.calls k _ _ t1385 _ _ t1389 false _ ?side1 ?side2 ?side3 ?side4 A15.out).mono ?_); (case side1 => repeat (exact (Kd.R_reads' HO1387.out).2.2)); (case side2 => exact (Kd.R_reads' HO1387.out).2.1); (case side3 => repeat (exact (Kd.R_reads' HO1391.out).2.2)); (case side4 => exact (Kd.R_reads' HO1391.out).2.1); rintro e w' ⟨rfl, ⟨nd, rfl⟩⟩))
  go_meet
  case rel => exact ⟨_, (true), (by rfl), H', ⟨by omega⟩, ⟨by (with_reducible repeat (apply Kd.R_drewN)); exact Kd.R_mono HO1387.out (fun _ hk => hk.2)⟩, ⟨by (with_reducible repeat (apply Kd.R_drewN)); exact Kd.R_mono HO1391.out (fun _ hk => hk.2)⟩, ⟨rk HO1380⟩, ⟨bk BK1384⟩, ⟨bl1 HB GE1384⟩⟩
 clear HC6
 try clear c1
 try clear c2
 try clear c2b0
 try clear c2b1
 try clear p2
 try clear c4
 try clear c13
 try clear c14
 try clear c14b0
 try clear c14b1
 try clear c14b2
 try clear c16
 try clear hcz12_0
 try clear hcz12_1
 try clear hcz9_0
 try clear hcz9_1
 try clear hfz12_0
 try clear hfz12_1
 try clear hfz9_0
 try clear hfz9_1
 obtain ⟨kq, x52_5, rfl, HA, HJ5, HO_7, HO_9, HO_1385001, BK1384, HB⟩ := hcut
 cases kq with
 | zero => exact absurd HA.out (by simp [laws_FnLoadWalk.j0])
 | succ kj5 =>
  have H := HA.out
  clear HA
  simp only [laws_FnLoadWalk.j0] at H
  by_cases c21 : x52_5 = true
  ·subst c21
   rw [if_pos rfl] at H
   by_cases c22 : (t1388 == t1392) = true
   rotate_left
   ·rw [if_neg c22] at H
    have c22b0 : (t1388 == t1392) = false := by simpa using c22
    (try (have c22b1 : decide (t1388 = t1392) = false := by simpa using c22))
    (try (have c22b2 : (t1388 == t1392) = false := by simpa using c22))
    (try (have c22b3 : ¬ (t1388 = t1392) := by simpa using c22))
    clear c22
    exact absurd ((Option.some.inj H).trans hr_) Bool.false_ne_true
   rw [if_pos c22] at H
   have c22b0 : (t1388 == t1392) = true := c22
   (try (have c22b1 : decide (t1388 = t1392) = true := by simpa using c22))
   (try (have c22b2 : (t1388 == t1392) = true := by simpa using c22))
   clear c22
   replace H := Option.bind_eq_some_iff.mp H
   obtain ⟨t1394, A230, H⟩ := H
   have A23 := Aside0.mk A230
   clear A230
   obtain rfl := Option.some.inj H
   obtain ⟨Ao24, co24, eo24⟩ := Kd.R_slice HO_7.out
   subst eo24
   obtain ⟨Ao25, co25, eo25⟩ := Kd.R_slice HO_9.out
   subst eo25
   go_wp2_with ((go_at_call 21; (with_reducible refine (laws_wkInts.calls kj5 _ _ t1385 _ _ t1389 t1394 _ ?side1 ?side2 ?side3 ?side4 A23.out).mono ?_); (case side1 => repeat (exact (Kd.R_reads' HO_7.out).2.2)); (case side2 => exact (Kd.R_reads' HO_7.out).2.1); (case side3 => repeat (exact (Kd.R_reads' HO_9.out).2.2)); (case side4 => exact (Kd.R_reads' HO_9.out).2.1); rintro e w' ⟨rfl, ⟨nd, rfl⟩⟩))
   go_ret
   exact ⟨by (simp [*, errW_none, errW_some] <;> rfl), bl1 HB GE1384⟩
  replace c21 := Bool.eq_false_iff.mpr c21
  subst c21
  rw [if_neg (show ¬ (false = true) by decide)] at H
  have H' := Aside0.mk H
  clear H
  go_wp2
  go_loopg [11] kj5 (fun kq v11 w' => ∃ (x11_2 : Int), v11 = .int .i64 x11_2 ∧ Aside0 (laws_FnLoadWalk.l0 kq t1381 t1382 t1383 t1385 x11_2 t1377 t1378 = some r) ∧ Aside0 (kq ≤ kj5) ∧ Aside0 (Kd.R (Kd.int .i64) 3 w' w.heap.size (fun _ => True) v1386 t1385) ∧ Aside0 (Kd.R k41 41 w' w.heap.size (fun _ => True) (.slice Ao10 t1378.length co10) t1378) ∧ Aside0 (w'.heap[gb1384]? = some (.cells #[.int .i64 t1377, (.slice Ao10 t1378.length co10)] 25 (0, 0))) ∧ Aside0 (Below w.heap.size w w'))
  case atStart => exact ⟨(0), (by rfl), H', ⟨Nat.le_refl _⟩, ⟨by (with_reducible repeat (fail)); exact Kd.R_mono HO_7.out (fun _ hk => trivial)⟩, ⟨rk HO_1385001⟩, ⟨bk BK1384⟩, ⟨bl1 HB GE1384⟩⟩
  clear H'
  try clear c1
  try clear c2
  try clear c2b0
  try clear c2b1
  try clear p2
  try clear c4
  try clear c13
  try clear c14
  try clear c14b0
  try clear c14b1
  try clear c14b2
  try clear c16
  try clear c21
  try clear c22
  try clear c22b0
  try clear c22b1
  try clear c22b2
  try clear hcz12_0
  try clear hcz12_1
  try clear hcz9_0
  try clear hcz9_1
  try clear hfz12_0
  try clear hfz12_1
  try clear hfz9_0
  try clear hfz9_1
  try clear p2
  obtain ⟨x11_2, rfl, HA, HK2, HO_7, HO_1385001, BK1384, HB⟩ := hrel
  cases gk with
  | zero => exact absurd HA.out (by simp [laws_FnLoadWalk.l0])
  | succ k2 =>
   have H := HA.out
   clear HA
   simp only [laws_FnLoadWalk.l0] at H
   by_cases c26 : x11_2 < (t1385.length : Int)
   ·rw [if_pos c26] at H
    have c26b0 : decide (x11_2 < (t1385.length : Int)) = true := decide_eq_true c26
    clear c26
    by_cases c27 : 0 ≤ x11_2
    rotate_left
    ·rw [if_neg c27] at H
     exact absurd H (by simp)
    rw [if_pos c27] at H
    have c27b0 : decide (0 ≤ x11_2) = true := decide_eq_true c27
    clear c27
    by_cases c28 : 0 ≤ (rd t1385 x11_2)
    rotate_left
    ·rw [if_neg c28] at H
     exact absurd H (by simp)
    rw [if_pos c28] at H
    have c28b0 : decide (0 ≤ (rd t1385 x11_2)) = true := decide_eq_true c28
    clear c28
    by_cases c29 : (rd t1385 x11_2) < (t1378.length : Int)
    rotate_left
    ·rw [if_neg c29] at H
     exact absurd H (by simp)
    rw [if_pos c29] at H
    have c29b0 : decide ((rd t1385 x11_2) < (t1378.length : Int)) = true := decide_eq_true c29
    clear c29
    by_cases c30 : ((rd_T41 t1378 (rd t1385 x11_2)).f4) < t1383
    ·rw [if_pos c30] at H
     have c30b0 : decide (((rd_T41 t1378 (rd t1385 x11_2)).f4) < t1383) = true := decide_eq_true c30
     clear c30
     exact absurd ((Option.some.inj H).trans hr_) Bool.false_ne_true
    rw [if_neg c30] at H
    have c30b0 : decide (((rd_T41 t1378 (rd t1385 x11_2)).f4) < t1383) = false := decide_eq_false c30
    clear c30
    have H' := Aside0.mk H
    clear H
    obtain ⟨Ao31, co31, eo31⟩ := Kd.R_slice HO_7.out
    subst eo31
    try go_wp2
    replace HO_7 := Aside0.mk (Kd.R_drew HO_7.out)
    replace HO_1385001 := Aside0.mk (Kd.R_drew HO_1385001.out)
    replace BK1384 := Aside0.mk (blk_drew BK1384.out)
    replace HB := Aside0.mk (below_drew1 HB.out)
    have p1395 : 0 ≤ (x11_2 : Int) := oT (by (with_reducible assumption))
    have q1395 : x11_2 < (t1385.length : Int) := oT (by (with_reducible assumption))
    obtain ⟨ad1395, e1395, hx1395_0⟩ := Kd.at_int (Kd.R_reads' HO_7.out).2.2 x11_2 p1395 q1395
    cases e1395
    replace p1395 := eq_true p1395
    replace q1395 := eq_true q1395
    have p1396 : 0 ≤ ((rd t1385 x11_2) : Int) := oT (by (with_reducible assumption))
    have q1396 : (rd t1385 x11_2) < (t1378.length : Int) := oT (by (with_reducible assumption))
    obtain ⟨ad1396, e1396, hx1396_0, hx1396_1, hx1396_2, hx1396_3, hx1396_4⟩ := at_T41 (Kd.R_reads' HO_1385001.out).2.2 (rd t1385 x11_2) p1396 q1396
    cases e1396
    replace p1396 := eq_true p1396
    replace q1396 := eq_true q1396
    refine start_ (n := 11) (S := fun w' => w'.cell? ⟨gb1384, 0, none⟩ = some (.int .i64 t1377) ∧ w'.cell? ⟨gb1384, 1, none⟩ = some (.slice (some ad1396) t1378.length co10) ∧ w'.cell? (ad1395.add (x11_2).toNat) = some (.int .i64 (rd t1385 x11_2)) ∧ w'.cell? (ad1396.add (((rd t1385 x11_2)).toNat * 5)) = some (.int .i64 ((rd_T41 t1378 (rd t1385 x11_2)).f0)) ∧ w'.cell? ⟨(ad1396.add (((rd t1385 x11_2)).toNat * 5)).block, (ad1396.add (((rd t1385 x11_2)).toNat * 5)).off + 1, none⟩ = some (.int .i64 ((rd_T41 t1378 (rd t1385 x11_2)).f1)) ∧ w'.cell? ⟨(ad1396.add (((rd t1385 x11_2)).toNat * 5)).block, (ad1396.add (((rd t1385 x11_2)).toNat * 5)).off + 2, none⟩ = some (.int .i64 ((rd_T41 t1378 (rd t1385 x11_2)).f2)) ∧ w'.cell? ⟨(ad1396.add (((rd t1385 x11_2)).toNat * 5)).block, (ad1396.add (((rd t1385 x11_2)).toNat * 5)).off + 3, none⟩ = some (.int .i64 ((rd_T41 t1378 (rd t1385 x11_2)).f3)) ∧ w'.cell? ⟨(ad1396.add (((rd t1385 x11_2)).toNat * 5)).block, (ad1396.add (((rd t1385 x11_2)).toNat * 5)).off + 4, none⟩ = some (.int .i64 ((rd_T41 t1378 (rd t1385 x11_2)).f4))) (ds := []) (ms 11 0) (by kernel_rfl) rfl (by kernel_rfl) ⟨(blk_cell BK1384.out 0).trans rfl, (blk_cell BK1384.out 1).trans rfl, hx1395_0, hx1396_0, hx1396_1, hx1396_2, hx1396_3, hx1396_4⟩ (fun hHeld => ?_); refine with_tabW laws_FnLoadWalk.tab11 laws_FnLoadWalk.bits11 (fun HT_ HW_ => ?_)
    generalize wr.drew = w32 at HO_7 HO_1385001 BK1384 HB hx1395_0 hx1396_0 hx1396_1 hx1396_2 hx1396_3 hx1396_4 hHeld ⊢
    refine pu 0 67 ?_ (ms 11 1) rfl rfl HT_ (by kernel_rfl) (fun _ _ _ h => h) (by rfl) ?_ ?_ ?_ ?_
    rotate_left
    ·intro w'
     go_simp
     with_reducible rfl
    rotate_left
    ·simp only [SX]
     rfl
    refine pu 2 69 ?_ (ms 11 5) rfl rfl HT_ (by kernel_rfl) (fun _ _ _ h => h) (by rfl) ?_ ?_ ?_ ?_
    rotate_left
    ·intro w'
     go_simp
     with_reducible rfl
    rotate_left
    ·simp only [SX]
     rfl
    refine pu 3 70 ?_ (ms 11 13) rfl rfl HT_ (by kernel_rfl) (fun _ _ _ h => h) (by rfl) ?_ ?_ ?_ ?_
    rotate_left
    ·intro w'
     go_simp
     with_reducible rfl
    rotate_left
    ·simp only [SX]
     rfl
    refine pu 4 71 ?_ (ms 11 29) rfl rfl HT_ (by kernel_rfl) (fun _ _ _ h => h) (by rfl) ?_ ?_ ?_ ?_
    rotate_left
    ·intro w'
     go_simp
     with_reducible rfl
    rotate_left
    ·simp only [SX]
     rfl
    refine pu 9 76 ?_ (ms 11 541) rfl rfl HT_ (by kernel_rfl) (fun _ _ _ h => h) (by rfl) ?_ ?_ ?_ ?_
    rotate_left
    ·intro w'
     go_simp
     with_reducible rfl
    rotate_left
    ·simp only [SX]
     rfl
    refine tk 1 68 ?_ (ms 11 543) rfl rfl HT_ HW_ (by kernel_rfl) (fun _ _ _ h => h) (by rfl) ?_ hHeld ?_ ?_ ?_
    rotate_left
    ·rintro w' ⟨s0, s1, s2, s3, s4, s5, s6, s7⟩
     go_simp
     with_reducible rfl
    rotate_left
    ·simp only [SX]
     rfl
    refine tk 5 72 ?_ (ms 11 575) rfl rfl HT_ HW_ (by kernel_rfl) (fun _ _ _ h => h) (by rfl) ?_ hHeld ?_ ?_ ?_
    rotate_left
    ·rintro w' ⟨s0, s1, s2, s3, s4, s5, s6, s7⟩
     go_simp
     with_reducible rfl
    rotate_left
    ·simp only [SX]
     rfl
    refine pu 6 73 ?_ (ms 11 639) rfl rfl HT_ (by kernel_rfl) (fun _ _ _ h => h) (by rfl) ?_ ?_ ?_ ?_
    rotate_left
    ·intro w'
     go_simp
     with_reducible rfl
    rotate_left
    ·simp only [SX]
     rfl
    refine pu 7 74 ?_ (ms 11 767) rfl rfl HT_ (by kernel_rfl) (fun _ _ _ h => h) (by rfl) ?_ ?_ ?_ ?_
    rotate_left
    ·intro w'
     go_simp
     with_reducible rfl
    rotate_left
    ·simp only [SX]
     rfl
    refine tk 8 75 ?_ (ms 11 1023) rfl rfl HT_ HW_ (by kernel_rfl) (fun _ _ _ h => h) (by rfl) ?_ hHeld ?_ ?_ ?_
    rotate_left
    ·rintro w' ⟨s0, s1, s2, s3, s4, s5, s6, s7⟩
     go_simp
     with_reducible rfl
    rotate_left
    ·simp only [SX]
     rfl
    refine pu 10 77 ?_ (ms 11 2047) rfl rfl HT_ (by kernel_rfl) (fun _ _ _ h => h) (by rfl) ?_ ?_ ?_ ?_
    rotate_left
    ·intro w'
     go_simp
     with_reducible rfl
    rotate_left
    ·simp only [SX]
     rfl
    refine done_ (done_of HT_.out (by kernel_rfl)) ?_
    try go_wp2
    go_roundg k2
    case measure => have := HJ5.out; have := HK2.out; omega
    case rel => exact ⟨(wrap64 (x11_2 + 1)), (by rfl), H', ⟨by have := HJ5.out; have := HK2.out; omega⟩, ⟨rk HO_7⟩, ⟨rk HO_1385001⟩, ⟨bk BK1384⟩, ⟨bl1 HB GE1384⟩⟩
   rw [if_neg c26] at H
   have c26b0 : decide (x11_2 < (t1385.length : Int)) = false := decide_eq_false c26
   clear c26
   replace H := Option.bind_eq_some_iff.mp H
   obtain ⟨⟨t1397, t1400⟩, A330, H⟩ := H
   have A33 := Aside0.mk A330
   clear A330
   replace H := Option.bind_eq_some_iff.mp H
   obtain ⟨t1401, A340, H⟩ := H
   have A34 := Aside0.mk A340
   clear A340
   by_cases c35 : t1401 = true
   rotate_left
   ·replace c35 := Bool.eq_false_iff.mpr c35
    subst c35
    rw [if_neg (show ¬ (false = true) by decide)] at H
    exact absurd ((Option.some.inj H).trans hr_) Bool.false_ne_true
   subst c35
   rw [if_pos rfl] at H
   replace H := Option.bind_eq_some_iff.mp H
   obtain ⟨t1402, A360, H⟩ := H
   have A36 := Aside0.mk A360
   clear A360
   replace H := Option.bind_eq_some_iff.mp H
   obtain ⟨⟨t1403, t1404⟩, A370, H⟩ := H
   have A37 := Aside0.mk A370
   clear A370
   replace H := Option.bind_eq_some_iff.mp H
   obtain ⟨t1407, A380, H⟩ := H
   have A38 := Aside0.mk A380
   clear A380
   by_cases c39 : 0 ≤ t1382
   rotate_left
   ·rw [if_neg c39] at H
    exact absurd H (by simp)
   rw [if_pos c39] at H
   have c39b0 : decide (0 ≤ t1382) = true := decide_eq_true c39
   clear c39
   by_cases c40 : t1382 < (t1407.length : Int)
   rotate_left
   ·rw [if_neg c40] at H
    exact absurd H (by simp)
   rw [if_pos c40] at H
   have c40b0 : decide (t1382 < (t1407.length : Int)) = true := decide_eq_true c40
   clear c40
   by_cases c41 : t1402 = (rd t1407 t1382)
   rotate_left
   ·rw [if_neg c41] at H
    have c41b0 : (t1402 == (rd t1407 t1382)) = false := beq_eq_false_iff_ne.mpr c41
    have c41b1 : (t1402 != (rd t1407 t1382)) = true := bne_iff_ne.mpr c41
    exact absurd ((Option.some.inj H).trans hr_) Bool.false_ne_true
   rw [if_pos c41] at H
   have c41b0 : (t1402 == (rd t1407 t1382)) = true := beq_iff_eq.mpr c41
   have c41b1 : (t1402 != (rd t1407 t1382)) = false := bne_eq_false_iff_eq.mpr c41
   clear c41
   replace H := Option.bind_eq_some_iff.mp H
   obtain ⟨t1411, A420, H⟩ := H
   have A42 := Aside0.mk A420
   clear A420
   replace H := Option.bind_eq_some_iff.mp H
   obtain ⟨t1412, A430, H⟩ := H
   have A43 := Aside0.mk A430
   clear A430
   obtain rfl := Option.some.inj H
   obtain ⟨Ao44, co44, eo44⟩ := Kd.R_slice HO_7.out
   subst eo44
   have hcz45_0 := bc wr BK1384 0 (.int .i64 t1377) rfl
   have hcz45_1 := bc wr BK1384 1 (.slice Ao10 t1378.length co10) rfl
   have hfz45_0 := fz BK1384 0
   have hfz45_1 := fz BK1384 1
   try go_wp2_with (((with_reducible refine gate_callee (f := 46) rfl ?_); refine goesL_ (some 82) rfl rfl Try.func46 (by kernel_rfl) rfl #[.agg #[.int .i64 t1377, .slice Ao10 t1378.length co10], .int .i64 t1381, .int .i64 t1382] rfl (by (try simp only [List.map_toArray, List.map_cons, List.map_nil]); rfl) ?_; (with_reducible refine (impl_NearWalk.calls k2 t1377 _ _ t1378 t1381 t1382 t1397 t1400 _ ?side1 ?side2 A33.out).mono ?_); (case side1 => repeat (exact (Kd.R_reads' HO_1385001.out).2.2)); (case side2 => exact (Kd.R_reads' HO_1385001.out).2.1); rintro e w46 ⟨v1398, rfl, ho0, hb⟩; refine ⟨_, rfl, ?_⟩; replace HO_1385001 := Aside0.mk (Kd.R_below (rk HO_1385001) hb); have HO1399 := Aside0.mk (Kd.R_lower (Kd.R_new' ho0 (Kd.R_lt (rk HO_7))) (below_size (bl1 HB GE1384))); replace HO_7 := Aside0.mk (Kd.R_elder' (rk HO_7) (Kd.R_base ho0) hb); replace BK1384 := Aside0.mk (blk_below (bk BK1384) hb); replace HB := Aside0.mk (below_step (bl1 HB GE1384) hb); (try clear hb); (try clear hb2); (try clear hk); (try clear hi); (try clear ho0)))
   replace HO_7 := Aside0.mk (Kd.R_drew HO_7.out)
   replace HO_1385001 := Aside0.mk (Kd.R_drew HO_1385001.out)
   replace HO1399 := Aside0.mk (Kd.R_drew HO1399.out)
   replace BK1384 := Aside0.mk (blk_drew BK1384.out)
   replace HB := Aside0.mk (below_drew1 HB.out)
   refine start_ (n := 29) (S := fun w' => w'.cell? ⟨gb1384, 0, none⟩ = some (.int .i64 t1377) ∧ w'.cell? ⟨gb1384, 1, none⟩ = some (.slice Ao10 t1378.length co10)) (ds := []) (ms 29 0) (by kernel_rfl) rfl (by kernel_rfl) ⟨(blk_cell BK1384.out 0).trans rfl, (blk_cell BK1384.out 1).trans rfl⟩ (fun hHeld => ?_); refine with_tabW laws_FnLoadWalk.tab14 laws_FnLoadWalk.bits14 (fun HT_ HW_ => ?_)
   generalize w46.drew = w47 at HO_7 HO_1385001 HO1399 BK1384 HB hHeld ⊢
   refine pu 1 86 ?_ (ms 29 2) rfl rfl HT_ (by kernel_rfl) (fun _ _ _ h => h) (by rfl) ?_ ?_ ?_ ?_
   rotate_left
   ·intro w'
    go_simp
    with_reducible rfl
   rotate_left
   ·simp only [SX]
    rfl
   refine pu 2 87 ?_ (ms 29 6) rfl rfl HT_ (by kernel_rfl) (fun _ _ _ h => h) (by rfl) ?_ ?_ ?_ ?_
   rotate_left
   ·intro w'
    go_simp
    with_reducible rfl
   rotate_left
   ·simp only [SX]
    rfl
   refine pu 3 88 ?_ (ms 29 14) rfl rfl HT_ (by kernel_rfl) (fun _ _ _ h => h) (by rfl) ?_ ?_ ?_ ?_
   rotate_left
   ·intro w'
    go_simp
    with_reducible rfl
   rotate_left
   ·simp only [SX]
    rfl
   refine tk 0 85 ?_ (ms 29 15) rfl rfl HT_ HW_ (by kernel_rfl) (fun _ _ _ h => h) (by rfl) ?_ hHeld ?_ ?_ ?_
   rotate_left
   ·rintro w' ⟨s0, s1⟩
    go_simp
    with_reducible rfl
   rotate_left
   ·simp only [SX]
    rfl
   refine one_ (i := 4) (N := some 89) (ms 29 31) rfl rfl (one_of HT_.out (by kernel_rfl)) (by decide) (fun K hK => ?_)
   refine goes_ Try.func47 (by kernel_rfl) rfl #[.agg #[.int .i64 t1377, .slice Ao10 t1378.length co10], .slice Ao44 t1385.length co44, .int .i64 t1381, .int .i64 t1382] (by rfl) rfl rfl (by (try simp only [List.map_toArray, List.map_cons, List.map_nil]); rfl) ?_
   with_reducible refine (laws_wkEnds.calls k2 t1377 _ _ t1378 _ _ t1385 t1381 t1382 true _ ?side1 ?side2 ?side3 ?side4 A34.out).mono ?_
   (case side1 => repeat (exact (Kd.R_reads' HO_1385001.out).2.2))
   (case side2 => exact (Kd.R_reads' HO_1385001.out).2.1)
   (case side3 => repeat (exact (Kd.R_reads' HO_7.out).2.2))
   (case side4 => exact (Kd.R_reads' HO_7.out).2.1)
   rintro e w48 ⟨rfl, hb⟩
   refine ⟨_, rfl, ?_⟩
   replace HO_7 := Aside0.mk (Kd.R_below (rk HO_7) hb)
   replace HO_1385001 := Aside0.mk (Kd.R_below (rk HO_1385001) hb)
   replace HO1399 := Aside0.mk (Kd.R_below (rk HO1399) hb)
   replace BK1384 := Aside0.mk (blk_below (bk BK1384) hb)
   replace HB := Aside0.mk (below_step (bl1 HB GE1384) hb)
   (try clear hb)
   (try clear hb2)
   (try clear hk)
   (try clear hi)
   refine hK.out _ _ ⟨(blk_cell BK1384.out 0).trans rfl, (blk_cell BK1384.out 1).trans rfl⟩ (fun hHeld => ?_)
   clear hK K
   refine norm_ (a' := ?_) ?_ ?_
   rotate_left
   ·show Act.put _ (some 89) _ = _
    simp only [SX]
    rfl
   refine pu 5 90 ?_ (ms 29 63) rfl rfl HT_ (by kernel_rfl) (fun _ _ _ h => h) (by rfl) ?_ ?_ ?_ ?_
   rotate_left
   ·intro w'
    go_simp
    with_reducible rfl
   rotate_left
   ·simp only [SX]
    rfl
   refine pu 7 92 ?_ (ms 29 191) rfl rfl HT_ (by kernel_rfl) (fun _ _ _ h => h) (by rfl) ?_ ?_ ?_ ?_
   rotate_left
   ·intro w'
    go_simp
    with_reducible rfl
   rotate_left
   ·simp only [SX]
    rfl
   refine pu 10 95 ?_ (ms 29 1215) rfl rfl HT_ (by kernel_rfl) (fun _ _ _ h => h) (by rfl) ?_ ?_ ?_ ?_
   rotate_left
   ·intro w'
    go_simp
    with_reducible rfl
   rotate_left
   ·simp only [SX]
    rfl
   refine pu 12 97 ?_ (ms 29 5311) rfl rfl HT_ (by kernel_rfl) (fun _ _ _ h => h) (by rfl) ?_ ?_ ?_ ?_
   rotate_left
   ·intro w'
    go_simp
    with_reducible rfl
   rotate_left
   ·simp only [SX]
    rfl
   refine pu 14 99 ?_ (ms 29 21695) rfl rfl HT_ (by kernel_rfl) (fun _ _ _ h => h) (by rfl) ?_ ?_ ?_ ?_
   rotate_left
   ·intro w'
    go_simp
    with_reducible rfl
   rotate_left
   ·simp only [SX]
    rfl
   refine tk 6 91 ?_ (ms 29 21759) rfl rfl HT_ HW_ (by kernel_rfl) (fun _ _ _ h => h) (by rfl) ?_ hHeld ?_ ?_ ?_
   rotate_left
   ·rintro w' ⟨s0, s1⟩
    go_simp
    with_reducible rfl
   rotate_left
   ·simp only [SX]
    rfl
   refine tk 9 94 ?_ (ms 29 22271) rfl rfl HT_ HW_ (by kernel_rfl) (fun _ _ _ h => h) (by rfl) ?_ hHeld ?_ ?_ ?_
   rotate_left
   ·rintro w' ⟨s0, s1⟩
    go_simp
    with_reducible rfl
   rotate_left
   ·simp only [SX]
    rfl
   refine one_ (i := 8) (N := some 93) (ms 29 22527) rfl rfl (one_of HT_.out (by kernel_rfl)) (by decide) (fun K hK => ?_)
   refine goes_ Try.func48 (by kernel_rfl) rfl #[.agg #[.int .i64 t1377, .slice Ao10 t1378.length co10], .slice Ao44 t1385.length co44] (by rfl) rfl rfl (by (try simp only [List.map_toArray, List.map_cons, List.map_nil]); rfl) ?_
   with_reducible refine (impl_WalkCost.calls k2 t1377 _ _ t1378 _ _ t1385 t1402 _ ?side1 ?side2 ?side3 ?side4 A36.out).mono ?_
   (case side1 => repeat (exact (Kd.R_reads' HO_1385001.out).2.2))
   (case side2 => exact (Kd.R_reads' HO_1385001.out).2.1)
   (case side3 => repeat (exact (Kd.R_reads' HO_7.out).2.2))
   (case side4 => exact (Kd.R_reads' HO_7.out).2.1)
   rintro e w49 ⟨rfl, hb⟩
   refine ⟨_, rfl, ?_⟩
   replace HO_7 := Aside0.mk (Kd.R_below (rk HO_7) hb)
   replace HO_1385001 := Aside0.mk (Kd.R_below (rk HO_1385001) hb)
   replace HO1399 := Aside0.mk (Kd.R_below (rk HO1399) hb)
   replace BK1384 := Aside0.mk (blk_below (bk BK1384) hb)
   replace HB := Aside0.mk (below_step (bl1 HB GE1384) hb)
   (try clear hb)
   (try clear hb2)
   (try clear hk)
   (try clear hi)
   refine hK.out _ _ ⟨(blk_cell BK1384.out 0).trans rfl, (blk_cell BK1384.out 1).trans rfl⟩ (fun hHeld => ?_)
   clear hK K
   refine norm_ (a' := ?_) ?_ ?_
   rotate_left
   ·show Act.put _ (some 93) _ = _
    simp only [SX]
    rfl
   refine one_ (i := 11) (N := some 96) (ms 29 24575) rfl rfl (one_of HT_.out (by kernel_rfl)) (by decide) (fun K hK => ?_)
   refine goes_ Try.func24 (by kernel_rfl) rfl #[.agg #[.int .i64 t1377, .slice Ao10 t1378.length co10], .int .i64 t1383] (by rfl) rfl rfl (by (try simp only [List.map_toArray, List.map_cons, List.map_nil]); rfl) ?_
   with_reducible refine (impl_LoadNet.calls k2 t1377 _ _ t1378 t1383 t1403 t1404 _ ?side1 ?side2 A37.out).mono ?_
   (case side1 => repeat (exact (Kd.R_reads' HO_1385001.out).2.2))
   (case side2 => exact (Kd.R_reads' HO_1385001.out).2.1)
   rintro e w50 ⟨v1405, rfl, ho0, hb⟩
   refine ⟨_, rfl, ?_⟩
   replace HO_7 := Aside0.mk (Kd.R_below (rk HO_7) hb)
   replace HO1399 := Aside0.mk (Kd.R_below (rk HO1399) hb)
   have HO1406 := Aside0.mk (Kd.R_lower (Kd.R_new' ho0 (Kd.R_lt (rk HO_1385001))) (below_size (bl1 HB GE1384)))
   replace HO_1385001 := Aside0.mk (Kd.R_elder' (rk HO_1385001) (Kd.R_base ho0) hb)
   replace BK1384 := Aside0.mk (blk_below (bk BK1384) hb)
   replace HB := Aside0.mk (below_step (bl1 HB GE1384) hb)
   (try clear hb)
   (try clear hb2)
   (try clear hk)
   (try clear hi)
   (try clear ho0)
   obtain ⟨Ao51, co51, eo51⟩ := Kd.R_slice HO1406.out
   (subst eo51)
   refine hK.out _ _ ⟨(blk_cell BK1384.out 0).trans rfl, (blk_cell BK1384.out 1).trans rfl⟩ (fun hHeld => ?_)
   clear hK K
   refine norm_ (a' := ?_) ?_ ?_
   rotate_left
   ·show Act.put _ (some 96) _ = _
    simp only [SX]
    rfl
   refine one_ (i := 13) (N := some 98) (ms 29 32767) rfl rfl (one_of HT_.out (by kernel_rfl)) (by decide) (fun K hK => ?_)
   refine goes_ Try.func18 (by kernel_rfl) rfl #[.agg #[.int .i64 t1403, .slice Ao51 t1404.length co51], .int .i64 t1381] (by rfl) rfl rfl (by (try simp only [List.map_toArray, List.map_cons, List.map_nil]); rfl) ?_
   with_reducible refine (impl_NearAll.calls k2 t1403 _ _ t1404 t1381 t1407 _ ?side1 ?side2 A38.out).mono ?_
   (case side1 => repeat (exact (Kd.R_reads' HO1406.out).2.2))
   (case side2 => exact (Kd.R_reads' HO1406.out).2.1)
   rintro e w52 ⟨v1408, rfl, ho0, hb⟩
   refine ⟨_, rfl, ?_⟩
   replace HO_1385001 := Aside0.mk (Kd.R_below (rk HO_1385001) hb)
   replace HO1406 := Aside0.mk (Kd.R_below (rk HO1406) hb)
   have HO1409 := Aside0.mk (Kd.R_lower (Kd.R_new' (Kd.R_new' ho0 (Kd.R_lt (rk HO_7))) (Kd.R_lt (rk HO1399))) (below_size (bl1 HB GE1384)))
   replace HO_7 := Aside0.mk (Kd.R_elder' (rk HO_7) (Kd.R_base ho0) hb)
   replace HO1399 := Aside0.mk (Kd.R_elder' (rk HO1399) (Kd.R_base ho0) hb)
   replace BK1384 := Aside0.mk (blk_below (bk BK1384) hb)
   replace HB := Aside0.mk (below_step (bl1 HB GE1384) hb)
   (try clear hb)
   (try clear hb2)
   (try clear hk)
   (try clear hi)
   (try clear ho0)
   obtain ⟨Ao53, co53, eo53⟩ := Kd.R_slice HO1409.out
   (subst eo53)
   have p1410 : 0 ≤ (t1382 : Int) := oT (by (with_reducible assumption))
   have q1410 : t1382 < (t1407.length : Int) := oT (by (with_reducible assumption))
   obtain ⟨ad1410, e1410, hx1410_0⟩ := Kd.at_int (Kd.R_reads' HO1409.out).2.2 t1382 p1410 q1410
   cases e1410
   replace p1410 := eq_true p1410
   replace q1410 := eq_true q1410
   refine hK.out _ _ ⟨(blk_cell BK1384.out 0).trans rfl, (blk_cell BK1384.out 1).trans rfl⟩ (fun hHeld => ?_)
   refine laws_FnLoadWalk.restart (S' := fun w' => w'.cell? ⟨gb1384, 0, none⟩ = some (.int .i64 t1377) ∧ w'.cell? ⟨gb1384, 1, none⟩ = some (.slice Ao10 t1378.length co10) ∧ w'.cell? (ad1410.add (t1382).toNat) = some (.int .i64 (rd t1407 t1382))) (fun w' h_ => ⟨h_.1, h_.2.1⟩) ⟨hHeld.1, hHeld.2, hx1410_0⟩ (fun hHeld => ?_)
   clear hK K
   refine norm_ (a' := ?_) ?_ ?_
   rotate_left
   ·show Act.put _ (some 98) _ = _
    simp only [SX]
    rfl
   refine pu 15 100 ?_ (ms 29 65535) rfl rfl HT_ (by kernel_rfl) (fun _ _ _ h => h) (by rfl) ?_ ?_ ?_ ?_
   rotate_left
   ·intro w'
    go_simp
    with_reducible rfl
   rotate_left
   ·simp only [SX]
    rfl
   refine tk 16 101 ?_ (ms 29 131071) rfl rfl HT_ HW_ (by kernel_rfl) (fun _ _ _ h => h) (by rfl) ?_ hHeld ?_ ?_ ?_
   rotate_left
   ·rintro w' ⟨s0, s1, s2⟩
    go_simp
    with_reducible rfl
   rotate_left
   ·simp only [SX]
    rfl
   refine pu 17 102 ?_ (ms 29 262143) rfl rfl HT_ (by kernel_rfl) (fun _ _ _ h => h) (by rfl) ?_ ?_ ?_ ?_
   rotate_left
   ·intro w'
    go_simp
    with_reducible rfl
   rotate_left
   ·simp only [SX]
    rfl
   refine pu 18 103 ?_ (ms 29 524287) rfl rfl HT_ (by kernel_rfl) (fun _ _ _ h => h) (by rfl) ?_ ?_ ?_ ?_
   rotate_left
   ·intro w'
    go_simp
    with_reducible rfl
   rotate_left
   ·simp only [SX]
    rfl
   refine pu 19 104 ?_ (ms 29 1048575) rfl rfl HT_ (by kernel_rfl) (fun _ _ _ h => h) (by rfl) ?_ ?_ ?_ ?_
   rotate_left
   ·intro w'
    go_simp
    with_reducible rfl
   rotate_left
   ·simp only [SX]
    rfl
   refine pu 21 106 ?_ (ms 29 3145727) rfl rfl HT_ (by kernel_rfl) (fun _ _ _ h => h) (by rfl) ?_ ?_ ?_ ?_
   rotate_left
   ·intro w'
    go_simp
    with_reducible rfl
   rotate_left
   ·simp only [SX]
    rfl
   refine pu 24 109 ?_ (ms 29 19922943) rfl rfl HT_ (by kernel_rfl) (fun _ _ _ h => h) (by rfl) ?_ ?_ ?_ ?_
   rotate_left
   ·intro w'
    go_simp
    with_reducible rfl
   rotate_left
   ·simp only [SX]
    rfl
   refine tk 20 105 ?_ (ms 29 20971519) rfl rfl HT_ HW_ (by kernel_rfl) (fun _ _ _ h => h) (by rfl) ?_ hHeld ?_ ?_ ?_
   rotate_left
   ·rintro w' ⟨s0, s1, s2⟩
    go_simp
    with_reducible rfl
   rotate_left
   ·simp only [SX]
    rfl
   refine tk 23 108 ?_ (ms 29 29360127) rfl rfl HT_ HW_ (by kernel_rfl) (fun _ _ _ h => h) (by rfl) ?_ hHeld ?_ ?_ ?_
   rotate_left
   ·rintro w' ⟨s0, s1, s2⟩
    go_simp
    with_reducible rfl
   rotate_left
   ·simp only [SX]
    rfl
   refine one_ (i := 22) (N := some 107) (ms 29 33554431) rfl rfl (one_of HT_.out (by kernel_rfl)) (by decide) (fun K hK => ?_)
   refine goes_ Try.func48 (by kernel_rfl) rfl #[.agg #[.int .i64 t1377, .slice Ao10 t1378.length co10], .slice Ao44 t1385.length co44] (by rfl) rfl rfl (by (try simp only [List.map_toArray, List.map_cons, List.map_nil]); rfl) ?_
   with_reducible refine (impl_WalkCost.calls k2 t1377 _ _ t1378 _ _ t1385 t1411 _ ?side1 ?side2 ?side3 ?side4 A42.out).mono ?_
   (case side1 => repeat (exact (Kd.R_reads' HO_1385001.out).2.2))
   (case side2 => exact (Kd.R_reads' HO_1385001.out).2.1)
   (case side3 => repeat (exact (Kd.R_reads' HO_7.out).2.2))
   (case side4 => exact (Kd.R_reads' HO_7.out).2.1)
   rintro e w54 ⟨rfl, hb⟩
   have HS2_ := (hb.cell (World.block_lt_of_cell? _ _ (hHeld.2.2))).trans (hHeld.2.2)
   refine ⟨_, rfl, ?_⟩
   replace HO_7 := Aside0.mk (Kd.R_below (rk HO_7) hb)
   replace HO_1385001 := Aside0.mk (Kd.R_below (rk HO_1385001) hb)
   replace HO1399 := Aside0.mk (Kd.R_below (rk HO1399) hb)
   replace HO1406 := Aside0.mk (Kd.R_below (rk HO1406) hb)
   replace HO1409 := Aside0.mk (Kd.R_below (rk HO1409) hb)
   replace BK1384 := Aside0.mk (blk_below (bk BK1384) hb)
   replace HB := Aside0.mk (below_step (bl1 HB GE1384) hb)
   (try clear hb)
   (try clear hb2)
   (try clear hk)
   (try clear hi)
   obtain ⟨Ao55, co55, eo55⟩ := Kd.R_slice HO1399.out
   (subst eo55)
   refine hK.out _ _ ⟨(blk_cell BK1384.out 0).trans rfl, (blk_cell BK1384.out 1).trans rfl, HS2_⟩ (fun hHeld => ?_)
   clear hK K
   refine norm_ (a' := ?_) ?_ ?_
   rotate_left
   ·show Act.put _ (some 107) _ = _
    simp only [SX]
    rfl
   refine one_ (i := 25) (N := some 110) (ms 29 67108863) rfl rfl (one_of HT_.out (by kernel_rfl)) (by decide) (fun K hK => ?_)
   refine goes_ Try.func48 (by kernel_rfl) rfl #[.agg #[.int .i64 t1377, .slice Ao10 t1378.length co10], .slice Ao55 t1397.length co55] (by rfl) rfl rfl (by (try simp only [List.map_toArray, List.map_cons, List.map_nil]); rfl) ?_
   with_reducible refine (impl_WalkCost.calls k2 t1377 _ _ t1378 _ _ t1397 t1412 _ ?side1 ?side2 ?side3 ?side4 A43.out).mono ?_
   (case side1 => repeat (exact (Kd.R_reads' HO_1385001.out).2.2))
   (case side2 => exact (Kd.R_reads' HO_1385001.out).2.1)
   (case side3 => repeat (exact (Kd.R_reads' HO1399.out).2.2))
   (case side4 => exact (Kd.R_reads' HO1399.out).2.1)
   rintro e w56 ⟨rfl, hb⟩
   have HS2_ := (hb.cell (World.block_lt_of_cell? _ _ (hHeld.2.2))).trans (hHeld.2.2)
   refine ⟨_, rfl, ?_⟩
   replace HO_7 := Aside0.mk (Kd.R_below (rk HO_7) hb)
   replace HO_1385001 := Aside0.mk (Kd.R_below (rk HO_1385001) hb)
   replace HO1399 := Aside0.mk (Kd.R_below (rk HO1399) hb)
   replace HO1406 := Aside0.mk (Kd.R_below (rk HO1406) hb)
   replace HO1409 := Aside0.mk (Kd.R_below (rk HO1409) hb)
   replace BK1384 := Aside0.mk (blk_below (bk BK1384) hb)
   replace HB := Aside0.mk (below_step (bl1 HB GE1384) hb)
   (try clear hb)
   (try clear hb2)
   (try clear hk)
   (try clear hi)
   refine hK.out _ _ ⟨(blk_cell BK1384.out 0).trans rfl, (blk_cell BK1384.out 1).trans rfl, HS2_⟩ (fun hHeld => ?_)
   clear hK K
   refine norm_ (a' := ?_) ?_ ?_
   rotate_left
   ·show Act.put _ (some 110) _ = _
    simp only [SX]
    rfl
   refine pu 26 111 ?_ (ms 29 134217727) rfl rfl HT_ (by kernel_rfl) (fun _ _ _ h => h) (by rfl) ?_ ?_ ?_ ?_
   rotate_left
   ·intro w'
    go_simp
    with_reducible rfl
   rotate_left
   ·simp only [SX]
    rfl
   refine pu 27 112 ?_ (ms 29 268435455) rfl rfl HT_ (by kernel_rfl) (fun _ _ _ h => h) (by rfl) ?_ ?_ ?_ ?_
   rotate_left
   ·intro w'
    go_simp
    with_reducible rfl
   rotate_left
   ·simp only [SX]
    rfl
   refine pu 28 2 ?_ (ms 29 536870911) rfl rfl HT_ (by kernel_rfl) (fun _ _ _ h => h) (by rfl) ?_ ?_ ?_ ?_
   rotate_left
   ·intro w'
    go_simp
    with_reducible rfl
   rotate_left
   ·simp only [SX]
    rfl
   refine done_ (done_of HT_.out (by kernel_rfl)) ?_
   try go_wp2
   go_ret
   exact ⟨by (simp [*, errW_none, errW_some] <;> rfl), bl1 HB GE1384⟩

/-- THE ONE PURE STATEMENT of laws_FnLoadWalk: yours. -/
def laws_FnLoadWalk.Pure : Prop := ∀ (l0 : List Int), l0.length ≤ maxLen → l0.length * 1 ≤ 140737488351232 → (∀ x ∈ l0, (Lit.int .u8 x).wf = true) → ∃ k, laws_FnLoadWalk.f k l0 = some true
theorem laws_FnLoadWalk.walk (P : laws_FnLoadWalk.Pure) (a0 : Option Addr) (len0 cap0 : Nat) (z0 : List Int) (w : World) (w0 : (a0 = none ∧ len0 = 0 ∧ cap0 = 0 ∧ z0 = []) ∨ ∃ x, a0 = some x ∧ len0 ≤ cap0 ∧ cap0 ≤ maxLen ∧ z0.length = cap0 ∧ (∀ i, i < z0.length → w.cell? (x.add i) = some (.int .u8 (z0.getD i 0))) ∧ ∀ n ∈ z0, (Lit.int .u8 n).wf = true) (y0 : len0 * 1 ≤ 140737488351232) :
  Calls Try.prog 13 #[.slice a0 len0 cap0] w fun e w' => e = .returned (.bool true) ∧ Below w.heap.size w w' := by
 obtain ⟨l0, rfl, hr0, hm0, hw0, hc0⟩ := ReadsInt.ofRowC w0
 obtain ⟨k, h⟩ := P l0 hm0 y0 hw0
 refine (laws_FnLoadWalk.calls k _ _ l0 true w (Kd.C_of_reads (d := (0 : Int)) (h1 := fun _ => rfl) hr0) hc0 h rfl).mono ?_
 rintro e w' ⟨rfl, hd⟩
 exact ⟨rfl, hd⟩

end Go.Proofs.Ytgickejeakmenaa.F
