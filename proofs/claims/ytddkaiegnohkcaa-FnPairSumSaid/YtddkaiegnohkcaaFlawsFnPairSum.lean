-- Printed by wip/px/px.py of this claim's repository (the kit's printer, extended there). Lean checks it.
import Derived.Test.YtddkaiegnohkcaaFKinds
import Derived.Test.YtddkaiegnohkcaaFimplPairAll
import Derived.Test.YtddkaiegnohkcaaFimplNearAll
import Derived.Test.YtddkaiegnohkcaaFspecDrawPairSum
import Derived.Test.YtddkaiegnohkcaaFimplPairSum
import Derived.Test.YtddkaiegnohkcaaFspecPairSum
namespace Go.Proofs.Ytddkaiegnohkcaa.F
open Go.RowKit Go.Proofs.YtddkaiegnohkcaaW.PrintWords Go.Proofs.YtddkaiegnohkcaaW.PrintLast Go.Proofs.YtddkaiegnohkcaaW.PrintMore
attribute [local go_sem] max2_int min2_int max_two min_two max_three min_three max_four min_four   -- for this text's walks alone
set_option linter.unusedVariables false
set_option linter.unusedSimpArgs false

/-! ### laws_FnPairSum: function 8 -/
mutual
def laws_FnPairSum.j0 : Nat → Int → Int → Int → Int → Int → Bool → Int → List (S33) → Option (Bool)
 | 0, _, _, _, _, _, _, _, _ => none
 | k + 1, x4, x5, x6, x7, x8, x41, x368000, x368001 => if x41 = true then ((spec_PairSum.f k x368000 x368001 x4 x5 x6 x7).bind fun t370 => (some (x8 == t370))) else ((impl_PairAll.f k x368000 x368001 x4 x5).bind fun t371 => (laws_FnPairSum.l0 k x4 x5 x6 x7 x8 t371 false 0 x368000 x368001))
def laws_FnPairSum.l0 : Nat → Int → Int → Int → Int → Int → List (S35) → Bool → Int → Int → List (S33) → Option (Bool)
 | 0, _, _, _, _, _, _, _, _, _, _ => none
 | k + 1, x4, x5, x6, x7, x8, x9, x10, x11, x368000, x368001 => if x11 < (x9.length : Int) then (if 0 ≤ x11 then (if x10 = true then (if (wrap64 ((wrap64 (((rd_T35 x9 x11).f0) * x6)) + (wrap64 (((rd_T35 x9 x11).f1) * x7)))) < x8 then (some false) else (laws_FnPairSum.l0 k x4 x5 x6 x7 x8 x9 true (wrap64 (x11 + 1)) x368000 x368001)) else (if (wrap64 ((wrap64 (((rd_T35 x9 x11).f0) * x6)) + (wrap64 (((rd_T35 x9 x11).f1) * x7)))) < x8 then (some false) else (laws_FnPairSum.l0 k x4 x5 x6 x7 x8 x9 ((wrap64 ((wrap64 (((rd_T35 x9 x11).f0) * x6)) + (wrap64 (((rd_T35 x9 x11).f1) * x7)))) == x8) (wrap64 (x11 + 1)) x368000 x368001))) else (none)) else (if x10 = true then ((impl_PairSum.f k x368000 x368001 x4 x5 100 0).bind fun t376 => ((impl_NearAll.f k x368000 x368001 x4).bind fun t377 => (if 0 ≤ x5 then (if x5 < (t377.length : Int) then (some (t376 == (wrap64 (100 * (rd t377 x5))))) else (none)) else (none)))) else (some false))
end
def laws_FnPairSum.f (k : Nat) (l0 : List Int) : Option (Bool) := if (l0.length : Int) > 1048576 then (some true) else ((spec_DrawPairSum.f k l0).bind fun bt359 => ((impl_PairSum.f k bt359.1 bt359.2.1 bt359.2.2.1 bt359.2.2.2.1 bt359.2.2.2.2.1 bt359.2.2.2.2.2).bind fun t368 => ((spec_PairSum.f k bt359.1 bt359.2.1 bt359.2.2.1 bt359.2.2.2.1 bt359.2.2.2.2.1 bt359.2.2.2.2.2).bind fun t369 => (if t368 = t369 then (laws_FnPairSum.j0 k bt359.2.2.1 bt359.2.2.2.1 bt359.2.2.2.2.1 bt359.2.2.2.2.2 t368 (decide (t368 < 0)) bt359.1 bt359.2.1) else (laws_FnPairSum.j0 k bt359.2.2.1 bt359.2.2.2.1 bt359.2.2.2.2.1 bt359.2.2.2.2.2 t368 true bt359.1 bt359.2.1)))))
theorem laws_FnPairSum.mono_l : ∀ k, (∀ y0 y1 y2 y3 y4 y5 y6 y7, LeO (laws_FnPairSum.j0 k y0 y1 y2 y3 y4 y5 y6 y7) (laws_FnPairSum.j0 (k + 1) y0 y1 y2 y3 y4 y5 y6 y7)) ∧ (∀ y0 y1 y2 y3 y4 y5 y6 y7 y8 y9, LeO (laws_FnPairSum.l0 k y0 y1 y2 y3 y4 y5 y6 y7 y8 y9) (laws_FnPairSum.l0 (k + 1) y0 y1 y2 y3 y4 y5 y6 y7 y8 y9))
 | 0 => ⟨fun _ _ _ _ _ _ _ _ r h => by simp [laws_FnPairSum.j0] at h, fun _ _ _ _ _ _ _ _ _ _ r h => by simp [laws_FnPairSum.l0] at h⟩
 | k + 1 => by
  obtain ⟨ih0, ih1⟩ := laws_FnPairSum.mono_l k
  refine ⟨?_, ?_⟩
  ·intro y0 y1 y2 y3 y4 y5 y6 y7
   unfold laws_FnPairSum.j0
   repeat' first | (with_reducible exact ih1 _ _ _ _ _ _ _ _ _ _) | (with_reducible exact impl_PairAll.mono _ _ _ _ _) | (with_reducible exact spec_PairSum.mono _ _ _ _ _ _ _) | (with_reducible exact LeO.refl _) | (with_reducible refine LeO.ite ?_ ?_) | (with_reducible refine LeO.bind ?_ (fun _ => ?_))
  ·intro y0 y1 y2 y3 y4 y5 y6 y7 y8 y9
   unfold laws_FnPairSum.l0
   repeat' first | (with_reducible exact ih1 _ _ _ _ _ _ _ _ _ _) | (with_reducible exact impl_NearAll.mono _ _ _ _) | (with_reducible exact impl_PairSum.mono _ _ _ _ _ _ _) | (with_reducible exact LeO.refl _) | (with_reducible refine LeO.ite ?_ ?_) | (with_reducible refine LeO.bind ?_ (fun _ => ?_))
theorem laws_FnPairSum.mono : ∀ a0 k, LeO (laws_FnPairSum.f k a0) (laws_FnPairSum.f (k + 1) a0) := by
 intro a0 k
 obtain ⟨ih0, ih1⟩ := laws_FnPairSum.mono_l k
 unfold laws_FnPairSum.f
 repeat' first | (with_reducible exact ih0 _ _ _ _ _ _ _ _) | (with_reducible exact impl_PairSum.mono _ _ _ _ _ _ _) | (with_reducible exact spec_DrawPairSum.mono _ _) | (with_reducible exact spec_PairSum.mono _ _ _ _ _ _ _) | (with_reducible exact LeO.refl _) | (with_reducible refine LeO.ite ?_ ?_) | (with_reducible refine LeO.bind ?_ (fun _ => ?_))
def laws_FnPairSum.T12 : Bool × List (List Nat × List Nat) := (true, [([], []), ([], []), ([0, 1], [0, 1]), ([2], [2]), ([3], [3]), ([], []), ([4, 5], [4, 5]), ([], []), ([], []), ([7, 8], [7, 8]), ([9], [9]), ([10], [10]), ([], []), ([11, 12], [11, 12]), ([6, 13], [6, 13]), ([14, 0, 1, 2, 3, 4, 5, 6, 7, 8, 9, 10, 11, 12, 13, 14], [14])])
def laws_FnPairSum.B12 : List Nat := [0, 0, 3, 7, 15, 0, 63, 0, 0, 384, 896, 1920, 0, 8064, 16383, 32767]
theorem laws_FnPairSum.tab12 : rtab .any (opsOf Try.f8 12) = laws_FnPairSum.T12 := by kernel_rfl
theorem laws_FnPairSum.bits12 : waitsOk laws_FnPairSum.T12.2 laws_FnPairSum.B12 = true := by kernel_rfl
def laws_FnPairSum.T16 : Bool × List (List Nat × List Nat) := (true, [([], []), ([0], [0]), ([1], [1]), ([1], [1]), ([1], [1]), ([2, 3, 4, 1, 1], [1, 2, 3, 4]), ([1], [1]), ([1], [1]), ([6, 7, 5, 1], [1, 6, 7]), ([1], [1]), ([8, 9, 1], [1, 8, 9]), ([10, 1], [1, 10]), ([11, 1], [1, 11]), ([5, 12, 1], [1, 5, 12]), ([1, 13], [1, 13]), ([14, 8, 0, 1, 2, 3, 4, 5, 6, 7, 8, 9, 10, 11, 12, 13, 14], [14])])
def laws_FnPairSum.B16 : List Nat := [0, 1, 3, 3, 3, 31, 3, 3, 255, 3, 1023, 2047, 4095, 8191, 16383, 32767]
theorem laws_FnPairSum.tab16 : rtab .any (opsOf Try.f8 16) = laws_FnPairSum.T16 := by kernel_rfl
theorem laws_FnPairSum.bits16 : waitsOk laws_FnPairSum.T16.2 laws_FnPairSum.B16 = true := by kernel_rfl
theorem laws_FnPairSum.restart {P : Program} {md : Region.Mode} {ops : Array Oper} {Q : Exit → Act → World → Prop} {S S' : World → Prop} (h : ∀ w, S' w → S w) : ∀ {fuel : Nat} {l : Array Bool} {a : Act} {w : World}, S' w → (S' w → wpAnyLast P md ops Q S' [] fuel l a w) → wpAnyLast P md ops Q S [] fuel l a w := by
 have key : ∀ (fuel : Nat) (l : Array Bool) (a : Act) (w : World), S' w → wpAnyLast P md ops Q S' [] fuel l a w → wpAnyLast P md ops Q S [] fuel l a w := by
  intro fuel
  induction fuel with
  | zero => intro l a w _ hk; exact hk
  | succ n ih =>
   intro l a w hS hk
   refine ⟨hk.1, fun i hi => wpOp_mono (fun a' w' h' => ?_) (hk.2 i hi)⟩
   have h1 := h'.1 (by simp) hS
   exact ⟨fun _ _ => h _ h1, ih _ _ _ h1 h'.2⟩
 intro fuel l a w hS hk
 exact key fuel l a w hS (hk hS)
set_option maxHeartbeats 8000000 in
set_option maxRecDepth 100000 in
theorem laws_FnPairSum.calls (k : Nat) (A0 : Option Addr) (c0 : Nat) (l0 : List Int) (r : Bool) (w : World) (hr0 : Kd.C (Kd.int .u8) w A0 l0.length l0) (hc0 : l0.length ≤ c0) (h : laws_FnPairSum.f k l0 = some r) (hr_ : r = true) :
  Calls Try.prog 8 #[.slice A0 l0.length c0] w fun e w' => e = .returned (.bool r) ∧ Below w.heap.size w w' := by
 have hu25 := Try.underlying25
 have HR0 := ak hr0
 have HC0 := ak hc0
 clear hr0 hc0
 have HB := ak (Below.refl w.heap.size w)
 have H : (if (l0.length : Int) > 1048576 then (some true) else ((spec_DrawPairSum.f k l0).bind fun bt359 => ((impl_PairSum.f k bt359.1 bt359.2.1 bt359.2.2.1 bt359.2.2.2.1 bt359.2.2.2.2.1 bt359.2.2.2.2.2).bind fun t368 => ((spec_PairSum.f k bt359.1 bt359.2.1 bt359.2.2.1 bt359.2.2.2.1 bt359.2.2.2.2.1 bt359.2.2.2.2.2).bind fun t369 => (if t368 = t369 then (laws_FnPairSum.j0 k bt359.2.2.1 bt359.2.2.2.1 bt359.2.2.2.2.1 bt359.2.2.2.2.2 t368 (decide (t368 < 0)) bt359.1 bt359.2.1) else (laws_FnPairSum.j0 k bt359.2.2.1 bt359.2.2.2.1 bt359.2.2.2.2.1 bt359.2.2.2.2.2 t368 true bt359.1 bt359.2.1)))))) = some r := h
 clear h
 by_cases c2 : (l0.length : Int) > 1048576
 ·rw [if_pos c2] at H
  have c2b0 : decide (1048576 < (l0.length : Int)) = true := decide_eq_true c2
  have c2b1 : decide (1048576 < l0.length) = true := decide_eq_true (by omega)
  clear c2
  obtain rfl := Option.some.inj H
  go_enter Try.func8, Try.ntmps8
  go_wp2
  go_ret
  exact ⟨by rfl, bl HB⟩
 rw [if_neg c2] at H
 have c2b0 : decide (1048576 < (l0.length : Int)) = false := decide_eq_false c2
 have c2b1 : decide (1048576 < l0.length) = false := decide_eq_false (by omega)
 clear c2
 replace H := Option.bind_eq_some_iff.mp H
 obtain ⟨⟨t359, t360, t363, t364, t365, t366⟩, A30, H⟩ := H
 have A3 := ak A30
 clear A30
 replace H := Option.bind_eq_some_iff.mp H
 obtain ⟨t368, A40, H⟩ := H
 have A4 := ak A40
 clear A40
 have HC5 := ak H
 clear H
 go_enter Try.func8, Try.ntmps8
 go_upto_region 5 with (first | ((with_reducible refine gate_callee (f := 32) rfl ?_); refine goesL_ (some 18) rfl rfl Try.func32 (by kernel_rfl) rfl #[.slice A0 l0.length c0] rfl (by (try simp only [List.map_toArray, List.map_cons, List.map_nil]); rfl) ?_; (with_reducible refine (spec_DrawPairSum.calls k _ _ l0 t359 t360 t363 t364 t365 t366 _ ?side1 ?side2 A3.out).mono ?_); (case side1 => repeat (exact HR0.out)); (case side2 => exact HC0.out); rintro e w6 ⟨v361, rfl, ho0, hb⟩; refine ⟨_, rfl, ?_⟩; have HO362 := ak (Kd.R_lower ho0 (below_size (bl HB))); replace HB := ak (below_step (bl HB) hb); (try clear hb); (try clear hb2); (try clear hk); (try clear hi); (try clear ho0)) | ((with_reducible refine gate_dst (N := 3) rfl ?_); refine box_event ?hg (N := 3) ?hd (cs := #[.int .i64 0, .slice none 0 0]) (t := 25) ?hr ?_; (case hd => rfl); (case hg => rfl); (case hr => (go_simp; done)); intro gb367 hg w7 hbox hb; replace HO362 := ak (Kd.R_below (rk HO362) hb); have BK367 := ak (hbox); have GW367 := ak ((by rw [hg]; exact (below_size (bl HB)) : w.heap.size ≤ gb367)); have GE367 := ak ((by rw [hg]; exact (below_size (bl HB)) : w.heap.size ≤ gb367)); replace HB := ak (below_step (bl HB) hb); clear hb hbox hg; have hcz8_0 := bc w7 BK367 0 (.int .i64 0) rfl; have hcz8_1 := bc w7 BK367 1 (.slice none 0 0) rfl; have hfz8_0 := fz BK367 0; have hfz8_1 := fz BK367 1; obtain ⟨Ao9, co9, eo9⟩ := Kd.R_slice HO362.out; subst eo9) | ((with_reducible refine gate_callee (f := 33) rfl ?_); refine goesL_ (some 29) rfl rfl Try.func33 (by kernel_rfl) rfl #[.agg #[.int .i64 t359, .slice Ao9 t360.length co9], .int .i64 t363, .int .i64 t364, .int .i64 t365, .int .i64 t366] rfl (by (try simp only [List.map_toArray, List.map_cons, List.map_nil]); rfl) ?_; (with_reducible refine (impl_PairSum.calls k t359 _ _ t360 t363 t364 t365 t366 t368 _ ?side1 ?side2 A4.out).mono ?_); (case side1 => refine (Kd.R_reads' (e := 33) (base := w.heap.size) (ok := fun k_ => True) (n := t360.length) (c := co9) ?_).2.2; exact (by exact (Kd.R_mono (Kd.R_far (p := ⟨gb367, 1, none⟩) (Kd.R_far (p := ⟨gb367, 0, none⟩) (Kd.R_types HO362.out BK367.out (by decide)) (fun _ hk => hk.2) (.int .i64 t359)) (fun _ hk => hk.2) (.slice Ao9 t360.length co9)) (fun _ h_ => h_.1)))); (case side2 => exact (Kd.R_reads' HO362.out).2.1); rintro e w10 ⟨rfl, hb⟩; refine ⟨_, rfl, ?_⟩; replace HO362 := ak (Kd.R_below (by exact (Kd.R_mono (Kd.R_far (p := ⟨gb367, 1, none⟩) (Kd.R_far (p := ⟨gb367, 0, none⟩) (Kd.R_types HO362.out BK367.out (by decide)) (fun _ hk => hk.2) (.int .i64 t359)) (fun _ hk => hk.2) (.slice Ao9 t360.length co9)) (fun _ h_ => h_.1))) hb); replace BK367 := ak (blk_below (g := gb367) (o := .cells #[.int .i64 t359, .slice Ao9 t360.length co9] 25 (0, 0)) (by refine blk_put (cs := #[.int .i64 t359, .slice none 0 0]) ?_ 1 _ rfl; refine blk_put (cs := #[.int .i64 0, .slice none 0 0]) ?_ 0 _ rfl; exact BK367.out) hb); replace HB := ak (below_step (bl1 HB GE367) hb); (try clear hb); (try clear hb2); (try clear hk); (try clear hi)))
 (try simp only [Act.put, List.setIfInBounds_toArray, List.set_cons_zero, List.set_cons_succ])
 go_cut [41] (fun v41 wc => ∃ (kq : Nat) (x41_4 : Bool), v41 = .bool x41_4 ∧ Aside0 (laws_FnPairSum.j0 kq t363 t364 t365 t366 t368 x41_4 t359 t360 = some r) ∧ Aside0 (kq ≤ k) ∧ Aside0 (Kd.R k33 33 wc w.heap.size (fun _ => True) (.slice Ao9 t360.length co9) t360) ∧ Aside0 (wc.heap[gb367]? = some (.cells #[.int .i64 t359, (.slice Ao9 t360.length co9)] 25 (0, 0))) ∧ Aside0 (Below w.heap.size w wc))
 case first =>
  have H := HC5.out
  clear HC5
  replace H := Option.bind_eq_some_iff.mp H
  obtain ⟨t369, A110, H⟩ := H
  have A11 := ak A110
  clear A110
  by_cases c12 : t368 = t369
  rotate_left
  ·rw [if_neg c12] at H
   have c12b0 : (t368 == t369) = false := beq_eq_false_iff_ne.mpr c12
   have c12b1 : (t368 != t369) = true := bne_iff_ne.mpr c12
   (skip)
   have H' := ak H
   clear H
   have hcz15_0 := bc w10 BK367 0 (.int .i64 t359) rfl
   have hcz15_1 := bc w10 BK367 1 (.slice Ao9 t360.length co9) rfl
   have hfz15_0 := fz BK367 0
   have hfz15_1 := fz BK367 1
   go_wp2_with (((with_reducible refine gate_callee (f := 34) rfl ?_); refine goesL_ (some 36) rfl rfl Try.func34 (by kernel_rfl) rfl #[.agg #[.int .i64 t359, .slice Ao9 t360.length co9], .int .i64 t363, .int .i64 t364, .int .i64 t365, .int .i64 t366] rfl (by (try simp only [List.map_toArray, List.map_cons, List.map_nil]); rfl) ?_; (with_reducible refine (spec_PairSum.calls k t359 _ _ t360 t363 t364 t365 t366 t369 _ ?side1 ?side2 A11.out).mono ?_); (case side1 => repeat (exact (Kd.R_reads' HO362.out).2.2)); (case side2 => exact (Kd.R_reads' HO362.out).2.1); rintro e w16 ⟨rfl, hb⟩; refine ⟨_, rfl, ?_⟩; replace HO362 := ak (Kd.R_below (rk HO362) hb); replace BK367 := ak (blk_below (bk BK367) hb); replace HB := ak (below_step (bl1 HB GE367) hb); (try clear hb); (try clear hb2); (try clear hk); (try clear hi)))
   go_meet
   case rel => exact ⟨_, (true), (by rfl), H', ⟨by omega⟩, ⟨rk HO362⟩, ⟨bk BK367⟩, ⟨bl1 HB GE367⟩⟩
  rw [if_pos c12] at H
  have c12b0 : (t368 == t369) = true := beq_iff_eq.mpr c12
  have c12b1 : (t368 != t369) = false := bne_eq_false_iff_eq.mpr c12
  clear c12
  (skip)
  have H' := ak H
  clear H
  have hcz13_0 := bc w10 BK367 0 (.int .i64 t359) rfl
  have hcz13_1 := bc w10 BK367 1 (.slice Ao9 t360.length co9) rfl
  have hfz13_0 := fz BK367 0
  have hfz13_1 := fz BK367 1
  go_wp2_with (((with_reducible refine gate_callee (f := 34) rfl ?_); refine goesL_ (some 36) rfl rfl Try.func34 (by kernel_rfl) rfl #[.agg #[.int .i64 t359, .slice Ao9 t360.length co9], .int .i64 t363, .int .i64 t364, .int .i64 t365, .int .i64 t366] rfl (by (try simp only [List.map_toArray, List.map_cons, List.map_nil]); rfl) ?_; (with_reducible refine (spec_PairSum.calls k t359 _ _ t360 t363 t364 t365 t366 t369 _ ?side1 ?side2 A11.out).mono ?_); (case side1 => repeat (exact (Kd.R_reads' HO362.out).2.2)); (case side2 => exact (Kd.R_reads' HO362.out).2.1); rintro e w14 ⟨rfl, hb⟩; refine ⟨_, rfl, ?_⟩; replace HO362 := ak (Kd.R_below (rk HO362) hb); replace BK367 := ak (blk_below (bk BK367) hb); replace HB := ak (below_step (bl1 HB GE367) hb); (try clear hb); (try clear hb2); (try clear hk); (try clear hi)))
  go_meet
  case rel => exact ⟨_, (decide (t368 < 0)), (by rfl), H', ⟨by omega⟩, ⟨rk HO362⟩, ⟨bk BK367⟩, ⟨bl1 HB GE367⟩⟩
 clear HC5
 try clear c1
 try clear c2
 try clear c2b0
 try clear c2b1
 try clear p2
 try clear c3
 try clear c8
 try clear c12
 try clear c12b0
 try clear c12b1
 try clear hcz13_0
 try clear hcz13_1
 try clear hcz15_0
 try clear hcz15_1
 try clear hcz8_0
 try clear hcz8_1
 try clear hfz13_0
 try clear hfz13_1
 try clear hfz15_0
 try clear hfz15_1
 try clear hfz8_0
 try clear hfz8_1
 obtain ⟨kq, x41_4, rfl, HA, HJ4, HO_368001, BK367, HB⟩ := hcut
 cases kq with
 | zero => exact absurd HA.out (by simp [laws_FnPairSum.j0])
 | succ kj4 =>
  have H := HA.out
  clear HA
  simp only [laws_FnPairSum.j0] at H
  by_cases c17 : x41_4 = true
  ·subst c17
   rw [if_pos rfl] at H
   replace H := Option.bind_eq_some_iff.mp H
   obtain ⟨t370, A180, H⟩ := H
   have A18 := ak A180
   clear A180
   obtain rfl := Option.some.inj H
   have hcz19_0 := bc wc BK367 0 (.int .i64 t359) rfl
   have hcz19_1 := bc wc BK367 1 (.slice Ao9 t360.length co9) rfl
   have hfz19_0 := fz BK367 0
   have hfz19_1 := fz BK367 1
   go_wp2_with (((with_reducible refine gate_callee (f := 34) rfl ?_); refine goesL_ (some 48) rfl rfl Try.func34 (by kernel_rfl) rfl #[.agg #[.int .i64 t359, .slice Ao9 t360.length co9], .int .i64 t363, .int .i64 t364, .int .i64 t365, .int .i64 t366] rfl (by (try simp only [List.map_toArray, List.map_cons, List.map_nil]); rfl) ?_; (with_reducible refine (spec_PairSum.calls kj4 t359 _ _ t360 t363 t364 t365 t366 t370 _ ?side1 ?side2 A18.out).mono ?_); (case side1 => repeat (exact (Kd.R_reads' HO_368001.out).2.2)); (case side2 => exact (Kd.R_reads' HO_368001.out).2.1); rintro e w20 ⟨rfl, hb⟩; refine ⟨_, rfl, ?_⟩; replace HO_368001 := ak (Kd.R_below (rk HO_368001) hb); replace BK367 := ak (blk_below (bk BK367) hb); replace HB := ak (below_step (bl1 HB GE367) hb); (try clear hb); (try clear hb2); (try clear hk); (try clear hi)))
   go_ret
   exact ⟨by rfl, bl1 HB GE367⟩
  replace c17 := Bool.eq_false_iff.mpr c17
  subst c17
  rw [if_neg (show ¬ (false = true) by decide)] at H
  replace H := Option.bind_eq_some_iff.mp H
  obtain ⟨t371, A210, H⟩ := H
  have A21 := ak A210
  clear A210
  have H' := ak H
  clear H
  have hcz22_0 := bc wc BK367 0 (.int .i64 t359) rfl
  have hcz22_1 := bc wc BK367 1 (.slice Ao9 t360.length co9) rfl
  have hfz22_0 := fz BK367 0
  have hfz22_1 := fz BK367 1
  go_wp2_with (((with_reducible refine gate_callee (f := 14) rfl ?_); refine goesL_ (some 53) rfl rfl Try.func14 (by kernel_rfl) rfl #[.agg #[.int .i64 t359, .slice Ao9 t360.length co9], .int .i64 t363, .int .i64 t364] rfl (by (try simp only [List.map_toArray, List.map_cons, List.map_nil]); rfl) ?_; (with_reducible refine (impl_PairAll.calls kj4 t359 _ _ t360 t363 t364 t371 _ ?side1 ?side2 A21.out).mono ?_); (case side1 => repeat (exact (Kd.R_reads' HO_368001.out).2.2)); (case side2 => exact (Kd.R_reads' HO_368001.out).2.1); rintro e w23 ⟨v372, rfl, ho0, hb⟩; refine ⟨_, rfl, ?_⟩; replace HO_368001 := ak (Kd.R_below (rk HO_368001) hb); have HO373 := ak (Kd.R_lower ho0 (below_size (bl1 HB GE367))); replace BK367 := ak (blk_below (bk BK367) hb); replace HB := ak (below_step (bl1 HB GE367) hb); (try clear hb); (try clear hb2); (try clear hk); (try clear hi); (try clear ho0)))
  go_loopg [10, 11] kj4 (fun kq v10 v11 w' => ∃ (x10_2 : Bool) (x11_2 : Int), v10 = .bool x10_2 ∧ v11 = .int .i64 x11_2 ∧ Aside0 (laws_FnPairSum.l0 kq t363 t364 t365 t366 t368 t371 x10_2 x11_2 t359 t360 = some r) ∧ Aside0 (kq ≤ kj4) ∧ Aside0 (Kd.R k35 35 w' w.heap.size (fun _ => True) v372 t371) ∧ Aside0 (Kd.R k33 33 w' w.heap.size (fun _ => True) (.slice Ao9 t360.length co9) t360) ∧ Aside0 (w'.heap[gb367]? = some (.cells #[.int .i64 t359, (.slice Ao9 t360.length co9)] 25 (0, 0))) ∧ Aside0 (Below w.heap.size w w'))
  case atStart => exact ⟨(false), (0), (by rfl), (by rfl), H', ⟨Nat.le_refl _⟩, ⟨rk HO373⟩, ⟨rk HO_368001⟩, ⟨bk BK367⟩, ⟨bl1 HB GE367⟩⟩
  clear H'
  try clear c1
  try clear c2
  try clear c2b0
  try clear c2b1
  try clear p2
  try clear c3
  try clear c8
  try clear c12
  try clear c12b0
  try clear c12b1
  try clear c14
  try clear c17
  try clear hcz13_0
  try clear hcz13_1
  try clear hcz15_0
  try clear hcz15_1
  try clear hcz19_0
  try clear hcz19_1
  try clear hcz22_0
  try clear hcz22_1
  try clear hcz8_0
  try clear hcz8_1
  try clear hfz13_0
  try clear hfz13_1
  try clear hfz15_0
  try clear hfz15_1
  try clear hfz19_0
  try clear hfz19_1
  try clear hfz22_0
  try clear hfz22_1
  try clear hfz8_0
  try clear hfz8_1
  try clear p2
  obtain ⟨x10_2, x11_2, rfl, rfl, HA, HK2, HO_9, HO_368001, BK367, HB⟩ := hrel
  cases gk with
  | zero => exact absurd HA.out (by simp [laws_FnPairSum.l0])
  | succ k2 =>
   have H := HA.out
   clear HA
   simp only [laws_FnPairSum.l0] at H
   by_cases c24 : x11_2 < (t371.length : Int)
   rotate_left
   ·rw [if_neg c24] at H
    have c24b0 : decide (x11_2 < (t371.length : Int)) = false := decide_eq_false c24
    clear c24
    by_cases c33 : x10_2 = true
    rotate_left
    ·replace c33 := Bool.eq_false_iff.mpr c33
     subst c33
     rw [if_neg (show ¬ (false = true) by decide)] at H
     exact absurd ((Option.some.inj H).trans hr_) Bool.false_ne_true
    subst c33
    rw [if_pos rfl] at H
    replace H := Option.bind_eq_some_iff.mp H
    obtain ⟨t376, A340, H⟩ := H
    have A34 := ak A340
    clear A340
    replace H := Option.bind_eq_some_iff.mp H
    obtain ⟨t377, A350, H⟩ := H
    have A35 := ak A350
    clear A350
    by_cases c36 : 0 ≤ t364
    rotate_left
    ·rw [if_neg c36] at H
     exact absurd H (by simp)
    rw [if_pos c36] at H
    have c36b0 : decide (0 ≤ t364) = true := decide_eq_true c36
    clear c36
    by_cases c37 : t364 < (t377.length : Int)
    rotate_left
    ·rw [if_neg c37] at H
     exact absurd H (by simp)
    rw [if_pos c37] at H
    have c37b0 : decide (t364 < (t377.length : Int)) = true := decide_eq_true c37
    clear c37
    obtain rfl := Option.some.inj H
    obtain ⟨Ao38, co38, eo38⟩ := Kd.R_slice HO_9.out
    subst eo38
    try go_wp2
    replace HO_9 := ak (Kd.R_drew HO_9.out)
    replace HO_368001 := ak (Kd.R_drew HO_368001.out)
    replace BK367 := ak (blk_drew BK367.out)
    replace HB := ak (below_drew1 HB.out)
    refine start_ (n := 16) (S := fun w' => w'.cell? ⟨gb367, 0, none⟩ = some (.int .i64 t359) ∧ w'.cell? ⟨gb367, 1, none⟩ = some (.slice Ao9 t360.length co9)) (ds := []) (ms 16 0) (by kernel_rfl) rfl (by kernel_rfl) ⟨(blk_cell BK367.out 0).trans rfl, (blk_cell BK367.out 1).trans rfl⟩ (fun hHeld => ?_); refine with_tabW laws_FnPairSum.tab16 laws_FnPairSum.bits16 (fun HT_ HW_ => ?_)
    generalize wr.drew = w39 at HO_9 HO_368001 BK367 HB hHeld ⊢
    refine pu 0 84 ?_ (ms 16 1) rfl rfl HT_ (by kernel_rfl) (fun _ _ _ h => h) (by rfl) ?_ ?_ ?_ ?_
    rotate_left
    ·intro w'
     go_simp
     with_reducible rfl
    rotate_left
    ·simp only [SX]
     rfl
    refine pu 1 85 ?_ (ms 16 3) rfl rfl HT_ (by kernel_rfl) (fun _ _ _ h => h) (by rfl) ?_ ?_ ?_ ?_
    rotate_left
    ·intro w'
     go_simp
     with_reducible rfl
    rotate_left
    ·simp only [SX]
     rfl
    refine pu 3 87 ?_ (ms 16 11) rfl rfl HT_ (by kernel_rfl) (fun _ _ _ h => h) (by rfl) ?_ ?_ ?_ ?_
    rotate_left
    ·intro w'
     go_simp
     with_reducible rfl
    rotate_left
    ·simp only [SX]
     rfl
    refine pu 4 88 ?_ (ms 16 27) rfl rfl HT_ (by kernel_rfl) (fun _ _ _ h => h) (by rfl) ?_ ?_ ?_ ?_
    rotate_left
    ·intro w'
     go_simp
     with_reducible rfl
    rotate_left
    ·simp only [SX]
     rfl
    refine pu 7 91 ?_ (ms 16 155) rfl rfl HT_ (by kernel_rfl) (fun _ _ _ h => h) (by rfl) ?_ ?_ ?_ ?_
    rotate_left
    ·intro w'
     go_simp
     with_reducible rfl
    rotate_left
    ·simp only [SX]
     rfl
    refine pu 9 93 ?_ (ms 16 667) rfl rfl HT_ (by kernel_rfl) (fun _ _ _ h => h) (by rfl) ?_ ?_ ?_ ?_
    rotate_left
    ·intro w'
     go_simp
     with_reducible rfl
    rotate_left
    ·simp only [SX]
     rfl
    refine tk 2 86 ?_ (ms 16 671) rfl rfl HT_ HW_ (by kernel_rfl) (fun _ _ _ h => h) (by rfl) ?_ hHeld ?_ ?_ ?_
    rotate_left
    ·rintro w' ⟨s0, s1⟩
     go_simp
     with_reducible rfl
    rotate_left
    ·simp only [SX]
     rfl
    refine tk 6 90 ?_ (ms 16 735) rfl rfl HT_ HW_ (by kernel_rfl) (fun _ _ _ h => h) (by rfl) ?_ hHeld ?_ ?_ ?_
    rotate_left
    ·rintro w' ⟨s0, s1⟩
     go_simp
     with_reducible rfl
    rotate_left
    ·simp only [SX]
     rfl
    refine one_ (i := 5) (N := some 89) (ms 16 767) rfl rfl (one_of HT_.out (by kernel_rfl)) (by decide) (fun K hK => ?_)
    refine goes_ Try.func33 (by kernel_rfl) rfl #[.agg #[.int .i64 t359, .slice Ao9 t360.length co9], .int .i64 t363, .int .i64 t364, .int .i64 100, .int .i64 0] (by rfl) rfl rfl (by (try simp only [List.map_toArray, List.map_cons, List.map_nil]); rfl) ?_
    with_reducible refine (impl_PairSum.calls k2 t359 _ _ t360 t363 t364 100 0 t376 _ ?side1 ?side2 A34.out).mono ?_
    (case side1 => repeat (exact (Kd.R_reads' HO_368001.out).2.2))
    (case side2 => exact (Kd.R_reads' HO_368001.out).2.1)
    rintro e w40 ⟨rfl, hb⟩
    refine ⟨_, rfl, ?_⟩
    replace HO_9 := ak (Kd.R_below (rk HO_9) hb)
    replace HO_368001 := ak (Kd.R_below (rk HO_368001) hb)
    replace BK367 := ak (blk_below (bk BK367) hb)
    replace HB := ak (below_step (bl1 HB GE367) hb)
    (try clear hb)
    (try clear hb2)
    (try clear hk)
    (try clear hi)
    refine hK.out _ _ ⟨(blk_cell BK367.out 0).trans rfl, (blk_cell BK367.out 1).trans rfl⟩ (fun hHeld => ?_)
    clear hK K
    refine norm_ (a' := ?_) ?_ ?_
    rotate_left
    ·show Act.put _ (some 89) _ = _
     simp only [SX]
     rfl
    refine one_ (i := 8) (N := some 92) (ms 16 1023) rfl rfl (one_of HT_.out (by kernel_rfl)) (by decide) (fun K hK => ?_)
    refine goes_ Try.func31 (by kernel_rfl) rfl #[.agg #[.int .i64 t359, .slice Ao9 t360.length co9], .int .i64 t363] (by rfl) rfl rfl (by (try simp only [List.map_toArray, List.map_cons, List.map_nil]); rfl) ?_
    with_reducible refine (impl_NearAll.calls k2 t359 _ _ t360 t363 t377 _ ?side1 ?side2 A35.out).mono ?_
    (case side1 => repeat (exact (Kd.R_reads' HO_368001.out).2.2))
    (case side2 => exact (Kd.R_reads' HO_368001.out).2.1)
    rintro e w41 ⟨v378, rfl, ho0, hb⟩
    refine ⟨_, rfl, ?_⟩
    replace HO_9 := ak (Kd.R_below (rk HO_9) hb)
    replace HO_368001 := ak (Kd.R_below (rk HO_368001) hb)
    have HO379 := ak (Kd.R_lower ho0 (below_size (bl1 HB GE367)))
    replace BK367 := ak (blk_below (bk BK367) hb)
    replace HB := ak (below_step (bl1 HB GE367) hb)
    (try clear hb)
    (try clear hb2)
    (try clear hk)
    (try clear hi)
    (try clear ho0)
    obtain ⟨Ao42, co42, eo42⟩ := Kd.R_slice HO379.out
    (subst eo42)
    have p380 : 0 ≤ (t364 : Int) := oT (by (with_reducible assumption))
    have q380 : t364 < (t377.length : Int) := oT (by (with_reducible assumption))
    obtain ⟨ad380, e380, hx380_0⟩ := Kd.at_int (Kd.R_reads' HO379.out).2.2 t364 p380 q380
    cases e380
    replace p380 := eq_true p380
    replace q380 := eq_true q380
    refine hK.out _ _ ⟨(blk_cell BK367.out 0).trans rfl, (blk_cell BK367.out 1).trans rfl⟩ (fun hHeld => ?_)
    refine laws_FnPairSum.restart (S' := fun w' => w'.cell? ⟨gb367, 0, none⟩ = some (.int .i64 t359) ∧ w'.cell? ⟨gb367, 1, none⟩ = some (.slice Ao9 t360.length co9) ∧ w'.cell? (ad380.add (t364).toNat) = some (.int .i64 (rd t377 t364))) (fun w' h_ => ⟨h_.1, h_.2.1⟩) ⟨hHeld.1, hHeld.2, hx380_0⟩ (fun hHeld => ?_)
    clear hK K
    refine norm_ (a' := ?_) ?_ ?_
    rotate_left
    ·show Act.put _ (some 92) _ = _
     simp only [SX]
     rfl
    refine pu 10 94 ?_ (ms 16 2047) rfl rfl HT_ (by kernel_rfl) (fun _ _ _ h => h) (by rfl) ?_ ?_ ?_ ?_
    rotate_left
    ·intro w'
     go_simp
     with_reducible rfl
    rotate_left
    ·simp only [SX]
     rfl
    refine tk 11 95 ?_ (ms 16 4095) rfl rfl HT_ HW_ (by kernel_rfl) (fun _ _ _ h => h) (by rfl) ?_ hHeld ?_ ?_ ?_
    rotate_left
    ·rintro w' ⟨s0, s1, s2⟩
     go_simp
     with_reducible rfl
    rotate_left
    ·simp only [SX]
     rfl
    refine pu 12 96 ?_ (ms 16 8191) rfl rfl HT_ (by kernel_rfl) (fun _ _ _ h => h) (by rfl) ?_ ?_ ?_ ?_
    rotate_left
    ·intro w'
     go_simp
     with_reducible rfl
    rotate_left
    ·simp only [SX]
     rfl
    refine pu 13 97 ?_ (ms 16 16383) rfl rfl HT_ (by kernel_rfl) (fun _ _ _ h => h) (by rfl) ?_ ?_ ?_ ?_
    rotate_left
    ·intro w'
     go_simp
     with_reducible rfl
    rotate_left
    ·simp only [SX]
     rfl
    refine pu 14 98 ?_ (ms 16 32767) rfl rfl HT_ (by kernel_rfl) (fun _ _ _ h => h) (by rfl) ?_ ?_ ?_ ?_
    rotate_left
    ·intro w'
     go_simp
     with_reducible rfl
    rotate_left
    ·simp only [SX]
     rfl
    refine pu 15 2 ?_ (ms 16 65535) rfl rfl HT_ (by kernel_rfl) (fun _ _ _ h => h) (by rfl) ?_ ?_ ?_ ?_
    rotate_left
    ·intro w'
     go_simp
     with_reducible rfl
    rotate_left
    ·simp only [SX]
     rfl
    refine done_ (done_of HT_.out (by kernel_rfl)) ?_
    try go_wp2
    go_ret
    exact ⟨by (simp [*, errW_none, errW_some] <;> rfl), bl1 HB GE367⟩
   rw [if_pos c24] at H
   have c24b0 : decide (x11_2 < (t371.length : Int)) = true := decide_eq_true c24
   clear c24
   by_cases c25 : 0 ≤ x11_2
   rotate_left
   ·rw [if_neg c25] at H
    exact absurd H (by simp)
   rw [if_pos c25] at H
   have c25b0 : decide (0 ≤ x11_2) = true := decide_eq_true c25
   clear c25
   by_cases c26 : x10_2 = true
   ·subst c26
    rw [if_pos rfl] at H
    by_cases c27 : (wrap64 ((wrap64 (((rd_T35 t371 x11_2).f0) * t365)) + (wrap64 (((rd_T35 t371 x11_2).f1) * t366)))) < t368
    ·rw [if_pos c27] at H
     have c27b0 : decide ((wrap64 ((wrap64 (((rd_T35 t371 x11_2).f0) * t365)) + (wrap64 (((rd_T35 t371 x11_2).f1) * t366)))) < t368) = true := decide_eq_true c27
     clear c27
     exact absurd ((Option.some.inj H).trans hr_) Bool.false_ne_true
    rw [if_neg c27] at H
    have c27b0 : decide ((wrap64 ((wrap64 (((rd_T35 t371 x11_2).f0) * t365)) + (wrap64 (((rd_T35 t371 x11_2).f1) * t366)))) < t368) = false := decide_eq_false c27
    clear c27
    have H' := ak H
    clear H
    obtain ⟨Ao28, co28, eo28⟩ := Kd.R_slice HO_9.out
    subst eo28
    try go_wp2
    replace HO_9 := ak (Kd.R_drew HO_9.out)
    replace HO_368001 := ak (Kd.R_drew HO_368001.out)
    replace BK367 := ak (blk_drew BK367.out)
    replace HB := ak (below_drew1 HB.out)
    have p374 : 0 ≤ (x11_2 : Int) := oT (by (with_reducible assumption))
    have q374 : x11_2 < (t371.length : Int) := oT (by (with_reducible assumption))
    obtain ⟨ad374, e374, hx374_0, hx374_1⟩ := at_T35 (Kd.R_reads' HO_9.out).2.2 x11_2 p374 q374
    cases e374
    replace p374 := eq_true p374
    replace q374 := eq_true q374
    have p375 : 0 ≤ (x11_2 : Int) := oT (by (with_reducible assumption))
    have q375 : x11_2 < (t371.length : Int) := oT (by (with_reducible assumption))
    obtain ⟨ad375, e375, hx375_0, hx375_1⟩ := at_T35 (Kd.R_reads' HO_9.out).2.2 x11_2 p375 q375
    obtain rfl : ad374 = ad375 := (by injection e375)
    replace p375 := eq_true p375
    replace q375 := eq_true q375
    refine start_ (n := 16) (S := fun w' => w'.cell? (ad374.add ((x11_2).toNat * 2)) = some (.int .i64 ((rd_T35 t371 x11_2).f0)) ∧ w'.cell? ⟨(ad374.add ((x11_2).toNat * 2)).block, (ad374.add ((x11_2).toNat * 2)).off + 1, none⟩ = some (.int .i64 ((rd_T35 t371 x11_2).f1)) ∧ w'.cell? (ad374.add ((x11_2).toNat * 2)) = some (.int .i64 ((rd_T35 t371 x11_2).f0)) ∧ w'.cell? ⟨(ad374.add ((x11_2).toNat * 2)).block, (ad374.add ((x11_2).toNat * 2)).off + 1, none⟩ = some (.int .i64 ((rd_T35 t371 x11_2).f1))) (ds := []) (ms 16 0) (by kernel_rfl) rfl (by kernel_rfl) ⟨hx374_0, hx374_1, hx375_0, hx375_1⟩ (fun hHeld => ?_); refine with_tabW laws_FnPairSum.tab12 laws_FnPairSum.bits12 (fun HT_ HW_ => ?_)
    generalize wr.drew = w29 at HO_9 HO_368001 BK367 HB hx374_0 hx374_1 hx375_0 hx375_1 hHeld ⊢
    refine pu 0 60 ?_ (ms 16 1) rfl rfl HT_ (by kernel_rfl) (fun _ _ _ h => h) (by rfl) ?_ ?_ ?_ ?_
    rotate_left
    ·intro w'
     go_simp
     with_reducible rfl
    rotate_left
    ·simp only [SX]
     rfl
    refine pu 1 61 ?_ (ms 16 3) rfl rfl HT_ (by kernel_rfl) (fun _ _ _ h => h) (by rfl) ?_ ?_ ?_ ?_
    rotate_left
    ·intro w'
     go_simp
     with_reducible rfl
    rotate_left
    ·simp only [SX]
     rfl
    refine pu 2 62 ?_ (ms 16 7) rfl rfl HT_ (by kernel_rfl) (fun _ _ _ h => h) (by rfl) ?_ ?_ ?_ ?_
    rotate_left
    ·intro w'
     go_simp
     with_reducible rfl
    rotate_left
    ·simp only [SX]
     rfl
    refine pu 3 63 ?_ (ms 16 15) rfl rfl HT_ (by kernel_rfl) (fun _ _ _ h => h) (by rfl) ?_ ?_ ?_ ?_
    rotate_left
    ·intro w'
     go_simp
     with_reducible rfl
    rotate_left
    ·simp only [SX]
     rfl
    refine pu 5 65 ?_ (ms 16 47) rfl rfl HT_ (by kernel_rfl) (fun _ _ _ h => h) (by rfl) ?_ ?_ ?_ ?_
    rotate_left
    ·intro w'
     go_simp
     with_reducible rfl
    rotate_left
    ·simp only [SX]
     rfl
    refine pu 7 67 ?_ (ms 16 175) rfl rfl HT_ (by kernel_rfl) (fun _ _ _ h => h) (by rfl) ?_ ?_ ?_ ?_
    rotate_left
    ·intro w'
     go_simp
     with_reducible rfl
    rotate_left
    ·simp only [SX]
     rfl
    refine pu 8 68 ?_ (ms 16 431) rfl rfl HT_ (by kernel_rfl) (fun _ _ _ h => h) (by rfl) ?_ ?_ ?_ ?_
    rotate_left
    ·intro w'
     go_simp
     with_reducible rfl
    rotate_left
    ·simp only [SX]
     rfl
    refine pu 9 69 ?_ (ms 16 943) rfl rfl HT_ (by kernel_rfl) (fun _ _ _ h => h) (by rfl) ?_ ?_ ?_ ?_
    rotate_left
    ·intro w'
     go_simp
     with_reducible rfl
    rotate_left
    ·simp only [SX]
     rfl
    refine pu 10 70 ?_ (ms 16 1967) rfl rfl HT_ (by kernel_rfl) (fun _ _ _ h => h) (by rfl) ?_ ?_ ?_ ?_
    rotate_left
    ·intro w'
     go_simp
     with_reducible rfl
    rotate_left
    ·simp only [SX]
     rfl
    refine pu 12 72 ?_ (ms 16 6063) rfl rfl HT_ (by kernel_rfl) (fun _ _ _ h => h) (by rfl) ?_ ?_ ?_ ?_
    rotate_left
    ·intro w'
     go_simp
     with_reducible rfl
    rotate_left
    ·simp only [SX]
     rfl
    refine tk 4 64 ?_ (ms 16 6079) rfl rfl HT_ HW_ (by kernel_rfl) (fun _ _ _ h => h) (by rfl) ?_ hHeld ?_ ?_ ?_
    rotate_left
    ·rintro w' ⟨s0, s1, s2, s3⟩
     go_simp
     with_reducible rfl
    rotate_left
    ·simp only [SX]
     rfl
    refine pu 6 66 ?_ (ms 16 6143) rfl rfl HT_ (by kernel_rfl) (fun _ _ _ h => h) (by rfl) ?_ ?_ ?_ ?_
    rotate_left
    ·intro w'
     go_simp
     with_reducible rfl
    rotate_left
    ·simp only [SX]
     rfl
    refine tk 11 71 ?_ (ms 16 8191) rfl rfl HT_ HW_ (by kernel_rfl) (fun _ _ _ h => h) (by rfl) ?_ hHeld ?_ ?_ ?_
    rotate_left
    ·rintro w' ⟨s0, s1, s2, s3⟩
     go_simp
     with_reducible rfl
    rotate_left
    ·simp only [SX]
     rfl
    refine pu 13 73 ?_ (ms 16 16383) rfl rfl HT_ (by kernel_rfl) (fun _ _ _ h => h) (by rfl) ?_ ?_ ?_ ?_
    rotate_left
    ·intro w'
     go_simp
     with_reducible rfl
    rotate_left
    ·simp only [SX]
     rfl
    refine pu 14 74 ?_ (ms 16 32767) rfl rfl HT_ (by kernel_rfl) (fun _ _ _ h => h) (by rfl) ?_ ?_ ?_ ?_
    rotate_left
    ·intro w'
     go_simp
     with_reducible rfl
    rotate_left
    ·simp only [SX]
     rfl
    refine pu 15 12 ?_ (ms 16 65535) rfl rfl HT_ (by kernel_rfl) (fun _ _ _ h => h) (by rfl) ?_ ?_ ?_ ?_
    rotate_left
    ·intro w'
     go_simp
     with_reducible rfl
    rotate_left
    ·simp only [SX]
     rfl
    refine done_ (done_of HT_.out (by kernel_rfl)) ?_
    try go_wp2
    go_roundg k2
    case measure => have := HJ4.out; have := HK2.out; omega
    case rel => exact ⟨(true), (wrap64 (x11_2 + 1)), (by rfl), (by rfl), H', ⟨by have := HJ4.out; have := HK2.out; omega⟩, ⟨rk HO_9⟩, ⟨rk HO_368001⟩, ⟨bk BK367⟩, ⟨bl1 HB GE367⟩⟩
   replace c26 := Bool.eq_false_iff.mpr c26
   subst c26
   rw [if_neg (show ¬ (false = true) by decide)] at H
   by_cases c30 : (wrap64 ((wrap64 (((rd_T35 t371 x11_2).f0) * t365)) + (wrap64 (((rd_T35 t371 x11_2).f1) * t366)))) < t368
   ·rw [if_pos c30] at H
    have c30b0 : decide ((wrap64 ((wrap64 (((rd_T35 t371 x11_2).f0) * t365)) + (wrap64 (((rd_T35 t371 x11_2).f1) * t366)))) < t368) = true := decide_eq_true c30
    clear c30
    exact absurd ((Option.some.inj H).trans hr_) Bool.false_ne_true
   rw [if_neg c30] at H
   have c30b0 : decide ((wrap64 ((wrap64 (((rd_T35 t371 x11_2).f0) * t365)) + (wrap64 (((rd_T35 t371 x11_2).f1) * t366)))) < t368) = false := decide_eq_false c30
   clear c30
   have H' := ak H
   clear H
   obtain ⟨Ao31, co31, eo31⟩ := Kd.R_slice HO_9.out
   subst eo31
   try go_wp2
   replace HO_9 := ak (Kd.R_drew HO_9.out)
   replace HO_368001 := ak (Kd.R_drew HO_368001.out)
   replace BK367 := ak (blk_drew BK367.out)
   replace HB := ak (below_drew1 HB.out)
   have p374 : 0 ≤ (x11_2 : Int) := oT (by (with_reducible assumption))
   have q374 : x11_2 < (t371.length : Int) := oT (by (with_reducible assumption))
   obtain ⟨ad374, e374, hx374_0, hx374_1⟩ := at_T35 (Kd.R_reads' HO_9.out).2.2 x11_2 p374 q374
   cases e374
   replace p374 := eq_true p374
   replace q374 := eq_true q374
   have p375 : 0 ≤ (x11_2 : Int) := oT (by (with_reducible assumption))
   have q375 : x11_2 < (t371.length : Int) := oT (by (with_reducible assumption))
   obtain ⟨ad375, e375, hx375_0, hx375_1⟩ := at_T35 (Kd.R_reads' HO_9.out).2.2 x11_2 p375 q375
   obtain rfl : ad374 = ad375 := (by injection e375)
   replace p375 := eq_true p375
   replace q375 := eq_true q375
   refine start_ (n := 16) (S := fun w' => w'.cell? (ad374.add ((x11_2).toNat * 2)) = some (.int .i64 ((rd_T35 t371 x11_2).f0)) ∧ w'.cell? ⟨(ad374.add ((x11_2).toNat * 2)).block, (ad374.add ((x11_2).toNat * 2)).off + 1, none⟩ = some (.int .i64 ((rd_T35 t371 x11_2).f1)) ∧ w'.cell? (ad374.add ((x11_2).toNat * 2)) = some (.int .i64 ((rd_T35 t371 x11_2).f0)) ∧ w'.cell? ⟨(ad374.add ((x11_2).toNat * 2)).block, (ad374.add ((x11_2).toNat * 2)).off + 1, none⟩ = some (.int .i64 ((rd_T35 t371 x11_2).f1))) (ds := []) (ms 16 0) (by kernel_rfl) rfl (by kernel_rfl) ⟨hx374_0, hx374_1, hx375_0, hx375_1⟩ (fun hHeld => ?_); refine with_tabW laws_FnPairSum.tab12 laws_FnPairSum.bits12 (fun HT_ HW_ => ?_)
   generalize wr.drew = w32 at HO_9 HO_368001 BK367 HB hx374_0 hx374_1 hx375_0 hx375_1 hHeld ⊢
   refine pu 0 60 ?_ (ms 16 1) rfl rfl HT_ (by kernel_rfl) (fun _ _ _ h => h) (by rfl) ?_ ?_ ?_ ?_
   rotate_left
   ·intro w'
    go_simp
    with_reducible rfl
   rotate_left
   ·simp only [SX]
    rfl
   refine pu 1 61 ?_ (ms 16 3) rfl rfl HT_ (by kernel_rfl) (fun _ _ _ h => h) (by rfl) ?_ ?_ ?_ ?_
   rotate_left
   ·intro w'
    go_simp
    with_reducible rfl
   rotate_left
   ·simp only [SX]
    rfl
   refine pu 2 62 ?_ (ms 16 7) rfl rfl HT_ (by kernel_rfl) (fun _ _ _ h => h) (by rfl) ?_ ?_ ?_ ?_
   rotate_left
   ·intro w'
    go_simp
    with_reducible rfl
   rotate_left
   ·simp only [SX]
    rfl
   refine pu 3 63 ?_ (ms 16 15) rfl rfl HT_ (by kernel_rfl) (fun _ _ _ h => h) (by rfl) ?_ ?_ ?_ ?_
   rotate_left
   ·intro w'
    go_simp
    with_reducible rfl
   rotate_left
   ·simp only [SX]
    rfl
   refine pu 5 65 ?_ (ms 16 47) rfl rfl HT_ (by kernel_rfl) (fun _ _ _ h => h) (by rfl) ?_ ?_ ?_ ?_
   rotate_left
   ·intro w'
    go_simp
    with_reducible rfl
   rotate_left
   ·simp only [SX]
    rfl
   refine pu 7 67 ?_ (ms 16 175) rfl rfl HT_ (by kernel_rfl) (fun _ _ _ h => h) (by rfl) ?_ ?_ ?_ ?_
   rotate_left
   ·intro w'
    go_simp
    with_reducible rfl
   rotate_left
   ·simp only [SX]
    rfl
   refine pu 8 68 ?_ (ms 16 431) rfl rfl HT_ (by kernel_rfl) (fun _ _ _ h => h) (by rfl) ?_ ?_ ?_ ?_
   rotate_left
   ·intro w'
    go_simp
    with_reducible rfl
   rotate_left
   ·simp only [SX]
    rfl
   refine pu 9 69 ?_ (ms 16 943) rfl rfl HT_ (by kernel_rfl) (fun _ _ _ h => h) (by rfl) ?_ ?_ ?_ ?_
   rotate_left
   ·intro w'
    go_simp
    with_reducible rfl
   rotate_left
   ·simp only [SX]
    rfl
   refine pu 10 70 ?_ (ms 16 1967) rfl rfl HT_ (by kernel_rfl) (fun _ _ _ h => h) (by rfl) ?_ ?_ ?_ ?_
   rotate_left
   ·intro w'
    go_simp
    with_reducible rfl
   rotate_left
   ·simp only [SX]
    rfl
   refine pu 12 72 ?_ (ms 16 6063) rfl rfl HT_ (by kernel_rfl) (fun _ _ _ h => h) (by rfl) ?_ ?_ ?_ ?_
   rotate_left
   ·intro w'
    go_simp
    with_reducible rfl
   rotate_left
   ·simp only [SX]
    rfl
   refine tk 4 64 ?_ (ms 16 6079) rfl rfl HT_ HW_ (by kernel_rfl) (fun _ _ _ h => h) (by rfl) ?_ hHeld ?_ ?_ ?_
   rotate_left
   ·rintro w' ⟨s0, s1, s2, s3⟩
    go_simp
    with_reducible rfl
   rotate_left
   ·simp only [SX]
    rfl
   refine pu 6 66 ?_ (ms 16 6143) rfl rfl HT_ (by kernel_rfl) (fun _ _ _ h => h) (by rfl) ?_ ?_ ?_ ?_
   rotate_left
   ·intro w'
    go_simp
    with_reducible rfl
   rotate_left
   ·simp only [SX]
    rfl
   refine tk 11 71 ?_ (ms 16 8191) rfl rfl HT_ HW_ (by kernel_rfl) (fun _ _ _ h => h) (by rfl) ?_ hHeld ?_ ?_ ?_
   rotate_left
   ·rintro w' ⟨s0, s1, s2, s3⟩
    go_simp
    with_reducible rfl
   rotate_left
   ·simp only [SX]
    rfl
   refine pu 13 73 ?_ (ms 16 16383) rfl rfl HT_ (by kernel_rfl) (fun _ _ _ h => h) (by rfl) ?_ ?_ ?_ ?_
   rotate_left
   ·intro w'
    go_simp
    with_reducible rfl
   rotate_left
   ·simp only [SX]
    rfl
   refine pu 14 74 ?_ (ms 16 32767) rfl rfl HT_ (by kernel_rfl) (fun _ _ _ h => h) (by rfl) ?_ ?_ ?_ ?_
   rotate_left
   ·intro w'
    go_simp
    with_reducible rfl
   rotate_left
   ·simp only [SX]
    rfl
   refine pu 15 12 ?_ (ms 16 65535) rfl rfl HT_ (by kernel_rfl) (fun _ _ _ h => h) (by rfl) ?_ ?_ ?_ ?_
   rotate_left
   ·intro w'
    go_simp
    with_reducible rfl
   rotate_left
   ·simp only [SX]
    rfl
   refine done_ (done_of HT_.out (by kernel_rfl)) ?_
   try go_wp2
   go_roundg k2
   case measure => have := HJ4.out; have := HK2.out; omega
   case rel => exact ⟨(((wrap64 ((wrap64 (((rd_T35 t371 x11_2).f0) * t365)) + (wrap64 (((rd_T35 t371 x11_2).f1) * t366)))) == t368)), (wrap64 (x11_2 + 1)), (by rfl), (by rfl), H', ⟨by have := HJ4.out; have := HK2.out; omega⟩, ⟨rk HO_9⟩, ⟨rk HO_368001⟩, ⟨bk BK367⟩, ⟨bl1 HB GE367⟩⟩

/-- THE ONE PURE STATEMENT of laws_FnPairSum: yours. -/
def laws_FnPairSum.Pure : Prop := ∀ (l0 : List Int), l0.length ≤ maxLen → l0.length * 1 ≤ 140737488351232 → (∀ x ∈ l0, (Lit.int .u8 x).wf = true) → ∃ k, laws_FnPairSum.f k l0 = some true
theorem laws_FnPairSum.walk (P : laws_FnPairSum.Pure) (a0 : Option Addr) (len0 cap0 : Nat) (z0 : List Int) (w : World) (w0 : (a0 = none ∧ len0 = 0 ∧ cap0 = 0 ∧ z0 = []) ∨ ∃ x, a0 = some x ∧ len0 ≤ cap0 ∧ cap0 ≤ maxLen ∧ z0.length = cap0 ∧ (∀ i, i < z0.length → w.cell? (x.add i) = some (.int .u8 (z0.getD i 0))) ∧ ∀ n ∈ z0, (Lit.int .u8 n).wf = true) (y0 : len0 * 1 ≤ 140737488351232) :
  Calls Try.prog 8 #[.slice a0 len0 cap0] w fun e w' => e = .returned (.bool true) ∧ Below w.heap.size w w' := by
 obtain ⟨l0, rfl, hr0, hm0, hw0, hc0⟩ := ReadsInt.ofRowC w0
 obtain ⟨k, h⟩ := P l0 hm0 y0 hw0
 refine (laws_FnPairSum.calls k _ _ l0 true w (Kd.C_of_reads (d := (0 : Int)) (h1 := fun _ => rfl) hr0) hc0 h rfl).mono ?_
 rintro e w' ⟨rfl, hd⟩
 exact ⟨rfl, hd⟩

end Go.Proofs.Ytddkaiegnohkcaa.F
