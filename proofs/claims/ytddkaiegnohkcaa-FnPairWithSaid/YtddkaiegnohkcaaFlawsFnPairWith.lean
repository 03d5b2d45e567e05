-- Printed by wip/px/px.py of this claim's repository (the kit's printer, extended there). Lean checks it.
import Derived.Test.YtddkaiegnohkcaaFKinds
import Derived.Test.YtddkaiegnohkcaaFimplPairAll
import Derived.Test.YtddkaiegnohkcaaFimplNearAll
import Derived.Test.YtddkaiegnohkcaaFspecPairWith
import Derived.Test.YtddkaiegnohkcaaFimplPairWith
import Derived.Test.YtddkaiegnohkcaaFspecDrawPairWith
namespace Go.Proofs.Ytddkaiegnohkcaa.F
open Go.RowKit Go.Proofs.YtddkaiegnohkcaaW.PrintWords Go.Proofs.YtddkaiegnohkcaaW.PrintLast Go.Proofs.YtddkaiegnohkcaaW.PrintMore
attribute [local go_sem] max2_int min2_int max_two min_two max_three min_three max_four min_four   -- for this text's walks alone
set_option linter.unusedVariables false
set_option linter.unusedSimpArgs false

/-! ### laws_FnPairWith: function 7 -/
mutual
def laws_FnPairWith.j0 : Nat → Int → Int → Int → Int → Bool → Int → List (S33) → Option (Bool)
 | 0, _, _, _, _, _, _, _ => none
 | k + 1, x4, x5, x6, x7, x36, x429000, x429001 => if x36 = true then ((spec_PairWith.f k x429000 x429001 x4 x5 x6).bind fun t431 => (some (x7 == t431))) else ((impl_PairAll.f k x429000 x429001 x4 x5).bind fun t432 => (laws_FnPairWith.l0 k x4 x5 x6 x7 t432 99999 (wrap64 ((t432.length : Int) - 1)) x429000 x429001))
def laws_FnPairWith.l0 : Nat → Int → Int → Int → Int → List (S35) → Int → Int → Int → List (S33) → Option (Bool)
 | 0, _, _, _, _, _, _, _, _, _ => none
 | k + 1, x4, x5, x6, x7, x8, x9, x10, x429000, x429001 => if x10 ≥ 0 then (if 0 ≤ x10 then (if x10 < (x8.length : Int) then (if ((rd_T35 x8 x10).f1) ≤ x6 then (laws_FnPairWith.l0 k x4 x5 x6 x7 x8 ((rd_T35 x8 x10).f0) (wrap64 (x10 - 1)) x429000 x429001) else (laws_FnPairWith.l0 k x4 x5 x6 x7 x8 x9 (wrap64 (x10 - 1)) x429000 x429001)) else (none)) else (none)) else (if x7 = x9 then ((impl_PairWith.f k x429000 x429001 x4 x5 (wrap64 (x6 + 1))).bind fun t437 => (if t437 ≤ x7 then ((impl_PairWith.f k x429000 x429001 x4 x5 99999).bind fun t438 => ((impl_NearAll.f k x429000 x429001 x4).bind fun t439 => (if 0 ≤ x5 then (if x5 < (t439.length : Int) then (some (t438 == (rd t439 x5))) else (none)) else (none)))) else (some false))) else (some false))
end
def laws_FnPairWith.f (k : Nat) (l0 : List Int) : Option (Bool) := if (l0.length : Int) > 1048576 then (some true) else ((spec_DrawPairWith.f k l0).bind fun bt421 => ((impl_PairWith.f k bt421.1 bt421.2.1 bt421.2.2.1 bt421.2.2.2.1 bt421.2.2.2.2).bind fun t429 => ((spec_PairWith.f k bt421.1 bt421.2.1 bt421.2.2.1 bt421.2.2.2.1 bt421.2.2.2.2).bind fun t430 => (if t429 = t430 then (laws_FnPairWith.j0 k bt421.2.2.1 bt421.2.2.2.1 bt421.2.2.2.2 t429 (decide (t429 < 0)) bt421.1 bt421.2.1) else (laws_FnPairWith.j0 k bt421.2.2.1 bt421.2.2.2.1 bt421.2.2.2.2 t429 true bt421.1 bt421.2.1)))))
theorem laws_FnPairWith.mono_l : ∀ k, (∀ y0 y1 y2 y3 y4 y5 y6, LeO (laws_FnPairWith.j0 k y0 y1 y2 y3 y4 y5 y6) (laws_FnPairWith.j0 (k + 1) y0 y1 y2 y3 y4 y5 y6)) ∧ (∀ y0 y1 y2 y3 y4 y5 y6 y7 y8, LeO (laws_FnPairWith.l0 k y0 y1 y2 y3 y4 y5 y6 y7 y8) (laws_FnPairWith.l0 (k + 1) y0 y1 y2 y3 y4 y5 y6 y7 y8))
 | 0 => ⟨fun _ _ _ _ _ _ _ r h => by simp [laws_FnPairWith.j0] at h, fun _ _ _ _ _ _ _ _ _ r h => by simp [laws_FnPairWith.l0] at h⟩
 | k + 1 => by
  obtain ⟨ih0, ih1⟩ := laws_FnPairWith.mono_l k
  refine ⟨?_, ?_⟩
  ·intro y0 y1 y2 y3 y4 y5 y6
   unfold laws_FnPairWith.j0
   repeat' first | (with_reducible exact ih1 _ _ _ _ _ _ _ _ _) | (with_reducible exact impl_PairAll.mono _ _ _ _ _) | (with_reducible exact spec_PairWith.mono _ _ _ _ _ _) | (with_reducible exact LeO.refl _) | (with_reducible refine LeO.ite ?_ ?_) | (with_reducible refine LeO.bind ?_ (fun _ => ?_))
  ·intro y0 y1 y2 y3 y4 y5 y6 y7 y8
   unfold laws_FnPairWith.l0
   repeat' first | (with_reducible exact ih1 _ _ _ _ _ _ _ _ _) | (with_reducible exact impl_NearAll.mono _ _ _ _) | (with_reducible exact impl_PairWith.mono _ _ _ _ _ _) | (with_reducible exact LeO.refl _) | (with_reducible refine LeO.ite ?_ ?_) | (with_reducible refine LeO.bind ?_ (fun _ => ?_))
theorem laws_FnPairWith.mono : ∀ a0 k, LeO (laws_FnPairWith.f k a0) (laws_FnPairWith.f (k + 1) a0) := by
 intro a0 k
 obtain ⟨ih0, ih1⟩ := laws_FnPairWith.mono_l k
 unfold laws_FnPairWith.f
 repeat' first | (with_reducible exact ih0 _ _ _ _ _ _ _) | (with_reducible exact impl_PairWith.mono _ _ _ _ _ _) | (with_reducible exact spec_DrawPairWith.mono _ _) | (with_reducible exact spec_PairWith.mono _ _ _ _ _ _) | (with_reducible exact LeO.refl _) | (with_reducible refine LeO.ite ?_ ?_) | (with_reducible refine LeO.bind ?_ (fun _ => ?_))
def laws_FnPairWith.T14 : Bool × List (List Nat × List Nat) := (true, [([], []), ([], []), ([0, 1], [0, 1]), ([2], [2]), ([3], [3]), ([3], [3]), ([3], [3]), ([3], [3]), ([7, 3], [3, 7]), ([4, 5, 6, 8, 3, 3], [3, 4, 5, 6, 8]), ([3], [3]), ([9, 10, 3], [3, 9, 10]), ([3, 11], [3, 11]), ([12, 9], [12]), ([13], [13]), ([13], [13]), ([13], [13]), ([14, 15, 16, 13, 13], [13, 14, 15, 16]), ([13], [13]), ([13], [13]), ([18, 19, 17, 13], [13, 18, 19]), ([13], [13]), ([20, 21, 13], [13, 20, 21]), ([22, 13], [13, 22]), ([17, 23, 13], [13, 17, 23]), ([13, 24], [13, 24]), ([25, 20, 0, 1, 2, 3, 4, 5, 6, 7, 8, 9, 10, 11, 12, 13, 14, 15, 16, 17, 18, 19, 20, 21, 22, 23, 24, 25], [25])])
def laws_FnPairWith.B14 : List Nat := [0, 0, 3, 7, 15, 15, 15, 15, 143, 511, 15, 2047, 4095, 8191, 16383, 16383, 16383, 131071, 16383, 16383, 1048575, 16383, 4194303, 8388607, 16777215, 33554431, 67108863]
theorem laws_FnPairWith.tab14 : rtab .any (opsOf Try.f7 14) = laws_FnPairWith.T14 := by kernel_rfl
theorem laws_FnPairWith.bits14 : waitsOk laws_FnPairWith.T14.2 laws_FnPairWith.B14 = true := by kernel_rfl
theorem laws_FnPairWith.restart {P : Program} {md : Region.Mode} {ops : Array Oper} {Q : Exit → Act → World → Prop} {S S' : World → Prop} (h : ∀ w, S' w → S w) : ∀ {fuel : Nat} {l : Array Bool} {a : Act} {w : World}, S' w → (S' w → wpAnyLast P md ops Q S' [] fuel l a w) → wpAnyLast P md ops Q S [] fuel l a w := by
 have key : ∀ (fuel : Nat) (l : Array Bool) (a : Act) (w : World), S' w → wpAnyLast P md ops Q S' [] fuel l a w → wpAnyLast P md ops Q S [] fuel l a w := by
  intro fuel
  induction fuel with
  | zero => intro l a w _ hk; exact hk
  | succ n ih =>
   intro l a w hS hk
   refine ⟨hk.1, fun i hi => wpOp_mono (fun a' w' h' => ?_) (hk.2 i hi)⟩
   have h1 := h'.1 (by simp) hS
   exact ⟨fun _ _ => h _ h1, ih _ _ _ h1 h'.2⟩
 intro fuel l a w hS hk
 exact key fuel l a w hS (hk hS)
set_option maxHeartbeats 8000000 in
set_option maxRecDepth 100000 in
theorem laws_FnPairWith.calls (k : Nat) (A0 : Option Addr) (c0 : Nat) (l0 : List Int) (r : Bool) (w : World) (hr0 : Kd.C (Kd.int .u8) w A0 l0.length l0) (hc0 : l0.length ≤ c0) (h : laws_FnPairWith.f k l0 = some r) (hr_ : r = true) :
  Calls Try.prog 7 #[.slice A0 l0.length c0] w fun e w' => e = .returned (.bool r) ∧ Below w.heap.size w w' := by
 have hu25 := Try.underlying25
 have HR0 := ak hr0
 have HC0 := ak hc0
 clear hr0 hc0
 have HB := ak (Below.refl w.heap.size w)
 have H : (if (l0.length : Int) > 1048576 then (some true) else ((spec_DrawPairWith.f k l0).bind fun bt421 => ((impl_PairWith.f k bt421.1 bt421.2.1 bt421.2.2.1 bt421.2.2.2.1 bt421.2.2.2.2).bind fun t429 => ((spec_PairWith.f k bt421.1 bt421.2.1 bt421.2.2.1 bt421.2.2.2.1 bt421.2.2.2.2).bind fun t430 => (if t429 = t430 then (laws_FnPairWith.j0 k bt421.2.2.1 bt421.2.2.2.1 bt421.2.2.2.2 t429 (decide (t429 < 0)) bt421.1 bt421.2.1) else (laws_FnPairWith.j0 k bt421.2.2.1 bt421.2.2.2.1 bt421.2.2.2.2 t429 true bt421.1 bt421.2.1)))))) = some r := h
 clear h
 by_cases c2 : (l0.length : Int) > 1048576
 ·rw [if_pos c2] at H
  have c2b0 : decide (1048576 < (l0.length : Int)) = true := decide_eq_true c2
  have c2b1 : decide (1048576 < l0.length) = true := decide_eq_true (by omega)
  clear c2
  obtain rfl := Option.some.inj H
  go_enter Try.func7, Try.ntmps7
  go_wp2
  go_ret
  exact ⟨by rfl, bl HB⟩
 rw [if_neg c2] at H
 have c2b0 : decide (1048576 < (l0.length : Int)) = false := decide_eq_false c2
 have c2b1 : decide (1048576 < l0.length) = false := decide_eq_false (by omega)
 clear c2
 replace H := Option.bind_eq_some_iff.mp H
 obtain ⟨⟨t421, t422, t425, t426, t427⟩, A30, H⟩ := H
 have A3 := ak A30
 clear A30
 replace H := Option.bind_eq_some_iff.mp H
 obtain ⟨t429, A40, H⟩ := H
 have A4 := ak A40
 clear A40
 have HC5 := ak H
 clear H
 go_enter Try.func7, Try.ntmps7
 go_upto_region 5 with (first | ((with_reducible refine gate_callee (f := 30) rfl ?_); refine goesL_ (some 16) rfl rfl Try.func30 (by kernel_rfl) rfl #[.slice A0 l0.length c0] rfl (by (try simp only [List.map_toArray, List.map_cons, List.map_nil]); rfl) ?_; (with_reducible refine (spec_DrawPairWith.calls k _ _ l0 t421 t422 t425 t426 t427 _ ?side1 ?side2 A3.out).mono ?_); (case side1 => repeat (exact HR0.out)); (case side2 => exact HC0.out); rintro e w6 ⟨v423, rfl, ho0, hb⟩; refine ⟨_, rfl, ?_⟩; have HO424 := ak (Kd.R_lower ho0 (below_size (bl HB))); replace HB := ak (below_step (bl HB) hb); (try clear hb); (try clear hb2); (try clear hk); (try clear hi); (try clear ho0)) | ((with_reducible refine gate_dst (N := 3) rfl ?_); refine box_event ?hg (N := 3) ?hd (cs := #[.int .i64 0, .slice none 0 0]) (t := 25) ?hr ?_; (case hd => rfl); (case hg => rfl); (case hr => (go_simp; done)); intro gb428 hg w7 hbox hb; replace HO424 := ak (Kd.R_below (rk HO424) hb); have BK428 := ak (hbox); have GW428 := ak ((by rw [hg]; exact (below_size (bl HB)) : w.heap.size ≤ gb428)); have GE428 := ak ((by rw [hg]; exact (below_size (bl HB)) : w.heap.size ≤ gb428)); replace HB := ak (below_step (bl HB) hb); clear hb hbox hg; have hcz8_0 := bc w7 BK428 0 (.int .i64 0) rfl; have hcz8_1 := bc w7 BK428 1 (.slice none 0 0) rfl; have hfz8_0 := fz BK428 0; have hfz8_1 := fz BK428 1; obtain ⟨Ao9, co9, eo9⟩ := Kd.R_slice HO424.out; subst eo9) | ((with_reducible refine gate_callee (f := 20) rfl ?_); refine goesL_ (some 25) rfl rfl Try.func20 (by kernel_rfl) rfl #[.agg #[.int .i64 t421, .slice Ao9 t422.length co9], .int .i64 t425, .int .i64 t426, .int .i64 t427] rfl (by (try simp only [List.map_toArray, List.map_cons, List.map_nil]); rfl) ?_; (with_reducible refine (impl_PairWith.calls k t421 _ _ t422 t425 t426 t427 t429 _ ?side1 ?side2 A4.out).mono ?_); (case side1 => refine (Kd.R_reads' (e := 33) (base := w.heap.size) (ok := fun k_ => True) (n := t422.length) (c := co9) ?_).2.2; exact (by exact (Kd.R_mono (Kd.R_far (p := ⟨gb428, 1, none⟩) (Kd.R_far (p := ⟨gb428, 0, none⟩) (Kd.R_types HO424.out BK428.out (by decide)) (fun _ hk => hk.2) (.int .i64 t421)) (fun _ hk => hk.2) (.slice Ao9 t422.length co9)) (fun _ h_ => h_.1)))); (case side2 => exact (Kd.R_reads' HO424.out).2.1); rintro e w10 ⟨rfl, hb⟩; refine ⟨_, rfl, ?_⟩; replace HO424 := ak (Kd.R_below (by exact (Kd.R_mono (Kd.R_far (p := ⟨gb428, 1, none⟩) (Kd.R_far (p := ⟨gb428, 0, none⟩) (Kd.R_types HO424.out BK428.out (by decide)) (fun _ hk => hk.2) (.int .i64 t421)) (fun _ hk => hk.2) (.slice Ao9 t422.length co9)) (fun _ h_ => h_.1))) hb); replace BK428 := ak (blk_below (g := gb428) (o := .cells #[.int .i64 t421, .slice Ao9 t422.length co9] 25 (0, 0)) (by refine blk_put (cs := #[.int .i64 t421, .slice none 0 0]) ?_ 1 _ rfl; refine blk_put (cs := #[.int .i64 0, .slice none 0 0]) ?_ 0 _ rfl; exact BK428.out) hb); replace HB := ak (below_step (bl1 HB GE428) hb); (try clear hb); (try clear hb2); (try clear hk); (try clear hi)))
 (try simp only [Act.put, List.setIfInBounds_toArray, List.set_cons_zero, List.set_cons_succ])
 go_cut [36] (fun v36 wc => ∃ (kq : Nat) (x36_4 : Bool), v36 = .bool x36_4 ∧ Aside0 (laws_FnPairWith.j0 kq t425 t426 t427 t429 x36_4 t421 t422 = some r) ∧ Aside0 (kq ≤ k) ∧ Aside0 (Kd.R k33 33 wc w.heap.size (fun _ => True) (.slice Ao9 t422.length co9) t422) ∧ Aside0 (wc.heap[gb428]? = some (.cells #[.int .i64 t421, (.slice Ao9 t422.length co9)] 25 (0, 0))) ∧ Aside0 (Below w.heap.size w wc))
 case first =>
  have H := HC5.out
  clear HC5
  replace H := Option.bind_eq_some_iff.mp H
  obtain ⟨t430, A110, H⟩ := H
  have A11 := ak A110
  clear A110
  by_cases c12 : t429 = t430
  rotate_left
  ·rw [if_neg c12] at H
   have c12b0 : (t429 == t430) = false := beq_eq_false_iff_ne.mpr c12
   have c12b1 : (t429 != t430) = true := bne_iff_ne.mpr c12
   (skip)
   have H' := ak H
   clear H
   have hcz15_0 := bc w10 BK428 0 (.int .i64 t421) rfl
   have hcz15_1 := bc w10 BK428 1 (.slice Ao9 t422.length co9) rfl
   have hfz15_0 := fz BK428 0
   have hfz15_1 := fz BK428 1
   go_wp2_with (((with_reducible refine gate_callee (f := 18) rfl ?_); refine goesL_ (some 31) rfl rfl Try.func18 (by kernel_rfl) rfl #[.agg #[.int .i64 t421, .slice Ao9 t422.length co9], .int .i64 t425, .int .i64 t426, .int .i64 t427] rfl (by (try simp only [List.map_toArray, List.map_cons, List.map_nil]); rfl) ?_; (with_reducible refine (spec_PairWith.calls k t421 _ _ t422 t425 t426 t427 t430 _ ?side1 ?side2 A11.out).mono ?_); (case side1 => repeat (exact (Kd.R_reads' HO424.out).2.2)); (case side2 => exact (Kd.R_reads' HO424.out).2.1); rintro e w16 ⟨rfl, hb⟩; refine ⟨_, rfl, ?_⟩; replace HO424 := ak (Kd.R_below (rk HO424) hb); replace BK428 := ak (blk_below (bk BK428) hb); replace HB := ak (below_step (bl1 HB GE428) hb); (try clear hb); (try clear hb2); (try clear hk); (try clear hi)))
   go_meet
   case rel => exact ⟨_, (true), (by rfl), H', ⟨by omega⟩, ⟨rk HO424⟩, ⟨bk BK428⟩, ⟨bl1 HB GE428⟩⟩
  rw [if_pos c12] at H
  have c12b0 : (t429 == t430) = true := beq_iff_eq.mpr c12
  have c12b1 : (t429 != t430) = false := bne_eq_false_iff_eq.mpr c12
  clear c12
  (skip)
  have H' := ak H
  clear H
  have hcz13_0 := bc w10 BK428 0 (.int .i64 t421) rfl
  have hcz13_1 := bc w10 BK428 1 (.slice Ao9 t422.length co9) rfl
  have hfz13_0 := fz BK428 0
  have hfz13_1 := fz BK428 1
  go_wp2_with (((with_reducible refine gate_callee (f := 18) rfl ?_); refine goesL_ (some 31) rfl rfl Try.func18 (by kernel_rfl) rfl #[.agg #[.int .i64 t421, .slice Ao9 t422.length co9], .int .i64 t425, .int .i64 t426, .int .i64 t427] rfl (by (try simp only [List.map_toArray, List.map_cons, List.map_nil]); rfl) ?_; (with_reducible refine (spec_PairWith.calls k t421 _ _ t422 t425 t426 t427 t430 _ ?side1 ?side2 A11.out).mono ?_); (case side1 => repeat (exact (Kd.R_reads' HO424.out).2.2)); (case side2 => exact (Kd.R_reads' HO424.out).2.1); rintro e w14 ⟨rfl, hb⟩; refine ⟨_, rfl, ?_⟩; replace HO424 := ak (Kd.R_below (rk HO424) hb); replace BK428 := ak (blk_below (bk BK428) hb); replace HB := ak (below_step (bl1 HB GE428) hb); (try clear hb); (try clear hb2); (try clear hk); (try clear hi)))
  go_meet
  case rel => exact ⟨_, (decide (t429 < 0)), (by rfl), H', ⟨by omega⟩, ⟨rk HO424⟩, ⟨bk BK428⟩, ⟨bl1 HB GE428⟩⟩
 clear HC5
 try clear c1
 try clear c2
 try clear c2b0
 try clear c2b1
 try clear p2
 try clear c3
 try clear c7
 try clear c12
 try clear c12b0
 try clear c12b1
 try clear hcz13_0
 try clear hcz13_1
 try clear hcz15_0
 try clear hcz15_1
 try clear hcz8_0
 try clear hcz8_1
 try clear hfz13_0
 try clear hfz13_1
 try clear hfz15_0
 try clear hfz15_1
 try clear hfz8_0
 try clear hfz8_1
 obtain ⟨kq, x36_4, rfl, HA, HJ4, HO_429001, BK428, HB⟩ := hcut
 cases kq with
 | zero => exact absurd HA.out (by simp [laws_FnPairWith.j0])
 | succ kj4 =>
  have H := HA.out
  clear HA
  simp only [laws_FnPairWith.j0] at H
  by_cases c17 : x36_4 = true
  ·subst c17
   rw [if_pos rfl] at H
   replace H := Option.bind_eq_some_iff.mp H
   obtain ⟨t431, A180, H⟩ := H
   have A18 := ak A180
   clear A180
   obtain rfl := Option.some.inj H
   have hcz19_0 := bc wc BK428 0 (.int .i64 t421) rfl
   have hcz19_1 := bc wc BK428 1 (.slice Ao9 t422.length co9) rfl
   have hfz19_0 := fz BK428 0
   have hfz19_1 := fz BK428 1
   go_wp2_with (((with_reducible refine gate_callee (f := 18) rfl ?_); refine goesL_ (some 42) rfl rfl Try.func18 (by kernel_rfl) rfl #[.agg #[.int .i64 t421, .slice Ao9 t422.length co9], .int .i64 t425, .int .i64 t426, .int .i64 t427] rfl (by (try simp only [List.map_toArray, List.map_cons, List.map_nil]); rfl) ?_; (with_reducible refine (spec_PairWith.calls kj4 t421 _ _ t422 t425 t426 t427 t431 _ ?side1 ?side2 A18.out).mono ?_); (case side1 => repeat (exact (Kd.R_reads' HO_429001.out).2.2)); (case side2 => exact (Kd.R_reads' HO_429001.out).2.1); rintro e w20 ⟨rfl, hb⟩; refine ⟨_, rfl, ?_⟩; replace HO_429001 := ak (Kd.R_below (rk HO_429001) hb); replace BK428 := ak (blk_below (bk BK428) hb); replace HB := ak (below_step (bl1 HB GE428) hb); (try clear hb); (try clear hb2); (try clear hk); (try clear hi)))
   go_ret
   exact ⟨by rfl, bl1 HB GE428⟩
  replace c17 := Bool.eq_false_iff.mpr c17
  subst c17
  rw [if_neg (show ¬ (false = true) by decide)] at H
  replace H := Option.bind_eq_some_iff.mp H
  obtain ⟨t432, A210, H⟩ := H
  have A21 := ak A210
  clear A210
  have H' := ak H
  clear H
  have hcz22_0 := bc wc BK428 0 (.int .i64 t421) rfl
  have hcz22_1 := bc wc BK428 1 (.slice Ao9 t422.length co9) rfl
  have hfz22_0 := fz BK428 0
  have hfz22_1 := fz BK428 1
  go_wp2_with (((with_reducible refine gate_callee (f := 14) rfl ?_); refine goesL_ (some 47) rfl rfl Try.func14 (by kernel_rfl) rfl #[.agg #[.int .i64 t421, .slice Ao9 t422.length co9], .int .i64 t425, .int .i64 t426] rfl (by (try simp only [List.map_toArray, List.map_cons, List.map_nil]); rfl) ?_; (with_reducible refine (impl_PairAll.calls kj4 t421 _ _ t422 t425 t426 t432 _ ?side1 ?side2 A21.out).mono ?_); (case side1 => repeat (exact (Kd.R_reads' HO_429001.out).2.2)); (case side2 => exact (Kd.R_reads' HO_429001.out).2.1); rintro e w23 ⟨v433, rfl, ho0, hb⟩; refine ⟨_, rfl, ?_⟩; replace HO_429001 := ak (Kd.R_below (rk HO_429001) hb); have HO434 := ak (Kd.R_lower ho0 (below_size (bl1 HB GE428))); replace BK428 := ak (blk_below (bk BK428) hb); replace HB := ak (below_step (bl1 HB GE428) hb); (try clear hb); (try clear hb2); (try clear hk); (try clear hi); (try clear ho0); obtain ⟨Ao24, co24, eo24⟩ := Kd.R_slice HO434.out; subst eo24))
  go_loopg [9, 10] kj4 (fun kq v9 v10 w' => ∃ (x9_2 : Int) (x10_2 : Int), v9 = .int .i64 x9_2 ∧ v10 = .int .i64 x10_2 ∧ Aside0 (laws_FnPairWith.l0 kq t425 t426 t427 t429 t432 x9_2 x10_2 t421 t422 = some r) ∧ Aside0 (kq ≤ kj4) ∧ Aside0 (Kd.R k35 35 w' w.heap.size (fun _ => True) (.slice Ao24 t432.length co24) t432) ∧ Aside0 (Kd.R k33 33 w' w.heap.size (fun _ => True) (.slice Ao9 t422.length co9) t422) ∧ Aside0 (w'.heap[gb428]? = some (.cells #[.int .i64 t421, (.slice Ao9 t422.length co9)] 25 (0, 0))) ∧ Aside0 (Below w.heap.size w w'))
  case atStart => exact ⟨(99999), (wrap64 ((t432.length : Int) - 1)), (by rfl), (by rfl), H', ⟨Nat.le_refl _⟩, ⟨rk HO434⟩, ⟨rk HO_429001⟩, ⟨bk BK428⟩, ⟨bl1 HB GE428⟩⟩
  clear H'
  try clear c1
  try clear c2
  try clear c2b0
  try clear c2b1
  try clear p2
  try clear c3
  try clear p6
  try clear c7
  try clear c12
  try clear c12b0
  try clear c12b1
  try clear c14
  try clear c17
  try clear c18
  try clear c20
  try clear hcz13_0
  try clear hcz13_1
  try clear hcz15_0
  try clear hcz15_1
  try clear hcz19_0
  try clear hcz19_1
  try clear hcz22_0
  try clear hcz22_1
  try clear hcz8_0
  try clear hcz8_1
  try clear hfz13_0
  try clear hfz13_1
  try clear hfz15_0
  try clear hfz15_1
  try clear hfz19_0
  try clear hfz19_1
  try clear hfz22_0
  try clear hfz22_1
  try clear hfz8_0
  try clear hfz8_1
  try clear p2
  obtain ⟨x9_2, x10_2, rfl, rfl, HA, HK2, HO_8, HO_429001, BK428, HB⟩ := hrel
  cases gk with
  | zero => exact absurd HA.out (by simp [laws_FnPairWith.l0])
  | succ k2 =>
   have H := HA.out
   clear HA
   simp only [laws_FnPairWith.l0] at H
   by_cases c25 : x10_2 ≥ 0
   ·rw [if_pos c25] at H
    have c25b0 : decide (0 ≤ x10_2) = true := decide_eq_true c25
    clear c25
    by_cases c26 : 0 ≤ x10_2
    rotate_left
    ·rw [if_neg c26] at H
     exact absurd H (by simp)
    rw [if_pos c26] at H
    have c26b0 : decide (0 ≤ x10_2) = true := decide_eq_true c26
    clear c26
    by_cases c27 : x10_2 < (t432.length : Int)
    rotate_left
    ·rw [if_neg c27] at H
     exact absurd H (by simp)
    rw [if_pos c27] at H
    have c27b0 : decide (x10_2 < (t432.length : Int)) = true := decide_eq_true c27
    clear c27
    by_cases c28 : ((rd_T35 t432 x10_2).f1) ≤ t427
    rotate_left
    ·rw [if_neg c28] at H
     have c28b0 : decide (((rd_T35 t432 x10_2).f1) ≤ t427) = false := decide_eq_false c28
     clear c28
     have H' := ak H
     clear H
     have p435 : 0 ≤ (x10_2 : Int) := oT (by (with_reducible assumption))
     have q435 : x10_2 < (t432.length : Int) := oT (by (with_reducible assumption))
     obtain ⟨ad435, e435, hx435_0, hx435_1⟩ := at_T35 (Kd.R_reads' HO_8.out).2.2 x10_2 p435 q435
     cases e435
     replace p435 := eq_true p435
     replace q435 := eq_true q435
     go_wp2
     go_roundg k2
     case measure => have := HJ4.out; have := HK2.out; omega
     case rel => exact ⟨(x9_2), (wrap64 (x10_2 - 1)), (by rfl), (by rfl), H', ⟨by have := HJ4.out; have := HK2.out; omega⟩, ⟨rk HO_8⟩, ⟨rk HO_429001⟩, ⟨bk BK428⟩, ⟨bl1 HB GE428⟩⟩
    rw [if_pos c28] at H
    have c28b0 : decide (((rd_T35 t432 x10_2).f1) ≤ t427) = true := decide_eq_true c28
    clear c28
    have H' := ak H
    clear H
    have p435 : 0 ≤ (x10_2 : Int) := oT (by (with_reducible assumption))
    have q435 : x10_2 < (t432.length : Int) := oT (by (with_reducible assumption))
    obtain ⟨ad435, e435, hx435_0, hx435_1⟩ := at_T35 (Kd.R_reads' HO_8.out).2.2 x10_2 p435 q435
    cases e435
    replace p435 := eq_true p435
    replace q435 := eq_true q435
    have p436 : 0 ≤ (x10_2 : Int) := oT (by (with_reducible assumption))
    have q436 : x10_2 < (t432.length : Int) := oT (by (with_reducible assumption))
    obtain ⟨ad436, e436, hx436_0, hx436_1⟩ := at_T35 (Kd.R_reads' HO_8.out).2.2 x10_2 p436 q436
    obtain rfl : ad435 = ad436 := (by injection e436)
    replace p436 := eq_true p436
    replace q436 := eq_true q436
    go_wp2
    go_roundg k2
    case measure => have := HJ4.out; have := HK2.out; omega
    case rel => exact ⟨((rd_T35 t432 x10_2).f0), (wrap64 (x10_2 - 1)), (by rfl), (by rfl), H', ⟨by have := HJ4.out; have := HK2.out; omega⟩, ⟨rk HO_8⟩, ⟨rk HO_429001⟩, ⟨bk BK428⟩, ⟨bl1 HB GE428⟩⟩
   rw [if_neg c25] at H
   have c25b0 : decide (0 ≤ x10_2) = false := decide_eq_false c25
   clear c25
   by_cases c29 : t429 = x9_2
   rotate_left
   ·rw [if_neg c29] at H
    have c29b0 : (t429 == x9_2) = false := beq_eq_false_iff_ne.mpr c29
    have c29b1 : (t429 != x9_2) = true := bne_iff_ne.mpr c29
    exact absurd ((Option.some.inj H).trans hr_) Bool.false_ne_true
   rw [if_pos c29] at H
   have c29b0 : (t429 == x9_2) = true := beq_iff_eq.mpr c29
   have c29b1 : (t429 != x9_2) = false := bne_eq_false_iff_eq.mpr c29
   clear c29
   replace H := Option.bind_eq_some_iff.mp H
   obtain ⟨t437, A300, H⟩ := H
   have A30 := ak A300
   clear A300
   by_cases c31 : t437 ≤ t429
   rotate_left
   ·rw [if_neg c31] at H
    have c31b0 : decide (t437 ≤ t429) = false := decide_eq_false c31
    clear c31
    exact absurd ((Option.some.inj H).trans hr_) Bool.false_ne_true
   rw [if_pos c31] at H
   have c31b0 : decide (t437 ≤ t429) = true := decide_eq_true c31
   clear c31
   replace H := Option.bind_eq_some_iff.mp H
   obtain ⟨t438, A320, H⟩ := H
   have A32 := ak A320
   clear A320
   replace H := Option.bind_eq_some_iff.mp H
   obtain ⟨t439, A330, H⟩ := H
   have A33 := ak A330
   clear A330
   by_cases c34 : 0 ≤ t426
   rotate_left
   ·rw [if_neg c34] at H
    exact absurd H (by simp)
   rw [if_pos c34] at H
   have c34b0 : decide (0 ≤ t426) = true := decide_eq_true c34
   clear c34
   by_cases c35 : t426 < (t439.length : Int)
   rotate_left
   ·rw [if_neg c35] at H
    exact absurd H (by simp)
   rw [if_pos c35] at H
   have c35b0 : decide (t426 < (t439.length : Int)) = true := decide_eq_true c35
   clear c35
   obtain rfl := Option.some.inj H
   try go_wp2
   replace HO_8 := ak (Kd.R_drew HO_8.out)
   replace HO_429001 := ak (Kd.R_drew HO_429001.out)
   replace BK428 := ak (blk_drew BK428.out)
   replace HB := ak (below_drew1 HB.out)
   refine start_ (n := 27) (S := fun w' => w'.cell? ⟨gb428, 0, none⟩ = some (.int .i64 t421) ∧ w'.cell? ⟨gb428, 1, none⟩ = some (.slice Ao9 t422.length co9)) (ds := []) (ms 27 0) (by kernel_rfl) rfl (by kernel_rfl) ⟨(blk_cell BK428.out 0).trans rfl, (blk_cell BK428.out 1).trans rfl⟩ (fun hHeld => ?_); refine with_tabW laws_FnPairWith.tab14 laws_FnPairWith.bits14 (fun HT_ HW_ => ?_)
   generalize wr.drew = w36 at HO_8 HO_429001 BK428 HB hHeld ⊢
   refine pu 0 67 ?_ (ms 27 1) rfl rfl HT_ (by kernel_rfl) (fun _ _ _ h => h) (by rfl) ?_ ?_ ?_ ?_
   rotate_left
   ·intro w'
    go_simp
    with_reducible rfl
   rotate_left
   ·simp only [SX]
    rfl
   refine pu 1 68 ?_ (ms 27 3) rfl rfl HT_ (by kernel_rfl) (fun _ _ _ h => h) (by rfl) ?_ ?_ ?_ ?_
   rotate_left
   ·intro w'
    go_simp
    with_reducible rfl
   rotate_left
   ·simp only [SX]
    rfl
   refine pu 2 69 ?_ (ms 27 7) rfl rfl HT_ (by kernel_rfl) (fun _ _ _ h => h) (by rfl) ?_ ?_ ?_ ?_
   rotate_left
   ·intro w'
    go_simp
    with_reducible rfl
   rotate_left
   ·simp only [SX]
    rfl
   refine pu 3 70 ?_ (ms 27 15) rfl rfl HT_ (by kernel_rfl) (fun _ _ _ h => h) (by rfl) ?_ ?_ ?_ ?_
   rotate_left
   ·intro w'
    go_simp
    with_reducible rfl
   rotate_left
   ·simp only [SX]
    rfl
   refine pu 5 72 ?_ (ms 27 47) rfl rfl HT_ (by kernel_rfl) (fun _ _ _ h => h) (by rfl) ?_ ?_ ?_ ?_
   rotate_left
   ·intro w'
    go_simp
    with_reducible rfl
   rotate_left
   ·simp only [SX]
    rfl
   refine pu 6 73 ?_ (ms 27 111) rfl rfl HT_ (by kernel_rfl) (fun _ _ _ h => h) (by rfl) ?_ ?_ ?_ ?_
   rotate_left
   ·intro w'
    go_simp
    with_reducible rfl
   rotate_left
   ·simp only [SX]
    rfl
   refine pu 7 74 ?_ (ms 27 239) rfl rfl HT_ (by kernel_rfl) (fun _ _ _ h => h) (by rfl) ?_ ?_ ?_ ?_
   rotate_left
   ·intro w'
    go_simp
    with_reducible rfl
   rotate_left
   ·simp only [SX]
    rfl
   refine pu 8 75 ?_ (ms 27 495) rfl rfl HT_ (by kernel_rfl) (fun _ _ _ h => h) (by rfl) ?_ ?_ ?_ ?_
   rotate_left
   ·intro w'
    go_simp
    with_reducible rfl
   rotate_left
   ·simp only [SX]
    rfl
   refine pu 10 77 ?_ (ms 27 1519) rfl rfl HT_ (by kernel_rfl) (fun _ _ _ h => h) (by rfl) ?_ ?_ ?_ ?_
   rotate_left
   ·intro w'
    go_simp
    with_reducible rfl
   rotate_left
   ·simp only [SX]
    rfl
   refine tk 4 71 ?_ (ms 27 1535) rfl rfl HT_ HW_ (by kernel_rfl) (fun _ _ _ h => h) (by rfl) ?_ hHeld ?_ ?_ ?_
   rotate_left
   ·rintro w' ⟨s0, s1⟩
    go_simp
    with_reducible rfl
   rotate_left
   ·simp only [SX]
    rfl
   refine one_ (i := 9) (N := some 76) (ms 27 2047) rfl rfl (one_of HT_.out (by kernel_rfl)) (by decide) (fun K hK => ?_)
   refine goes_ Try.func20 (by kernel_rfl) rfl #[.agg #[.int .i64 t421, .slice Ao9 t422.length co9], .int .i64 t425, .int .i64 t426, .int .i64 (wrap64 (t427 + 1))] (by rfl) rfl rfl (by (try simp only [List.map_toArray, List.map_cons, List.map_nil]); rfl) ?_
   with_reducible refine (impl_PairWith.calls k2 t421 _ _ t422 t425 t426 (wrap64 (t427 + 1)) t437 _ ?side1 ?side2 A30.out).mono ?_
   (case side1 => repeat (exact (Kd.R_reads' HO_429001.out).2.2))
   (case side2 => exact (Kd.R_reads' HO_429001.out).2.1)
   rintro e w37 ⟨rfl, hb⟩
   refine ⟨_, rfl, ?_⟩
   replace HO_8 := ak (Kd.R_below (rk HO_8) hb)
   replace HO_429001 := ak (Kd.R_below (rk HO_429001) hb)
   replace BK428 := ak (blk_below (bk BK428) hb)
   replace HB := ak (below_step (bl1 HB GE428) hb)
   (try clear hb)
   (try clear hb2)
   (try clear hk)
   (try clear hi)
   refine hK.out _ _ ⟨(blk_cell BK428.out 0).trans rfl, (blk_cell BK428.out 1).trans rfl⟩ (fun hHeld => ?_)
   clear hK K
   refine norm_ (a' := ?_) ?_ ?_
   rotate_left
   ·show Act.put _ (some 76) _ = _
    simp only [SX]
    rfl
   refine pu 11 78 ?_ (ms 27 4095) rfl rfl HT_ (by kernel_rfl) (fun _ _ _ h => h) (by rfl) ?_ ?_ ?_ ?_
   rotate_left
   ·intro w'
    go_simp
    with_reducible rfl
   rotate_left
   ·simp only [SX]
    rfl
   refine pu 12 79 ?_ (ms 27 8191) rfl rfl HT_ (by kernel_rfl) (fun _ _ _ h => h) (by rfl) ?_ ?_ ?_ ?_
   rotate_left
   ·intro w'
    go_simp
    with_reducible rfl
   rotate_left
   ·simp only [SX]
    rfl
   refine pu 13 80 ?_ (ms 27 16383) rfl rfl HT_ (by kernel_rfl) (fun _ _ _ h => h) (by rfl) ?_ ?_ ?_ ?_
   rotate_left
   ·intro w'
    go_simp
    with_reducible rfl
   rotate_left
   ·simp only [SX]
    rfl
   refine pu 15 82 ?_ (ms 27 49151) rfl rfl HT_ (by kernel_rfl) (fun _ _ _ h => h) (by rfl) ?_ ?_ ?_ ?_
   rotate_left
   ·intro w'
    go_simp
    with_reducible rfl
   rotate_left
   ·simp only [SX]
    rfl
   refine pu 16 83 ?_ (ms 27 114687) rfl rfl HT_ (by kernel_rfl) (fun _ _ _ h => h) (by rfl) ?_ ?_ ?_ ?_
   rotate_left
   ·intro w'
    go_simp
    with_reducible rfl
   rotate_left
   ·simp only [SX]
    rfl
   refine pu 19 86 ?_ (ms 27 638975) rfl rfl HT_ (by kernel_rfl) (fun _ _ _ h => h) (by rfl) ?_ ?_ ?_ ?_
   rotate_left
   ·intro w'
    go_simp
    with_reducible rfl
   rotate_left
   ·simp only [SX]
    rfl
   refine pu 21 88 ?_ (ms 27 2736127) rfl rfl HT_ (by kernel_rfl) (fun _ _ _ h => h) (by rfl) ?_ ?_ ?_ ?_
   rotate_left
   ·intro w'
    go_simp
    with_reducible rfl
   rotate_left
   ·simp only [SX]
    rfl
   refine tk 14 81 ?_ (ms 27 2752511) rfl rfl HT_ HW_ (by kernel_rfl) (fun _ _ _ h => h) (by rfl) ?_ hHeld ?_ ?_ ?_
   rotate_left
   ·rintro w' ⟨s0, s1⟩
    go_simp
    with_reducible rfl
   rotate_left
   ·simp only [SX]
    rfl
   refine tk 18 85 ?_ (ms 27 3014655) rfl rfl HT_ HW_ (by kernel_rfl) (fun _ _ _ h => h) (by rfl) ?_ hHeld ?_ ?_ ?_
   rotate_left
   ·rintro w' ⟨s0, s1⟩
    go_simp
    with_reducible rfl
   rotate_left
   ·simp only [SX]
    rfl
   refine one_ (i := 17) (N := some 84) (ms 27 3145727) rfl rfl (one_of HT_.out (by kernel_rfl)) (by decide) (fun K hK => ?_)
   refine goes_ Try.func20 (by kernel_rfl) rfl #[.agg #[.int .i64 t421, .slice Ao9 t422.length co9], .int .i64 t425, .int .i64 t426, .int .i64 99999] (by rfl) rfl rfl (by (try simp only [List.map_toArray, List.map_cons, List.map_nil]); rfl) ?_
   with_reducible refine (impl_PairWith.calls k2 t421 _ _ t422 t425 t426 99999 t438 _ ?side1 ?side2 A32.out).mono ?_
   (case side1 => repeat (exact (Kd.R_reads' HO_429001.out).2.2))
   (case side2 => exact (Kd.R_reads' HO_429001.out).2.1)
   rintro e w38 ⟨rfl, hb⟩
   refine ⟨_, rfl, ?_⟩
   replace HO_8 := ak (Kd.R_below (rk HO_8) hb)
   replace HO_429001 := ak (Kd.R_below (rk HO_429001) hb)
   replace BK428 := ak (blk_below (bk BK428) hb)
   replace HB := ak (below_step (bl1 HB GE428) hb)
   (try clear hb)
   (try clear hb2)
   (try clear hk)
   (try clear hi)
   refine hK.out _ _ ⟨(blk_cell BK428.out 0).trans rfl, (blk_cell BK428.out 1).trans rfl⟩ (fun hHeld => ?_)
   clear hK K
   refine norm_ (a' := ?_) ?_ ?_
   rotate_left
   ·show Act.put _ (some 84) _ = _
    simp only [SX]
    rfl
   refine one_ (i := 20) (N := some 87) (ms 27 4194303) rfl rfl (one_of HT_.out (by kernel_rfl)) (by decide) (fun K hK => ?_)
   refine goes_ Try.func31 (by kernel_rfl) rfl #[.agg #[.int .i64 t421, .slice Ao9 t422.length co9], .int .i64 t425] (by rfl) rfl rfl (by (try simp only [List.map_toArray, List.map_cons, List.map_nil]); rfl) ?_
   with_reducible refine (impl_NearAll.calls k2 t421 _ _ t422 t425 t439 _ ?side1 ?side2 A33.out).mono ?_
   (case side1 => repeat (exact (Kd.R_reads' HO_429001.out).2.2))
   (case side2 => exact (Kd.R_reads' HO_429001.out).2.1)
   rintro e w39 ⟨v440, rfl, ho0, hb⟩
   refine ⟨_, rfl, ?_⟩
   replace HO_8 := ak (Kd.R_below (rk HO_8) hb)
   replace HO_429001 := ak (Kd.R_below (rk HO_429001) hb)
   have HO441 := ak (Kd.R_lower ho0 (below_size (bl1 HB GE428)))
   replace BK428 := ak (blk_below (bk BK428) hb)
   replace HB := ak (below_step (bl1 HB GE428) hb)
   (try clear hb)
   (try clear hb2)
   (try clear hk)
   (try clear hi)
   (try clear ho0)
   obtain ⟨Ao40, co40, eo40⟩ := Kd.R_slice HO441.out
   (subst eo40)
   have p442 : 0 ≤ (t426 : Int) := oT (by (with_reducible assumption))
   have q442 : t426 < (t439.length : Int) := oT (by (with_reducible assumption))
   obtain ⟨ad442, e442, hx442_0⟩ := Kd.at_int (Kd.R_reads' HO441.out).2.2 t426 p442 q442
   cases e442
   replace p442 := eq_true p442
   replace q442 := eq_true q442
   refine hK.out _ _ ⟨(blk_cell BK428.out 0).trans rfl, (blk_cell BK428.out 1).trans rfl⟩ (fun hHeld => ?_)
   refine laws_FnPairWith.restart (S' := fun w' => w'.cell? ⟨gb428, 0, none⟩ = some (.int .i64 t421) ∧ w'.cell? ⟨gb428, 1, none⟩ = some (.slice Ao9 t422.length co9) ∧ w'.cell? (ad442.add (t426).toNat) = some (.int .i64 (rd t439 t426))) (fun w' h_ => ⟨h_.1, h_.2.1⟩) ⟨hHeld.1, hHeld.2, hx442_0⟩ (fun hHeld => ?_)
   clear hK K
   refine norm_ (a' := ?_) ?_ ?_
   rotate_left
   ·show Act.put _ (some 87) _ = _
    simp only [SX]
    rfl
   refine pu 22 89 ?_ (ms 27 8388607) rfl rfl HT_ (by kernel_rfl) (fun _ _ _ h => h) (by rfl) ?_ ?_ ?_ ?_
   rotate_left
   ·intro w'
    go_simp
    with_reducible rfl
   rotate_left
   ·simp only [SX]
    rfl
   refine tk 23 90 ?_ (ms 27 16777215) rfl rfl HT_ HW_ (by kernel_rfl) (fun _ _ _ h => h) (by rfl) ?_ hHeld ?_ ?_ ?_
   rotate_left
   ·rintro w' ⟨s0, s1, s2⟩
    go_simp
    with_reducible rfl
   rotate_left
   ·simp only [SX]
    rfl
   refine pu 24 91 ?_ (ms 27 33554431) rfl rfl HT_ (by kernel_rfl) (fun _ _ _ h => h) (by rfl) ?_ ?_ ?_ ?_
   rotate_left
   ·intro w'
    go_simp
    with_reducible rfl
   rotate_left
   ·simp only [SX]
    rfl
   refine pu 25 92 ?_ (ms 27 67108863) rfl rfl HT_ (by kernel_rfl) (fun _ _ _ h => h) (by rfl) ?_ ?_ ?_ ?_
   rotate_left
   ·intro w'
    go_simp
    with_reducible rfl
   rotate_left
   ·simp only [SX]
    rfl
   refine pu 26 2 ?_ (ms 27 134217727) rfl rfl HT_ (by kernel_rfl) (fun _ _ _ h => h) (by rfl) ?_ ?_ ?_ ?_
   rotate_left
   ·intro w'
    go_simp
    with_reducible rfl
   rotate_left
   ·simp only [SX]
    rfl
   refine done_ (done_of HT_.out (by kernel_rfl)) ?_
   try go_wp2
   go_ret
   exact ⟨by (simp [*, errW_none, errW_some] <;> rfl), bl1 HB GE428⟩

/-- THE ONE PURE STATEMENT of laws_FnPairWith: yours. -/
def laws_FnPairWith.Pure : Prop := ∀ (l0 : List Int), l0.length ≤ maxLen → l0.length * 1 ≤ 140737488351232 → (∀ x ∈ l0, (Lit.int .u8 x).wf = true) → ∃ k, laws_FnPairWith.f k l0 = some true
theorem laws_FnPairWith.walk (P : laws_FnPairWith.Pure) (a0 : Option Addr) (len0 cap0 : Nat) (z0 : List Int) (w : World) (w0 : (a0 = none ∧ len0 = 0 ∧ cap0 = 0 ∧ z0 = []) ∨ ∃ x, a0 = some x ∧ len0 ≤ cap0 ∧ cap0 ≤ maxLen ∧ z0.length = cap0 ∧ (∀ i, i < z0.length → w.cell? (x.add i) = some (.int .u8 (z0.getD i 0))) ∧ ∀ n ∈ z0, (Lit.int .u8 n).wf = true) (y0 : len0 * 1 ≤ 140737488351232) :
  Calls Try.prog 7 #[.slice a0 len0 cap0] w fun e w' => e = .returned (.bool true) ∧ Below w.heap.size w w' := by
 obtain ⟨l0, rfl, hr0, hm0, hw0, hc0⟩ := ReadsInt.ofRowC w0
 obtain ⟨k, h⟩ := P l0 hm0 y0 hw0
 refine (laws_FnPairWith.calls k _ _ l0 true w (Kd.C_of_reads (d := (0 : Int)) (h1 := fun _ => rfl) hr0) hc0 h rfl).mono ?_
 rintro e w' ⟨rfl, hd⟩
 exact ⟨rfl, hd⟩

end Go.Proofs.Ytddkaiegnohkcaa.F
