-- Printed by wip/px/px.py of this claim's repository (the kit's printer, extended there). Lean checks it.
import Derived.Test.YtlgolgfcolnddaaFKinds
import Derived.Test.YtlgolgfcolnddaaFwkNet
import Derived.Test.YtlgolgfcolnddaaFimplSomeWalks
import Derived.Test.YtlgolgfcolnddaaFimplWalkPlain
import Derived.Test.YtlgolgfcolnddaaFlawswkAhead
import Derived.Test.YtlgolgfcolnddaaFspecDrawWalkPlain
import Derived.Test.YtlgolgfcolnddaaFspecWalkPlain
namespace Go.Proofs.Ytlgolgfcolnddaa.F
open Go.RowKit Go.Proofs.YtlgolgfcolnddaaW.PrintWords Go.Proofs.YtlgolgfcolnddaaW.PrintLast Go.Proofs.YtlgolgfcolnddaaW.PrintMore
attribute [local go_sem] max2_int min2_int max_two min_two max_three min_three max_four min_four   -- for this text's walks alone
set_option linter.unusedVariables false
set_option linter.unusedSimpArgs false

/-! ### laws_FnSomeNone: function 8 -/
mutual
def laws_FnSomeNone.j0 : Nat → List Int → List Int → Bool → Int → List (S58) → Option (Bool)
 | 0, _, _, _, _, _ => none
 | k + 1, x4, x5, x29, x617000, x617001 => if x29 = true then ((spec_WalkPlain.f k x617000 x617001 x4).bind fun t624 => ((laws_wkInts.f k x5 t624).bind fun t627 => (some t627))) else (if 0 < (x5.length : Int) then (if 0 ≤ (rd x5 0) then (if (rd x5 0) < (x617001.length : Int) then (if 0 ≤ (wrap64 ((x5.length : Int) - 1)) then (if (wrap64 ((x5.length : Int) - 1)) < (x5.length : Int) then (if 0 ≤ (rd x5 (wrap64 ((x5.length : Int) - 1))) then (if (rd x5 (wrap64 ((x5.length : Int) - 1))) < (x617001.length : Int) then ((impl_SomeWalks.f x617000 x617001 ((rd_T58 x617001 (rd x5 0)).f0) ((rd_T58 x617001 (rd x5 (wrap64 ((x5.length : Int) - 1)))).f1) 6).bind fun t632 => (laws_FnSomeNone.l0 k x5 t632 0 x617000 x617001)) else (none)) else (none)) else (none)) else (none)) else (none)) else (none)) else (none))
def laws_FnSomeNone.l0 : Nat → List Int → List (List Int) → Int → Int → List (S58) → Option (Bool)
 | 0, _, _, _, _, _ => none
 | k + 1, x5, x6, x7, x617000, x617001 => if x7 < (x6.length : Int) then (if 0 ≤ x7 then ((laws_wkInts.f k (rd_L1 x6 x7) x5).bind fun t636 => (if t636 = true then (some true) else (laws_FnSomeNone.l0 k x5 x6 (wrap64 (x7 + 1)) x617000 x617001))) else (none)) else (if (x6.length : Int) = 6 then (if 0 ≤ (wrap64 ((x6.length : Int) - 1)) then (if (wrap64 ((x6.length : Int) - 1)) < (x6.length : Int) then ((laws_wkAhead.f k x617000 x617001 (rd_L1 x6 (wrap64 ((x6.length : Int) - 1))) x5).bind fun t638 => (some t638)) else (none)) else (none)) else (some false))
end
def laws_FnSomeNone.f (k : Nat) (l0 : List Int) : Option (Bool) := if (l0.length : Int) > 1048576 then (some true) else ((spec_DrawWalkPlain.f k l0).bind fun bt609 => ((impl_WalkPlain.f k bt609.1 bt609.2.1 bt609.2.2).bind fun t617 => ((spec_WalkPlain.f k bt609.1 bt609.2.1 bt609.2.2).bind fun t620 => ((laws_wkInts.f k t617 t620).bind fun t623 => (if t623 = true then (laws_FnSomeNone.j0 k bt609.2.2 t617 ((t617.length : Int) == 0) bt609.1 bt609.2.1) else (laws_FnSomeNone.j0 k bt609.2.2 t617 true bt609.1 bt609.2.1))))))
theorem laws_FnSomeNone.mono_l : ∀ k, (∀ y0 y1 y2 y3 y4, LeO (laws_FnSomeNone.j0 k y0 y1 y2 y3 y4) (laws_FnSomeNone.j0 (k + 1) y0 y1 y2 y3 y4)) ∧ (∀ y0 y1 y2 y3 y4, LeO (laws_FnSomeNone.l0 k y0 y1 y2 y3 y4) (laws_FnSomeNone.l0 (k + 1) y0 y1 y2 y3 y4))
 | 0 => ⟨fun _ _ _ _ _ r h => by simp [laws_FnSomeNone.j0] at h, fun _ _ _ _ _ r h => by simp [laws_FnSomeNone.l0] at h⟩
 | k + 1 => by
  obtain ⟨ih0, ih1⟩ := laws_FnSomeNone.mono_l k
  refine ⟨?_, ?_⟩
  ·intro y0 y1 y2 y3 y4
   unfold laws_FnSomeNone.j0
   repeat' first | (with_reducible exact ih1 _ _ _ _ _) | (with_reducible exact laws_wkInts.mono _ _ _) | (with_reducible exact spec_WalkPlain.mono _ _ _ _) | (with_reducible exact LeO.refl _) | (with_reducible refine LeO.ite ?_ ?_) | (with_reducible refine LeO.bind ?_ (fun _ => ?_))
  ·intro y0 y1 y2 y3 y4
   unfold laws_FnSomeNone.l0
   repeat' first | (with_reducible exact ih1 _ _ _ _ _) | (with_reducible exact laws_wkAhead.mono _ _ _ _ _) | (with_reducible exact laws_wkInts.mono _ _ _) | (with_reducible exact LeO.refl _) | (with_reducible refine LeO.ite ?_ ?_) | (with_reducible refine LeO.bind ?_ (fun _ => ?_))
theorem laws_FnSomeNone.mono : ∀ a0 k, LeO (laws_FnSomeNone.f k a0) (laws_FnSomeNone.f (k + 1) a0) := by
 intro a0 k
 obtain ⟨ih0, ih1⟩ := laws_FnSomeNone.mono_l k
 unfold laws_FnSomeNone.f
 repeat' first | (with_reducible exact ih0 _ _ _ _ _) | (with_reducible exact impl_WalkPlain.mono _ _ _ _) | (with_reducible exact laws_wkInts.mono _ _ _) | (with_reducible exact spec_DrawWalkPlain.mono _ _) | (with_reducible exact spec_WalkPlain.mono _ _ _ _) | (with_reducible exact LeO.refl _) | (with_reducible refine LeO.ite ?_ ?_) | (with_reducible refine LeO.bind ?_ (fun _ => ?_))
def laws_FnSomeNone.T7 : Bool × List (List Nat × List Nat) := (true, [([], []), ([], []), ([1], [1]), ([], []), ([3], [3]), ([4], [4]), ([2, 5], [2, 5]), ([6], [6]), ([7], [7]), ([], []), ([9], [9]), ([], []), ([], []), ([12], [12]), ([13], [13]), ([11, 14], [11, 14]), ([15], [15]), ([10, 16], [10, 16]), ([17], [17]), ([18], [18]), ([0, 8, 19], [0, 8, 19]), ([20, 20, 0, 1, 2, 3, 4, 5, 6, 7, 8, 9, 10, 11, 12, 13, 14, 15, 16, 17, 18, 19, 20], [20])])
def laws_FnSomeNone.B7 : List Nat := [0, 0, 2, 0, 8, 24, 62, 126, 254, 0, 512, 0, 0, 4096, 12288, 30720, 63488, 130560, 261632, 523776, 1048575, 2097151]
theorem laws_FnSomeNone.tab7 : rtab .any (opsOf Try.f8 7) = laws_FnSomeNone.T7 := by kernel_rfl
theorem laws_FnSomeNone.bits7 : waitsOk laws_FnSomeNone.T7.2 laws_FnSomeNone.B7 = true := by kernel_rfl
def laws_FnSomeNone.T13 : Bool × List (List Nat × List Nat) := (true, [([], []), ([0], [0]), ([1], [1]), ([2], [2]), ([3], [3]), ([3], [3]), ([3], [3]), ([6, 3], [3, 6]), ([7, 3], [3, 7]), ([5, 8, 3], [3, 5, 8]), ([9, 3], [3, 9]), ([3], [3]), ([4, 10, 11, 3, 3], [3, 4, 10, 11]), ([3, 12], [3, 12]), ([13, 12, 0, 1, 2, 3, 4, 5, 6, 7, 8, 9, 10, 11, 12, 13], [13])])
def laws_FnSomeNone.B13 : List Nat := [0, 1, 3, 7, 15, 15, 15, 79, 207, 495, 1007, 15, 4095, 8191, 16383]
theorem laws_FnSomeNone.tab13 : rtab .any (opsOf Try.f8 13) = laws_FnSomeNone.T13 := by kernel_rfl
theorem laws_FnSomeNone.bits13 : waitsOk laws_FnSomeNone.T13.2 laws_FnSomeNone.B13 = true := by kernel_rfl
set_option maxHeartbeats 8000000 in
set_option maxRecDepth 100000 in
theorem laws_FnSomeNone.calls (k : Nat) (A0 : Option Addr) (c0 : Nat) (l0 : List Int) (r : Bool) (w : World) (hr0 : Kd.C (Kd.int .u8) w A0 l0.length l0) (hc0 : l0.length ≤ c0) (h : laws_FnSomeNone.f k l0 = some r) (hr_ : r = true) :
  Calls Try.prog 8 #[.slice A0 l0.length c0] w fun e w' => e = .returned (.bool r) ∧ Below w.heap.size w w' := by
 have hu25 := Try.underlying25
 have HR0 := ak hr0
 have HC0 := ak hc0
 clear hr0 hc0
 have HB := ak (Below.refl w.heap.size w)
 have H : (if (l0.length : Int) > 1048576 then (some true) else ((spec_DrawWalkPlain.f k l0).bind fun bt609 => ((impl_WalkPlain.f k bt609.1 bt609.2.1 bt609.2.2).bind fun t617 => ((spec_WalkPlain.f k bt609.1 bt609.2.1 bt609.2.2).bind fun t620 => ((laws_wkInts.f k t617 t620).bind fun t623 => (if t623 = true then (laws_FnSomeNone.j0 k bt609.2.2 t617 ((t617.length : Int) == 0) bt609.1 bt609.2.1) else (laws_FnSomeNone.j0 k bt609.2.2 t617 true bt609.1 bt609.2.1))))))) = some r := h
 clear h
 by_cases c2 : (l0.length : Int) > 1048576
 ·rw [if_pos c2] at H
  have c2b0 : decide (1048576 < (l0.length : Int)) = true := decide_eq_true c2
  have c2b1 : decide (1048576 < l0.length) = true := decide_eq_true (by omega)
  clear c2
  obtain rfl := Option.some.inj H
  go_enter Try.func8, Try.ntmps8
  go_wp2
  go_ret
  exact ⟨by rfl, bl HB⟩
 rw [if_neg c2] at H
 have c2b0 : decide (1048576 < (l0.length : Int)) = false := decide_eq_false c2
 have c2b1 : decide (1048576 < l0.length) = false := decide_eq_false (by omega)
 clear c2
 replace H := Option.bind_eq_some_iff.mp H
 obtain ⟨⟨t609, t610, t613⟩, A30, H⟩ := H
 have A3 := ak A30
 clear A30
 replace H := Option.bind_eq_some_iff.mp H
 obtain ⟨t617, A40, H⟩ := H
 have A4 := ak A40
 clear A40
 have HC5 := ak H
 clear H
 go_enter Try.func8, Try.ntmps8
 go_upto_region 5 with (first | ((with_reducible refine gate_callee (f := 33) rfl ?_); refine goesL_ (some 13) rfl rfl Try.func33 (by kernel_rfl) rfl #[.slice A0 l0.length c0] rfl (by (try simp only [List.map_toArray, List.map_cons, List.map_nil]); rfl) ?_; (with_reducible refine (spec_DrawWalkPlain.calls k _ _ l0 t609 t610 t613 _ ?side1 ?side2 A3.out).mono ?_); (case side1 => repeat (exact HR0.out)); (case side2 => exact HC0.out); rintro e w6 ⟨v611, v614, rfl, ho0, ho1, hb⟩; refine ⟨_, rfl, ?_⟩; have HO612 := ak (Kd.R_lower ho0 (below_size (bl HB))); have HO615 := ak (Kd.R_lower ho1 (below_size (bl HB))); replace HB := ak (below_step (bl HB) hb); (try clear hb); (try clear hb2); (try clear hk); (try clear hi); (try clear ho0); (try clear ho1)) | ((with_reducible refine gate_dst (N := 3) rfl ?_); refine box_event ?hg (N := 3) ?hd (cs := #[.int .i64 0, .slice none 0 0]) (t := 25) ?hr ?_; (case hd => rfl); (case hg => rfl); (case hr => (go_simp; done)); intro gb616 hg w7 hbox hb; replace HO612 := ak (Kd.R_below (rk HO612) hb); replace HO615 := ak (Kd.R_below (rk HO615) hb); have BK616 := ak (hbox); have GW616 := ak ((by rw [hg]; exact (below_size (bl HB)) : w.heap.size ≤ gb616)); have GE616 := ak ((by rw [hg]; exact (below_size (bl HB)) : w.heap.size ≤ gb616)); replace HB := ak (below_step (bl HB) hb); clear hb hbox hg; have hcz8_0 := bc w7 BK616 0 (.int .i64 0) rfl; have hcz8_1 := bc w7 BK616 1 (.slice none 0 0) rfl; have hfz8_0 := fz BK616 0; have hfz8_1 := fz BK616 1; obtain ⟨Ao9, co9, eo9⟩ := Kd.R_slice HO612.out; subst eo9; obtain ⟨Ao10, co10, eo10⟩ := Kd.R_slice HO615.out; subst eo10) | ((with_reducible refine gate_callee (f := 29) rfl ?_); refine goesL_ (some 18) rfl rfl Try.func29 (by kernel_rfl) rfl #[.agg #[.int .i64 t609, .slice Ao9 t610.length co9], .slice Ao10 t613.length co10] rfl (by (try simp only [List.map_toArray, List.map_cons, List.map_nil]); rfl) ?_; (with_reducible refine (impl_WalkPlain.calls k t609 _ _ t610 _ _ t613 t617 _ ?side1 ?side2 ?side3 ?side4 A4.out).mono ?_); (case side1 => refine (Kd.R_reads' (e := 58) (base := w.heap.size) (ok := fun k_ => True) (n := t610.length) (c := co9) ?_).2.2; exact (by exact (Kd.R_mono (Kd.R_far (p := ⟨gb616, 1, none⟩) (Kd.R_far (p := ⟨gb616, 0, none⟩) (Kd.R_types HO612.out BK616.out (by decide)) (fun _ hk => hk.2) (.int .i64 t609)) (fun _ hk => hk.2) (.slice Ao9 t610.length co9)) (fun _ h_ => h_.1)))); (case side2 => exact (Kd.R_reads' HO612.out).2.1); (case side3 => refine (Kd.R_reads' (e := 3) (base := w.heap.size) (ok := fun k_ => True) (n := t613.length) (c := co10) ?_).2.2; exact (by exact (Kd.R_mono (Kd.R_far (p := ⟨gb616, 1, none⟩) (Kd.R_far (p := ⟨gb616, 0, none⟩) (Kd.R_types HO615.out BK616.out (by decide)) (fun _ hk => hk.2) (.int .i64 t609)) (fun _ hk => hk.2) (.slice Ao9 t610.length co9)) (fun _ h_ => h_.1)))); (case side4 => exact (Kd.R_reads' HO615.out).2.1); rintro e w11 ⟨v618, rfl, ho0, hb⟩; refine ⟨_, rfl, ?_⟩; replace HO612 := ak (Kd.R_below (by exact (Kd.R_mono (Kd.R_far (p := ⟨gb616, 1, none⟩) (Kd.R_far (p := ⟨gb616, 0, none⟩) (Kd.R_types HO612.out BK616.out (by decide)) (fun _ hk => hk.2) (.int .i64 t609)) (fun _ hk => hk.2) (.slice Ao9 t610.length co9)) (fun _ h_ => h_.1))) hb); have HO619 := ak (Kd.R_lower (Kd.R_new' ho0 (Kd.R_lt (by exact (Kd.R_mono (Kd.R_far (p := ⟨gb616, 1, none⟩) (Kd.R_far (p := ⟨gb616, 0, none⟩) (Kd.R_types HO615.out BK616.out (by decide)) (fun _ hk => hk.2) (.int .i64 t609)) (fun _ hk => hk.2) (.slice Ao9 t610.length co9)) (fun _ h_ => h_.1))))) (below_size (bl1 HB GE616))); replace HO615 := ak (Kd.R_elder' (by exact (Kd.R_mono (Kd.R_far (p := ⟨gb616, 1, none⟩) (Kd.R_far (p := ⟨gb616, 0, none⟩) (Kd.R_types HO615.out BK616.out (by decide)) (fun _ hk => hk.2) (.int .i64 t609)) (fun _ hk => hk.2) (.slice Ao9 t610.length co9)) (fun _ h_ => h_.1))) (Kd.R_base ho0) hb); replace BK616 := ak (blk_below (g := gb616) (o := .cells #[.int .i64 t609, .slice Ao9 t610.length co9] 25 (0, 0)) (by refine blk_put (cs := #[.int .i64 t609, .slice none 0 0]) ?_ 1 _ rfl; refine blk_put (cs := #[.int .i64 0, .slice none 0 0]) ?_ 0 _ rfl; exact BK616.out) hb); replace HB := ak (below_step (bl1 HB GE616) hb); (try clear hb); (try clear hb2); (try clear hk); (try clear hi); (try clear ho0)))
 (try simp only [Act.put, List.setIfInBounds_toArray, List.set_cons_zero, List.set_cons_succ])
 go_cut [29] (fun v29 wc => ∃ (kq : Nat) (x29_4 : Bool), v29 = .bool x29_4 ∧ Aside0 (laws_FnSomeNone.j0 kq t613 t617 x29_4 t609 t610 = some r) ∧ Aside0 (kq ≤ k) ∧ Aside0 (Kd.R (Kd.int .i64) 3 wc w.heap.size (fun k_ => some k_ ≠ (v618 : Value).ownBlock) (.slice Ao10 t613.length co10) t613) ∧ Aside0 (Kd.R (Kd.int .i64) 3 wc w.heap.size (fun k_ => some k_ ≠ ((.slice Ao10 t613.length co10) : Value).ownBlock) v618 t617) ∧ Aside0 (Kd.R k58 58 wc w.heap.size (fun _ => True) (.slice Ao9 t610.length co9) t610) ∧ Aside0 (wc.heap[gb616]? = some (.cells #[.int .i64 t609, (.slice Ao9 t610.length co9)] 25 (0, 0))) ∧ Aside0 (Below w.heap.size w wc))
 case first =>
  have H := HC5.out
  clear HC5
  replace H := Option.bind_eq_some_iff.mp H
  obtain ⟨t620, A120, H⟩ := H
  have A12 := ak A120
  clear A120
  replace H := Option.bind_eq_some_iff.mp H
  obtain ⟨t623, A130, H⟩ := H
  have A13 := ak A130
  clear A130
  by_cases c14 : t623 = true
  ·subst c14
   rw [if_pos rfl] at H
   have H' := ak H
   clear H
   have hcz15_0 := bc w11 BK616 0 (.int .i64 t609) rfl
   have hcz15_1 := bc w11 BK616 1 (.slice Ao9 t610.length co9) rfl
   have hfz15_0 := fz BK616 0
   have hfz15_1 := fz BK616 1
   go_wp2_with (first | ((with_reducible refine gate_callee (f := 34) rfl ?_); refine goesL_ (some 22) rfl rfl Try.func34 (by kernel_rfl) rfl #[.agg #[.int .i64 t609, .slice Ao9 t610.length co9], .slice Ao10 t613.length co10] rfl (by (try simp only [List.map_toArray, List.map_cons, List.map_nil]); rfl) ?_; (with_reducible refine (spec_WalkPlain.calls k t609 _ _ t610 _ _ t613 t620 _ ?side1 ?side2 ?side3 ?side4 A12.out).mono ?_); (case side1 => repeat (exact (Kd.R_reads' HO612.out).2.2)); (case side2 => exact (Kd.R_reads' HO612.out).2.1); (case side3 => repeat (exact (Kd.R_reads' HO615.out).2.2)); (case side4 => exact (Kd.R_reads' HO615.out).2.1); rintro e w16 ⟨v621, rfl, ho0, hb⟩; refine ⟨_, rfl, ?_⟩; replace HO612 := ak (Kd.R_below (rk HO612) hb); have HO622 := ak (Kd.R_lower (Kd.R_new' (Kd.R_new' ho0 (Kd.R_lt (rk HO615))) (Kd.R_lt (rk HO619))) (below_size (bl1 HB GE616))); replace HO615 := ak (Kd.R_elder' (rk HO615) (Kd.R_base ho0) hb); replace HO619 := ak (Kd.R_elder' (rk HO619) (Kd.R_base ho0) hb); replace BK616 := ak (blk_below (bk BK616) hb); replace HB := ak (below_step (bl1 HB GE616) hb); (try clear hb); (try clear hb2); (try clear hk); (try clear hi); (try clear ho0); obtain ⟨Ao17, co17, eo17⟩ := Kd.R_slice HO619.out; subst eo17; obtain ⟨Ao18, co18, eo18⟩ := Kd.R_slice HO622.out; subst eo18) | ((with_reducible refine gate_callee (f := 18) rfl ?_); refine goesL_ (some 23) rfl rfl Try.func18 (by kernel_rfl) rfl #[.slice Ao17 t617.length co17, .slice Ao18 t620.length co18] rfl (by (try simp only [List.map_toArray, List.map_cons, List.map_nil]); rfl) ?_; (with_reducible refine (laws_wkInts.calls k _ _ t617 _ _ t620 true _ ?side1 ?side2 ?side3 ?side4 A13.out).mono ?_); (case side1 => repeat (exact (Kd.R_reads' HO619.out).2.2)); (case side2 => exact (Kd.R_reads' HO619.out).2.1); (case side3 => repeat (exact (Kd.R_reads' HO622.out).2.2)); (case side4 => exact (Kd.R_reads' HO622.out).2.1); rintro e w' ⟨rfl, ⟨nd, rfl⟩⟩; refine ⟨_, rfl, ?_⟩))
   go_meet
   case rel => exact ⟨_, (((t617.length : Int) == 0)), (by rfl), H', ⟨by omega⟩, ⟨by (with_reducible repeat (apply Kd.R_drewN)); exact Kd.R_mono HO615.out (fun _ hk => hk.1.2)⟩, ⟨by (with_reducible repeat (apply Kd.R_drewN)); exact Kd.R_mono HO619.out (fun _ hk => hk.1.2)⟩, ⟨rk HO612⟩, ⟨bk BK616⟩, ⟨bl1 HB GE616⟩⟩
  replace c14 := Bool.eq_false_iff.mpr c14
  subst c14
  rw [if_neg (show ¬ (false = true) by decide)] at H
  have H' := ak H
  clear H
  have hcz19_0 := bc w11 BK616 0 (.int .i64 t609) rfl
  have hcz19_1 := bc w11 BK616 1 (.slice Ao9 t610.length co9) rfl
  have hfz19_0 := fz BK616 0
  have hfz19_1 := fz BK616 1
  go_wp2_with (first | ((with_reducible refine gate_callee (f := 34) rfl ?_); refine goesL_ (some 22) rfl rfl Try.func34 (by kernel_rfl) rfl #[.agg #[.int .i64 t609, .slice Ao9 t610.length co9], .slice Ao10 t613.length co10] rfl (by (try simp only [List.map_toArray, List.map_cons, List.map_nil]); rfl) ?_; (with_reducible refine (spec_WalkPlain.calls k t609 _ _ t610 _ _ t613 t620 _ ?side1 ?side2 ?side3 ?side4 A12.out).mono ?_); (case side1 => repeat (exact (Kd.R_reads' HO612.out).2.2)); (case side2 => exact (Kd.R_reads' HO612.out).2.1); (case side3 => repeat (exact (Kd.R_reads' HO615.out).2.2)); (case side4 => exact (Kd.R_reads' HO615.out).2.1); rintro e w20 ⟨v621, rfl, ho0, hb⟩; refine ⟨_, rfl, ?_⟩; replace HO612 := ak (Kd.R_below (rk HO612) hb); have HO622 := ak (Kd.R_lower (Kd.R_new' (Kd.R_new' ho0 (Kd.R_lt (rk HO615))) (Kd.R_lt (rk HO619))) (below_size (bl1 HB GE616))); replace HO615 := ak (Kd.R_elder' (rk HO615) (Kd.R_base ho0) hb); replace HO619 := ak (Kd.R_elder' (rk HO619) (Kd.R_base ho0) hb); replace BK616 := ak (blk_below (bk BK616) hb); replace HB := ak (below_step (bl1 HB GE616) hb); (try clear hb); (try clear hb2); (try clear hk); (try clear hi); (try clear ho0); obtain ⟨Ao21, co21, eo21⟩ := Kd.R_slice HO619.out; subst eo21; obtain ⟨Ao22, co22, eo22⟩ := Kd.R_slice HO622.out; subst eo22) | ((with_reducible refine gate_callee (f := 18) rfl ?_); refine goesL_ (some 23) rfl rfl Try.func18 (by kernel_rfl) rfl #[.slice Ao21 t617.length co21, .slice Ao22 t620.length co22] rfl (by (try simp only [List.map_toArray, List.map_cons, List.map_nil]); rfl) ?_; (with_reducible refine (laws_wkInts.calls k _ _ t617 _ _ t620 false _ ?side1 ?side2 ?side3 ?side4 A13.out).mono ?_); (case side1 => repeat (exact (Kd.R_reads' HO619.out).2.2)); (case side2 => exact (Kd.R_reads' HO619.out).2.1); (case side3 => repeat (exact (Kd.R_reads' HO622.out).2.2)); (case side4 => exact (Kd.R_reads' HO622.out).2.1); rintro e w' ⟨rfl, ⟨nd, rfl⟩⟩; refine ⟨_, rfl, ?_⟩))
  go_meet
  case rel => exact ⟨_, (true), (by rfl), H', ⟨by omega⟩, ⟨by (with_reducible repeat (apply Kd.R_drewN)); exact Kd.R_mono HO615.out (fun _ hk => hk.1.2)⟩, ⟨by (with_reducible repeat (apply Kd.R_drewN)); exact Kd.R_mono HO619.out (fun _ hk => hk.1.2)⟩, ⟨rk HO612⟩, ⟨bk BK616⟩, ⟨bl1 HB GE616⟩⟩
 clear HC5
 try clear c1
 try clear c2
 try clear c2b0
 try clear c2b1
 try clear p2
 try clear c3
 try clear c8
 try clear c14
 try clear c18
 try clear hcz15_0
 try clear hcz15_1
 try clear hcz19_0
 try clear hcz19_1
 try clear hcz8_0
 try clear hcz8_1
 try clear hfz15_0
 try clear hfz15_1
 try clear hfz19_0
 try clear hfz19_1
 try clear hfz8_0
 try clear hfz8_1
 obtain ⟨kq, x29_4, rfl, HA, HJ4, HO_4, HO_5, HO_617001, BK616, HB⟩ := hcut
 cases kq with
 | zero => exact absurd HA.out (by simp [laws_FnSomeNone.j0])
 | succ kj4 =>
  have H := HA.out
  clear HA
  simp only [laws_FnSomeNone.j0] at H
  by_cases c23 : x29_4 = true
  ·subst c23
   rw [if_pos rfl] at H
   replace H := Option.bind_eq_some_iff.mp H
   obtain ⟨t624, A240, H⟩ := H
   have A24 := ak A240
   clear A240
   replace H := Option.bind_eq_some_iff.mp H
   obtain ⟨t627, A250, H⟩ := H
   have A25 := ak A250
   clear A250
   obtain rfl := Option.some.inj H
   have hcz26_0 := bc wc BK616 0 (.int .i64 t609) rfl
   have hcz26_1 := bc wc BK616 1 (.slice Ao9 t610.length co9) rfl
   have hfz26_0 := fz BK616 0
   have hfz26_1 := fz BK616 1
   go_wp2_with (first | ((with_reducible refine gate_callee (f := 34) rfl ?_); refine goesL_ (some 33) rfl rfl Try.func34 (by kernel_rfl) rfl #[.agg #[.int .i64 t609, .slice Ao9 t610.length co9], .slice Ao10 t613.length co10] rfl (by (try simp only [List.map_toArray, List.map_cons, List.map_nil]); rfl) ?_; (with_reducible refine (spec_WalkPlain.calls kj4 t609 _ _ t610 _ _ t613 t624 _ ?side1 ?side2 ?side3 ?side4 A24.out).mono ?_); (case side1 => repeat (exact (Kd.R_reads' HO_617001.out).2.2)); (case side2 => exact (Kd.R_reads' HO_617001.out).2.1); (case side3 => repeat (exact (Kd.R_reads' HO_4.out).2.2)); (case side4 => exact (Kd.R_reads' HO_4.out).2.1); rintro e w27 ⟨v625, rfl, ho0, hb⟩; refine ⟨_, rfl, ?_⟩; replace HO_617001 := ak (Kd.R_below (rk HO_617001) hb); have HO626 := ak (Kd.R_lower (Kd.R_new' (Kd.R_new' ho0 (Kd.R_lt (rk HO_4))) (Kd.R_lt (rk HO_5))) (below_size (bl1 HB GE616))); replace HO_4 := ak (Kd.R_elder' (rk HO_4) (Kd.R_base ho0) hb); replace HO_5 := ak (Kd.R_elder' (rk HO_5) (Kd.R_base ho0) hb); replace BK616 := ak (blk_below (bk BK616) hb); replace HB := ak (below_step (bl1 HB GE616) hb); (try clear hb); (try clear hb2); (try clear hk); (try clear hi); (try clear ho0); obtain ⟨Ao28, co28, eo28⟩ := Kd.R_slice HO_5.out; subst eo28; obtain ⟨Ao29, co29, eo29⟩ := Kd.R_slice HO626.out; subst eo29) | ((with_reducible refine gate_callee (f := 18) rfl ?_); refine goesL_ (some 34) rfl rfl Try.func18 (by kernel_rfl) rfl #[.slice Ao28 t617.length co28, .slice Ao29 t624.length co29] rfl (by (try simp only [List.map_toArray, List.map_cons, List.map_nil]); rfl) ?_; (with_reducible refine (laws_wkInts.calls kj4 _ _ t617 _ _ t624 t627 _ ?side1 ?side2 ?side3 ?side4 A25.out).mono ?_); (case side1 => repeat (exact (Kd.R_reads' HO_5.out).2.2)); (case side2 => exact (Kd.R_reads' HO_5.out).2.1); (case side3 => repeat (exact (Kd.R_reads' HO626.out).2.2)); (case side4 => exact (Kd.R_reads' HO626.out).2.1); rintro e w' ⟨rfl, ⟨nd, rfl⟩⟩; refine ⟨_, rfl, ?_⟩))
   go_ret
   exact ⟨by rfl, bl1 HB GE616⟩
  replace c23 := Bool.eq_false_iff.mpr c23
  subst c23
  rw [if_neg (show ¬ (false = true) by decide)] at H
  by_cases c30 : 0 < (t617.length : Int)
  rotate_left
  ·rw [if_neg c30] at H
   exact absurd H (by simp)
  rw [if_pos c30] at H
  have c30b0 : decide (0 < (t617.length : Int)) = true := decide_eq_true c30
  have c30b1 : decide (0 < t617.length) = true := decide_eq_true (by omega)
  clear c30
  by_cases c31 : 0 ≤ (rd t617 0)
  rotate_left
  ·rw [if_neg c31] at H
   exact absurd H (by simp)
  rw [if_pos c31] at H
  have c31b0 : decide (0 ≤ (rd t617 0)) = true := decide_eq_true c31
  clear c31
  by_cases c32 : (rd t617 0) < (t610.length : Int)
  rotate_left
  ·rw [if_neg c32] at H
   exact absurd H (by simp)
  rw [if_pos c32] at H
  have c32b0 : decide ((rd t617 0) < (t610.length : Int)) = true := decide_eq_true c32
  clear c32
  obtain ⟨ji33, hji33⟩ : ∃ j_ : Int, (wrap64 ((t617.length : Int) - 1)) = j_ := ⟨_, rfl⟩
  replace H : (if 0 ≤ (ji33) then (if (ji33) < (t617.length : Int) then (if 0 ≤ (rd t617 (ji33)) then (if (rd t617 (ji33)) < (t610.length : Int) then ((impl_SomeWalks.f t609 t610 ((rd_T58 t610 (rd t617 0)).f0) ((rd_T58 t610 (rd t617 (ji33))).f1) 6).bind fun t632 => (laws_FnSomeNone.l0 kj4 t617 t632 0 t609 t610)) else (none)) else (none)) else (none)) else (none)) = some r := by (rw [hji33] at H; exact H)
  have hji33w : (IntKind.i64.wrap ((t617.length : Int) - 1)) = ji33 := (i64_w _).trans hji33
  by_cases c34 : 0 ≤ (ji33)
  rotate_left
  ·rw [if_neg c34] at H
   exact absurd H (by simp)
  rw [if_pos c34] at H
  have c34b0 : decide (0 ≤ (ji33)) = true := decide_eq_true c34
  clear c34
  by_cases c35 : (ji33) < (t617.length : Int)
  rotate_left
  ·rw [if_neg c35] at H
   exact absurd H (by simp)
  rw [if_pos c35] at H
  have c35b0 : decide ((ji33) < (t617.length : Int)) = true := decide_eq_true c35
  clear c35
  by_cases c36 : 0 ≤ (rd t617 (ji33))
  rotate_left
  ·rw [if_neg c36] at H
   exact absurd H (by simp)
  rw [if_pos c36] at H
  have c36b0 : decide (0 ≤ (rd t617 (ji33))) = true := decide_eq_true c36
  clear c36
  by_cases c37 : (rd t617 (ji33)) < (t610.length : Int)
  rotate_left
  ·rw [if_neg c37] at H
   exact absurd H (by simp)
  rw [if_pos c37] at H
  have c37b0 : decide ((rd t617 (ji33)) < (t610.length : Int)) = true := decide_eq_true c37
  clear c37
  replace H := Option.bind_eq_some_iff.mp H
  obtain ⟨t632, A380, H⟩ := H
  have A38 := ak A380
  clear A380
  have H' := ak H
  clear H
  try go_wp2
  replace HO_4 := ak (Kd.R_drew HO_4.out)
  replace HO_5 := ak (Kd.R_drew HO_5.out)
  replace HO_617001 := ak (Kd.R_drew HO_617001.out)
  replace BK616 := ak (blk_drew BK616.out)
  replace HB := ak (below_drew1 HB.out)
  obtain ⟨Ao40, co40, eo40⟩ := Kd.R_slice HO_5.out
  (subst eo40)
  have p628 : 0 ≤ (0 : Int) := (by omega)
  have q628 : 0 < (t617.length : Int) := oT (by (with_reducible assumption))
  obtain ⟨ad628, e628, hx628_0⟩ := Kd.at_int (Kd.R_reads' HO_5.out).2.2 0 p628 q628
  cases e628
  have qi628 : (0 < t617.length) = True := eq_true (by omega)
  (try rw [show ((0 : Int)).toNat = 0 from rfl] at hx628_0)
  (try rw [Addr.add_zero'] at hx628_0)
  replace p628 := eq_true p628
  replace q628 := eq_true q628
  have p629 : 0 ≤ ((rd t617 0) : Int) := oT (by (with_reducible assumption))
  have q629 : (rd t617 0) < (t610.length : Int) := oT (by (with_reducible assumption))
  obtain ⟨ad629, e629, hx629_0, hx629_1, hx629_2, hx629_3, hx629_4⟩ := at_T58 (Kd.R_reads' HO_617001.out).2.2 (rd t617 0) p629 q629
  cases e629
  replace p629 := eq_true p629
  replace q629 := eq_true q629
  have p630 : 0 ≤ ((ji33) : Int) := oT (by (with_reducible assumption))
  have q630 : (ji33) < (t617.length : Int) := oT (by (with_reducible assumption))
  obtain ⟨ad630, e630, hx630_0⟩ := Kd.at_int (Kd.R_reads' HO_5.out).2.2 (ji33) p630 q630
  obtain rfl : ad628 = ad630 := (by injection e630)
  replace p630 := eq_true p630
  replace q630 := eq_true q630
  have p631 : 0 ≤ ((rd t617 (ji33)) : Int) := oT (by (with_reducible assumption))
  have q631 : (rd t617 (ji33)) < (t610.length : Int) := oT (by (with_reducible assumption))
  obtain ⟨ad631, e631, hx631_0, hx631_1, hx631_2, hx631_3, hx631_4⟩ := at_T58 (Kd.R_reads' HO_617001.out).2.2 (rd t617 (ji33)) p631 q631
  obtain rfl : ad629 = ad631 := (by injection e631)
  replace p631 := eq_true p631
  replace q631 := eq_true q631
  refine start_ (n := 22) (S := fun w' => w'.cell? ⟨gb616, 0, none⟩ = some (.int .i64 t609) ∧ w'.cell? ⟨gb616, 1, none⟩ = some (.slice (some ad629) t610.length co9) ∧ w'.cell? ad628 = some (.int .i64 (rd t617 0)) ∧ w'.cell? (ad629.add (((rd t617 0)).toNat * 5)) = some (.int .i64 ((rd_T58 t610 (rd t617 0)).f0)) ∧ w'.cell? ⟨(ad629.add (((rd t617 0)).toNat * 5)).block, (ad629.add (((rd t617 0)).toNat * 5)).off + 1, none⟩ = some (.int .i64 ((rd_T58 t610 (rd t617 0)).f1)) ∧ w'.cell? ⟨(ad629.add (((rd t617 0)).toNat * 5)).block, (ad629.add (((rd t617 0)).toNat * 5)).off + 2, none⟩ = some (.int .i64 ((rd_T58 t610 (rd t617 0)).f2)) ∧ w'.cell? ⟨(ad629.add (((rd t617 0)).toNat * 5)).block, (ad629.add (((rd t617 0)).toNat * 5)).off + 3, none⟩ = some (.int .i64 ((rd_T58 t610 (rd t617 0)).f3)) ∧ w'.cell? ⟨(ad629.add (((rd t617 0)).toNat * 5)).block, (ad629.add (((rd t617 0)).toNat * 5)).off + 4, none⟩ = some (.int .i64 ((rd_T58 t610 (rd t617 0)).f4)) ∧ w'.cell? (ad628.add ((ji33)).toNat) = some (.int .i64 (rd t617 (ji33))) ∧ w'.cell? (ad629.add (((rd t617 (ji33))).toNat * 5)) = some (.int .i64 ((rd_T58 t610 (rd t617 (ji33))).f0)) ∧ w'.cell? ⟨(ad629.add (((rd t617 (ji33))).toNat * 5)).block, (ad629.add (((rd t617 (ji33))).toNat * 5)).off + 1, none⟩ = some (.int .i64 ((rd_T58 t610 (rd t617 (ji33))).f1)) ∧ w'.cell? ⟨(ad629.add (((rd t617 (ji33))).toNat * 5)).block, (ad629.add (((rd t617 (ji33))).toNat * 5)).off + 2, none⟩ = some (.int .i64 ((rd_T58 t610 (rd t617 (ji33))).f2)) ∧ w'.cell? ⟨(ad629.add (((rd t617 (ji33))).toNat * 5)).block, (ad629.add (((rd t617 (ji33))).toNat * 5)).off + 3, none⟩ = some (.int .i64 ((rd_T58 t610 (rd t617 (ji33))).f3)) ∧ w'.cell? ⟨(ad629.add (((rd t617 (ji33))).toNat * 5)).block, (ad629.add (((rd t617 (ji33))).toNat * 5)).off + 4, none⟩ = some (.int .i64 ((rd_T58 t610 (rd t617 (ji33))).f4))) (ds := []) (ms 22 0) (by kernel_rfl) rfl (by kernel_rfl) ⟨(blk_cell BK616.out 0).trans rfl, (blk_cell BK616.out 1).trans rfl, hx628_0, hx629_0, hx629_1, hx629_2, hx629_3, hx629_4, hx630_0, hx631_0, hx631_1, hx631_2, hx631_3, hx631_4⟩ (fun hHeld => ?_); refine with_tabW laws_FnSomeNone.tab7 laws_FnSomeNone.bits7 (fun HT_ HW_ => ?_)
  generalize wc.drew = w39 at HO_4 HO_5 HO_617001 BK616 HB hx628_0 hx629_0 hx629_1 hx629_2 hx629_3 hx629_4 hx630_0 hx631_0 hx631_1 hx631_2 hx631_3 hx631_4 hHeld ⊢
  refine pu 1 36 ?_ (ms 22 2) rfl rfl HT_ (by kernel_rfl) (fun _ _ _ h => h) (by rfl) ?_ ?_ ?_ ?_
  rotate_left
  ·intro w'
   go_simp
   with_reducible rfl
  rotate_left
  ·simp only [SX]
   rfl
  refine pu 3 38 ?_ (ms 22 10) rfl rfl HT_ (by kernel_rfl) (fun _ _ _ h => h) (by rfl) ?_ ?_ ?_ ?_
  rotate_left
  ·intro w'
   go_simp
   with_reducible rfl
  rotate_left
  ·simp only [SX]
   rfl
  refine pu 4 39 ?_ (ms 22 26) rfl rfl HT_ (by kernel_rfl) (fun _ _ _ h => h) (by rfl) ?_ ?_ ?_ ?_
  rotate_left
  ·intro w'
   go_simp
   with_reducible rfl
  rotate_left
  ·simp only [SX]
   rfl
  refine pu 9 44 ?_ (ms 22 538) rfl rfl HT_ (by kernel_rfl) (fun _ _ _ h => h) (by rfl) ?_ ?_ ?_ ?_
  rotate_left
  ·intro w'
   go_simp
   with_reducible rfl
  rotate_left
  ·simp only [SX]
   rfl
  refine pu 11 46 ?_ (ms 22 2586) rfl rfl HT_ (by kernel_rfl) (fun _ _ _ h => h) (by rfl) ?_ ?_ ?_ ?_
  rotate_left
  ·intro w'
   go_simp
   with_reducible rfl
  rotate_left
  ·simp only [SX]
   rfl
  refine pu 12 47 ?_ (ms 22 6682) rfl rfl HT_ (by kernel_rfl) (fun _ _ _ h => h) (by rfl) ?_ ?_ ?_ ?_
  rotate_left
  ·intro w'
   go_simp
   with_reducible rfl
  rotate_left
  ·simp only [SX]
   rfl
  refine pu 13 48 ?_ (ms 22 14874) rfl rfl HT_ (by kernel_rfl) (fun _ _ _ h => h) (by rfl) ?_ ?_ ?_ ?_
  rotate_left
  ·intro w'
   go_simp
   with_reducible rfl
  rotate_left
  ·simp only [SX]
   rfl
  refine pu 14 49 ?_ (ms 22 31258) rfl rfl HT_ (by kernel_rfl) (fun _ _ _ h => h) (by rfl) ?_ ?_ ?_ ?_
  rotate_left
  ·intro w'
   go_simp
   with_reducible rfl
  rotate_left
  ·simp only [SX]
   rfl
  refine pu 15 50 ?_ (ms 22 64026) rfl rfl HT_ (by kernel_rfl) (fun _ _ _ h => h) (by rfl) ?_ ?_ ?_ ?_
  rotate_left
  ·intro w'
   go_simp
   with_reducible rfl
  rotate_left
  ·simp only [SX]
   rfl
  refine tk 0 35 ?_ (ms 22 64027) rfl rfl HT_ HW_ (by kernel_rfl) (fun _ _ _ h => h) (by rfl) ?_ hHeld ?_ ?_ ?_
  rotate_left
  ·rintro w' ⟨s0, s1, s2, s3, s4, s5, s6, s7, s8, s9, s10, s11, s12, s13⟩
   go_simp
   with_reducible rfl
  rotate_left
  ·simp only [SX]
   rfl
  refine tk 2 37 ?_ (ms 22 64031) rfl rfl HT_ HW_ (by kernel_rfl) (fun _ _ _ h => h) (by rfl) ?_ hHeld ?_ ?_ ?_
  rotate_left
  ·rintro w' ⟨s0, s1, s2, s3, s4, s5, s6, s7, s8, s9, s10, s11, s12, s13⟩
   go_simp
   with_reducible rfl
  rotate_left
  ·simp only [SX]
   rfl
  refine tk 5 40 ?_ (ms 22 64063) rfl rfl HT_ HW_ (by kernel_rfl) (fun _ _ _ h => h) (by rfl) ?_ hHeld ?_ ?_ ?_
  rotate_left
  ·rintro w' ⟨s0, s1, s2, s3, s4, s5, s6, s7, s8, s9, s10, s11, s12, s13⟩
   go_simp
   with_reducible rfl
  rotate_left
  ·simp only [SX]
   rfl
  refine pu 6 41 ?_ (ms 22 64127) rfl rfl HT_ (by kernel_rfl) (fun _ _ _ h => h) (by rfl) ?_ ?_ ?_ ?_
  rotate_left
  ·intro w'
   go_simp
   with_reducible rfl
  rotate_left
  ·simp only [SX]
   rfl
  refine pu 7 42 ?_ (ms 22 64255) rfl rfl HT_ (by kernel_rfl) (fun _ _ _ h => h) (by rfl) ?_ ?_ ?_ ?_
  rotate_left
  ·intro w'
   go_simp
   with_reducible rfl
  rotate_left
  ·simp only [SX]
   rfl
  refine tk 8 43 ?_ (ms 22 64511) rfl rfl HT_ HW_ (by kernel_rfl) (fun _ _ _ h => h) (by rfl) ?_ hHeld ?_ ?_ ?_
  rotate_left
  ·rintro w' ⟨s0, s1, s2, s3, s4, s5, s6, s7, s8, s9, s10, s11, s12, s13⟩
   go_simp
   with_reducible rfl
  rotate_left
  ·simp only [SX]
   rfl
  refine tk 10 45 ?_ (ms 22 65535) rfl rfl HT_ HW_ (by kernel_rfl) (fun _ _ _ h => h) (by rfl) ?_ hHeld ?_ ?_ ?_
  rotate_left
  ·rintro w' ⟨s0, s1, s2, s3, s4, s5, s6, s7, s8, s9, s10, s11, s12, s13⟩
   go_simp
   with_reducible rfl
  rotate_left
  ·simp only [SX]
   rfl
  refine tk 16 51 ?_ (ms 22 131071) rfl rfl HT_ HW_ (by kernel_rfl) (fun _ _ _ h => h) (by rfl) ?_ hHeld ?_ ?_ ?_
  rotate_left
  ·rintro w' ⟨s0, s1, s2, s3, s4, s5, s6, s7, s8, s9, s10, s11, s12, s13⟩
   go_simp
   with_reducible rfl
  rotate_left
  ·simp only [SX]
   rfl
  refine pu 17 52 ?_ (ms 22 262143) rfl rfl HT_ (by kernel_rfl) (fun _ _ _ h => h) (by rfl) ?_ ?_ ?_ ?_
  rotate_left
  ·intro w'
   go_simp
   with_reducible rfl
  rotate_left
  ·simp only [SX]
   rfl
  refine pu 18 53 ?_ (ms 22 524287) rfl rfl HT_ (by kernel_rfl) (fun _ _ _ h => h) (by rfl) ?_ ?_ ?_ ?_
  rotate_left
  ·intro w'
   go_simp
   with_reducible rfl
  rotate_left
  ·simp only [SX]
   rfl
  refine tk 19 54 ?_ (ms 22 1048575) rfl rfl HT_ HW_ (by kernel_rfl) (fun _ _ _ h => h) (by rfl) ?_ hHeld ?_ ?_ ?_
  rotate_left
  ·rintro w' ⟨s0, s1, s2, s3, s4, s5, s6, s7, s8, s9, s10, s11, s12, s13⟩
   go_simp
   with_reducible rfl
  rotate_left
  ·simp only [SX]
   rfl
  refine one_ (i := 20) (N := some 55) (ms 22 2097151) rfl rfl (one_of HT_.out (by kernel_rfl)) (by decide) (fun K hK => ?_)
  refine goes_ Try.func15 (by kernel_rfl) rfl #[.agg #[.int .i64 t609, .slice (some ad629) t610.length co9], .int .i64 ((rd_T58 t610 (rd t617 0)).f0), .int .i64 ((rd_T58 t610 (rd t617 (ji33))).f1), .int .i64 6] (by rfl) rfl rfl (by (try simp only [List.map_toArray, List.map_cons, List.map_nil]); rfl) ?_
  with_reducible refine (impl_SomeWalks.calls t609 _ _ t610 ((rd_T58 t610 (rd t617 0)).f0) ((rd_T58 t610 (rd t617 (ji33))).f1) 6 t632 _ ?side1 ?side2 A38.out).mono ?_
  (case side1 => repeat (exact (Kd.R_reads' HO_617001.out).2.2))
  (case side2 => exact (Kd.R_reads' HO_617001.out).2.1)
  rintro e w41 ⟨v633, rfl, ho0, hb⟩
  have HS2_ := (hb.cell (World.block_lt_of_cell? _ _ (hHeld.2.2.1))).trans (hHeld.2.2.1)
  have HS3_ := (hb.cell (World.block_lt_of_cell? _ _ (hHeld.2.2.2.1))).trans (hHeld.2.2.2.1)
  have HS4_ := (hb.cell (World.block_lt_of_cell? _ _ (hHeld.2.2.2.2.1))).trans (hHeld.2.2.2.2.1)
  have HS5_ := (hb.cell (World.block_lt_of_cell? _ _ (hHeld.2.2.2.2.2.1))).trans (hHeld.2.2.2.2.2.1)
  have HS6_ := (hb.cell (World.block_lt_of_cell? _ _ (hHeld.2.2.2.2.2.2.1))).trans (hHeld.2.2.2.2.2.2.1)
  have HS7_ := (hb.cell (World.block_lt_of_cell? _ _ (hHeld.2.2.2.2.2.2.2.1))).trans (hHeld.2.2.2.2.2.2.2.1)
  have HS8_ := (hb.cell (World.block_lt_of_cell? _ _ (hHeld.2.2.2.2.2.2.2.2.1))).trans (hHeld.2.2.2.2.2.2.2.2.1)
  have HS9_ := (hb.cell (World.block_lt_of_cell? _ _ (hHeld.2.2.2.2.2.2.2.2.2.1))).trans (hHeld.2.2.2.2.2.2.2.2.2.1)
  have HS10_ := (hb.cell (World.block_lt_of_cell? _ _ (hHeld.2.2.2.2.2.2.2.2.2.2.1))).trans (hHeld.2.2.2.2.2.2.2.2.2.2.1)
  have HS11_ := (hb.cell (World.block_lt_of_cell? _ _ (hHeld.2.2.2.2.2.2.2.2.2.2.2.1))).trans (hHeld.2.2.2.2.2.2.2.2.2.2.2.1)
  have HS12_ := (hb.cell (World.block_lt_of_cell? _ _ (hHeld.2.2.2.2.2.2.2.2.2.2.2.2.1))).trans (hHeld.2.2.2.2.2.2.2.2.2.2.2.2.1)
  have HS13_ := (hb.cell (World.block_lt_of_cell? _ _ (hHeld.2.2.2.2.2.2.2.2.2.2.2.2.2))).trans (hHeld.2.2.2.2.2.2.2.2.2.2.2.2.2)
  refine ⟨_, rfl, ?_⟩
  replace HO_617001 := ak (Kd.R_below (rk HO_617001) hb)
  have HO634 := ak (Kd.S_lower (Kd.S_new' (Kd.S_new' ho0 (Kd.R_lt (rk HO_4))) (Kd.R_lt (rk HO_5))) (below_size (bl1 HB GE616)))
  replace HO_4 := ak (Kd.R_below (rk HO_4) hb)
  replace HO_5 := ak (Kd.R_below (rk HO_5) hb)
  replace BK616 := ak (blk_below (bk BK616) hb)
  replace HB := ak (below_step (bl1 HB GE616) hb)
  (try clear hb)
  (try clear hb2)
  (try clear hk)
  (try clear hi)
  (try clear ho0)
  refine hK.out _ _ ⟨(blk_cell BK616.out 0).trans rfl, (blk_cell BK616.out 1).trans rfl, HS2_, HS3_, HS4_, HS5_, HS6_, HS7_, HS8_, HS9_, HS10_, HS11_, HS12_, HS13_⟩ (fun hHeld => ?_)
  clear hK K
  refine norm_ (a' := ?_) ?_ ?_
  rotate_left
  ·show Act.put _ (some 55) _ = _
   simp only [SX]
   rfl
  refine pu 21 6 ?_ (ms 22 4194303) rfl rfl HT_ (by kernel_rfl) (fun _ _ _ h => h) (by rfl) ?_ ?_ ?_ ?_
  rotate_left
  ·intro w'
   go_simp
   with_reducible rfl
  rotate_left
  ·simp only [SX]
   rfl
  refine done_ (done_of HT_.out (by kernel_rfl)) ?_
  try go_wp2
  go_loopg [7] kj4 (fun kq v7 w' => ∃ (x7_2 : Int), v7 = .int .i64 x7_2 ∧ Aside0 (laws_FnSomeNone.l0 kq t617 t632 x7_2 t609 t610 = some r) ∧ Aside0 (kq ≤ kj4) ∧ Aside0 (Kd.R (Kd.int .i64) 3 w' w.heap.size (fun _ => True) (.slice (some ad628) t617.length co40) t617) ∧ Aside0 (Kd.S (Kd.slice 3 (Kd.int .i64)) 33 w' w.heap.size (fun k_ => some k_ ≠ ((.slice (some ad628) t617.length co40) : Value).ownBlock) v633 t632) ∧ Aside0 (Kd.R k58 58 w' w.heap.size (fun _ => True) (.slice (some ad629) t610.length co9) t610) ∧ Aside0 (w'.heap[gb616]? = some (.cells #[.int .i64 t609, (.slice (some ad629) t610.length co9)] 25 (0, 0))) ∧ Aside0 (Below w.heap.size w w'))
  case atStart => exact ⟨(0), (by rfl), H', ⟨Nat.le_refl _⟩, ⟨by exact Kd.R_mono HO_5.out (fun _ hk => trivial)⟩, ⟨by exact Kd.S_mono HO634.out (fun _ hk => hk.2)⟩, ⟨rk HO_617001⟩, ⟨bk BK616⟩, ⟨bl1 HB GE616⟩⟩
  clear H'
  try clear c1
  try clear c2
  try clear c2b0
  try clear c2b1
  try clear p2
  try clear c3
  try clear p6
  try clear q6
  try clear hx6
  try clear qi6
  try clear c8
  try clear c14
  try clear c15
  try clear c18
  try clear c23
  try clear c29
  try clear c30
  try clear c30b0
  try clear c30b1
  try clear c31
  try clear c31b0
  try clear c32
  try clear c32b0
  try clear c33
  try clear c34
  try clear c34b0
  try clear c35
  try clear c35b0
  try clear c36
  try clear c36b0
  try clear c37
  try clear c37b0
  try clear hcz15_0
  try clear hcz15_1
  try clear hcz19_0
  try clear hcz19_1
  try clear hcz26_0
  try clear hcz26_1
  try clear hcz8_0
  try clear hcz8_1
  try clear hfz15_0
  try clear hfz15_1
  try clear hfz19_0
  try clear hfz19_1
  try clear hfz26_0
  try clear hfz26_1
  try clear hfz8_0
  try clear hfz8_1
  try clear hx628_0
  try clear hx629_0
  try clear hx629_1
  try clear hx629_2
  try clear hx629_3
  try clear hx629_4
  try clear hx630_0
  try clear hx631_0
  try clear hx631_1
  try clear hx631_2
  try clear hx631_3
  try clear hx631_4
  try clear p2
  try clear p628
  try clear p629
  try clear p630
  try clear p631
  try clear q628
  try clear q629
  try clear q630
  try clear q631
  obtain ⟨x7_2, rfl, HA, HK2, HO_5, HO_6, HO_617001, BK616, HB⟩ := hrel
  cases gk with
  | zero => exact absurd HA.out (by simp [laws_FnSomeNone.l0])
  | succ k2 =>
   have H := HA.out
   clear HA
   simp only [laws_FnSomeNone.l0] at H
   by_cases c42 : x7_2 < (t632.length : Int)
   ·rw [if_pos c42] at H
    have c42b0 : decide (x7_2 < (t632.length : Int)) = true := decide_eq_true c42
    clear c42
    by_cases c43 : 0 ≤ x7_2
    rotate_left
    ·rw [if_neg c43] at H
     exact absurd H (by simp)
    rw [if_pos c43] at H
    have c43b0 : decide (0 ≤ x7_2) = true := decide_eq_true c43
    clear c43
    replace H := Option.bind_eq_some_iff.mp H
    obtain ⟨t636, A440, H⟩ := H
    have A44 := ak A440
    clear A440
    by_cases c45 : t636 = true
    ·subst c45
     rw [if_pos rfl] at H
     obtain rfl := Option.some.inj H
     obtain ⟨Ao46, co46, eo46⟩ := Kd.S_slice HO_6.out
     subst eo46
     have p635 : 0 ≤ (x7_2 : Int) := oT (by (with_reducible assumption))
     have q635 : x7_2 < (t632.length : Int) := oT (by (with_reducible assumption))
     obtain ⟨ad635, A635_0, c635_0, e635, hx635_0, hl635_0, hi635_0⟩ := at_L1 (Kd.S_reads' HO_6.out).2.2 x7_2 p635 q635
     cases e635
     obtain ⟨ce635, hce635, hMe635, hcc635⟩ := Kd.S_get HO_6.out [] x7_2 p635 (by exact q635)
     obtain ⟨ve635_0, rfl, ge635_0⟩ := hMe635
     have hv635_0 := hcc635 0 _ rfl
     rw [Nat.add_zero, show ((Kd.slice 3 (Kd.int .i64))).sz = 1 from rfl, Nat.mul_one] at hv635_0
     replace hv635_0 := Option.some.inj (hv635_0.symm.trans hx635_0)
     rw [hv635_0] at ge635_0
     have HL635_0 := ak (show Kd.R (Kd.int .i64) 3 _ _ _ _ (rd_L1 t632 x7_2) from ge635_0)
     clear hv635_0 ge635_0
     clear hcc635 hce635
     have HR635_0 := ak hi635_0
     have HC635_0 := ak hl635_0
     clear hi635_0 hl635_0
     replace p635 := eq_true p635
     replace q635 := eq_true q635
     go_wp2_with (((with_reducible refine gate_callee (f := 18) rfl ?_); refine goesL_ (some 67) rfl rfl Try.func18 (by kernel_rfl) rfl #[.slice A635_0 (rd_L1 t632 x7_2).length c635_0, .slice (some ad628) t617.length co40] rfl (by (try simp only [List.map_toArray, List.map_cons, List.map_nil]); rfl) ?_; (with_reducible refine (laws_wkInts.calls k2 _ _ (rd_L1 t632 x7_2) _ _ t617 true _ ?side1 ?side2 ?side3 ?side4 A44.out).mono ?_); (case side1 => repeat (exact (by repeat ((with_reducible exact HR635_0.out))))); (case side2 => exact HC635_0.out); (case side3 => repeat (exact (Kd.R_reads' HO_5.out).2.2)); (case side4 => exact (Kd.R_reads' HO_5.out).2.1); rintro e w' ⟨rfl, ⟨nd, rfl⟩⟩; refine ⟨_, rfl, ?_⟩))
     go_ret
     exact ⟨by rfl, bl1 HB GE616⟩
    replace c45 := Bool.eq_false_iff.mpr c45
    subst c45
    rw [if_neg (show ¬ (false = true) by decide)] at H
    have H' := ak H
    clear H
    obtain ⟨Ao47, co47, eo47⟩ := Kd.S_slice HO_6.out
    subst eo47
    have p635 : 0 ≤ (x7_2 : Int) := oT (by (with_reducible assumption))
    have q635 : x7_2 < (t632.length : Int) := oT (by (with_reducible assumption))
    obtain ⟨ad635, A635_0, c635_0, e635, hx635_0, hl635_0, hi635_0⟩ := at_L1 (Kd.S_reads' HO_6.out).2.2 x7_2 p635 q635
    cases e635
    obtain ⟨ce635, hce635, hMe635, hcc635⟩ := Kd.S_get HO_6.out [] x7_2 p635 (by exact q635)
    obtain ⟨ve635_0, rfl, ge635_0⟩ := hMe635
    have hv635_0 := hcc635 0 _ rfl
    rw [Nat.add_zero, show ((Kd.slice 3 (Kd.int .i64))).sz = 1 from rfl, Nat.mul_one] at hv635_0
    replace hv635_0 := Option.some.inj (hv635_0.symm.trans hx635_0)
    rw [hv635_0] at ge635_0
    have HL635_0 := ak (show Kd.R (Kd.int .i64) 3 _ _ _ _ (rd_L1 t632 x7_2) from ge635_0)
    clear hv635_0 ge635_0
    clear hcc635 hce635
    have HR635_0 := ak hi635_0
    have HC635_0 := ak hl635_0
    clear hi635_0 hl635_0
    replace p635 := eq_true p635
    replace q635 := eq_true q635
    go_wp2_with (((with_reducible refine gate_callee (f := 18) rfl ?_); refine goesL_ (some 67) rfl rfl Try.func18 (by kernel_rfl) rfl #[.slice A635_0 (rd_L1 t632 x7_2).length c635_0, .slice (some ad628) t617.length co40] rfl (by (try simp only [List.map_toArray, List.map_cons, List.map_nil]); rfl) ?_; (with_reducible refine (laws_wkInts.calls k2 _ _ (rd_L1 t632 x7_2) _ _ t617 false _ ?side1 ?side2 ?side3 ?side4 A44.out).mono ?_); (case side1 => repeat (exact (by repeat ((with_reducible exact HR635_0.out))))); (case side2 => exact HC635_0.out); (case side3 => repeat (exact (Kd.R_reads' HO_5.out).2.2)); (case side4 => exact (Kd.R_reads' HO_5.out).2.1); rintro e w' ⟨rfl, ⟨nd, rfl⟩⟩; refine ⟨_, rfl, ?_⟩))
    go_roundg k2
    case measure => have := HJ4.out; have := HK2.out; omega
    case rel => exact ⟨(wrap64 (x7_2 + 1)), (by rfl), H', ⟨by have := HJ4.out; have := HK2.out; omega⟩, ⟨rk HO_5⟩, ⟨by (with_reducible repeat (apply Kd.S_drewN)); exact HO_6.out⟩, ⟨rk HO_617001⟩, ⟨bk BK616⟩, ⟨bl1 HB GE616⟩⟩
   rw [if_neg c42] at H
   have c42b0 : decide (x7_2 < (t632.length : Int)) = false := decide_eq_false c42
   clear c42
   by_cases c48 : (t632.length : Int) = 6
   rotate_left
   ·rw [if_neg c48] at H
    have c48b0 : ((t632.length : Int) == 6) = false := beq_eq_false_iff_ne.mpr c48
    have c48b1 : ((t632.length : Int) != 6) = true := bne_iff_ne.mpr c48
    exact absurd ((Option.some.inj H).trans hr_) Bool.false_ne_true
   rw [if_pos c48] at H
   have c48b0 : ((t632.length : Int) == 6) = true := beq_iff_eq.mpr c48
   have c48b1 : ((t632.length : Int) != 6) = false := bne_eq_false_iff_eq.mpr c48
   clear c48
   obtain ⟨ji49, hji49⟩ : ∃ j_ : Int, (wrap64 ((t632.length : Int) - 1)) = j_ := ⟨_, rfl⟩
   replace H : (if 0 ≤ (ji49) then (if (ji49) < (t632.length : Int) then ((laws_wkAhead.f k2 t609 t610 (rd_L1 t632 (ji49)) t617).bind fun t638 => (some t638)) else (none)) else (none)) = some r := by (rw [hji49] at H; exact H)
   have hji49w : (IntKind.i64.wrap ((t632.length : Int) - 1)) = ji49 := (i64_w _).trans hji49
   by_cases c50 : 0 ≤ (ji49)
   rotate_left
   ·rw [if_neg c50] at H
    exact absurd H (by simp)
   rw [if_pos c50] at H
   have c50b0 : decide (0 ≤ (ji49)) = true := decide_eq_true c50
   clear c50
   by_cases c51 : (ji49) < (t632.length : Int)
   rotate_left
   ·rw [if_neg c51] at H
    exact absurd H (by simp)
   rw [if_pos c51] at H
   have c51b0 : decide ((ji49) < (t632.length : Int)) = true := decide_eq_true c51
   clear c51
   replace H := Option.bind_eq_some_iff.mp H
   obtain ⟨t638, A520, H⟩ := H
   have A52 := ak A520
   clear A520
   obtain rfl := Option.some.inj H
   obtain ⟨Ao53, co53, eo53⟩ := Kd.S_slice HO_6.out
   subst eo53
   try go_wp2
   replace HO_5 := ak (Kd.R_drew HO_5.out)
   replace HO_6 := ak (Kd.S_drew HO_6.out)
   replace HO_617001 := ak (Kd.R_drew HO_617001.out)
   replace BK616 := ak (blk_drew BK616.out)
   replace HB := ak (below_drew1 HB.out)
   have p637 : 0 ≤ ((ji49) : Int) := oT (by (with_reducible assumption))
   have q637 : (ji49) < (t632.length : Int) := oT (by (with_reducible assumption))
   obtain ⟨ad637, A637_0, c637_0, e637, hx637_0, hl637_0, hi637_0⟩ := at_L1 (Kd.S_reads' HO_6.out).2.2 (ji49) p637 q637
   cases e637
   obtain ⟨ce637, hce637, hMe637, hcc637⟩ := Kd.S_get HO_6.out [] (ji49) p637 (by exact q637)
   obtain ⟨ve637_0, rfl, ge637_0⟩ := hMe637
   have hv637_0 := hcc637 0 _ rfl
   rw [Nat.add_zero, show ((Kd.slice 3 (Kd.int .i64))).sz = 1 from rfl, Nat.mul_one] at hv637_0
   replace hv637_0 := Option.some.inj (hv637_0.symm.trans hx637_0)
   rw [hv637_0] at ge637_0
   have HL637_0 := ak (show Kd.R (Kd.int .i64) 3 _ _ _ _ (rd_L1 t632 (ji49)) from ge637_0)
   clear hv637_0 ge637_0
   clear hcc637 hce637
   have HR637_0 := ak hi637_0
   have HC637_0 := ak hl637_0
   clear hi637_0 hl637_0
   replace p637 := eq_true p637
   replace q637 := eq_true q637
   refine start_ (n := 15) (S := fun w' => w'.cell? ⟨gb616, 0, none⟩ = some (.int .i64 t609) ∧ w'.cell? ⟨gb616, 1, none⟩ = some (.slice (some ad629) t610.length co9) ∧ w'.cell? (ad637.add ((ji49)).toNat) = some (.slice A637_0 (rd_L1 t632 (ji49)).length c637_0)) (ds := []) (ms 15 0) (by kernel_rfl) rfl (by kernel_rfl) ⟨(blk_cell BK616.out 0).trans rfl, (blk_cell BK616.out 1).trans rfl, hx637_0⟩ (fun hHeld => ?_); refine with_tabW laws_FnSomeNone.tab13 laws_FnSomeNone.bits13 (fun HT_ HW_ => ?_)
   generalize wr.drew = w54 at HO_5 HO_6 HO_617001 BK616 HB HL637_0 HR637_0 hx637_0 hHeld ⊢
   refine pu 0 68 ?_ (ms 15 1) rfl rfl HT_ (by kernel_rfl) (fun _ _ _ h => h) (by rfl) ?_ ?_ ?_ ?_
   rotate_left
   ·intro w'
    go_simp
    with_reducible rfl
   rotate_left
   ·simp only [SX]
    rfl
   refine pu 1 69 ?_ (ms 15 3) rfl rfl HT_ (by kernel_rfl) (fun _ _ _ h => h) (by rfl) ?_ ?_ ?_ ?_
   rotate_left
   ·intro w'
    go_simp
    with_reducible rfl
   rotate_left
   ·simp only [SX]
    rfl
   refine pu 2 70 ?_ (ms 15 7) rfl rfl HT_ (by kernel_rfl) (fun _ _ _ h => h) (by rfl) ?_ ?_ ?_ ?_
   rotate_left
   ·intro w'
    go_simp
    with_reducible rfl
   rotate_left
   ·simp only [SX]
    rfl
   refine pu 3 71 ?_ (ms 15 15) rfl rfl HT_ (by kernel_rfl) (fun _ _ _ h => h) (by rfl) ?_ ?_ ?_ ?_
   rotate_left
   ·intro w'
    go_simp
    with_reducible rfl
   rotate_left
   ·simp only [SX]
    rfl
   refine pu 5 73 ?_ (ms 15 47) rfl rfl HT_ (by kernel_rfl) (fun _ _ _ h => h) (by rfl) ?_ ?_ ?_ ?_
   rotate_left
   ·intro w'
    go_simp
    with_reducible rfl
   rotate_left
   ·simp only [SX]
    rfl
   refine pu 6 74 ?_ (ms 15 111) rfl rfl HT_ (by kernel_rfl) (fun _ _ _ h => h) (by rfl) ?_ ?_ ?_ ?_
   rotate_left
   ·intro w'
    go_simp
    with_reducible rfl
   rotate_left
   ·simp only [SX]
    rfl
   refine pu 7 75 ?_ (ms 15 239) rfl rfl HT_ (by kernel_rfl) (fun _ _ _ h => h) (by rfl) ?_ ?_ ?_ ?_
   rotate_left
   ·intro w'
    go_simp
    with_reducible rfl
   rotate_left
   ·simp only [SX]
    rfl
   refine pu 8 76 ?_ (ms 15 495) rfl rfl HT_ (by kernel_rfl) (fun _ _ _ h => h) (by rfl) ?_ ?_ ?_ ?_
   rotate_left
   ·intro w'
    go_simp
    with_reducible rfl
   rotate_left
   ·simp only [SX]
    rfl
   refine pu 9 77 ?_ (ms 15 1007) rfl rfl HT_ (by kernel_rfl) (fun _ _ _ h => h) (by rfl) ?_ ?_ ?_ ?_
   rotate_left
   ·intro w'
    go_simp
    with_reducible rfl
   rotate_left
   ·simp only [SX]
    rfl
   refine pu 11 79 ?_ (ms 15 3055) rfl rfl HT_ (by kernel_rfl) (fun _ _ _ h => h) (by rfl) ?_ ?_ ?_ ?_
   rotate_left
   ·intro w'
    go_simp
    with_reducible rfl
   rotate_left
   ·simp only [SX]
    rfl
   refine tk 4 72 ?_ (ms 15 3071) rfl rfl HT_ HW_ (by kernel_rfl) (fun _ _ _ h => h) (by rfl) ?_ hHeld ?_ ?_ ?_
   rotate_left
   ·rintro w' ⟨s0, s1, s2⟩
    go_simp
    with_reducible rfl
   rotate_left
   ·simp only [SX]
    rfl
   refine tk 10 78 ?_ (ms 15 4095) rfl rfl HT_ HW_ (by kernel_rfl) (fun _ _ _ h => h) (by rfl) ?_ hHeld ?_ ?_ ?_
   rotate_left
   ·rintro w' ⟨s0, s1, s2⟩
    go_simp
    with_reducible rfl
   rotate_left
   ·simp only [SX]
    rfl
   refine one_ (i := 12) (N := some 80) (ms 15 8191) rfl rfl (one_of HT_.out (by kernel_rfl)) (by decide) (fun K hK => ?_)
   refine goes_ Try.func30 (by kernel_rfl) rfl #[.agg #[.int .i64 t609, .slice (some ad629) t610.length co9], .slice A637_0 (rd_L1 t632 (ji49)).length c637_0, .slice (some ad628) t617.length co40] (by rfl) rfl rfl (by (try simp only [List.map_toArray, List.map_cons, List.map_nil]); rfl) ?_
   with_reducible refine (laws_wkAhead.calls k2 t609 _ _ t610 _ _ (rd_L1 t632 (ji49)) _ _ t617 t638 _ ?side1 ?side2 ?side3 ?side4 ?side5 ?side6 A52.out).mono ?_
   (case side1 => repeat (exact (Kd.R_reads' HO_617001.out).2.2))
   (case side2 => exact (Kd.R_reads' HO_617001.out).2.1)
   (case side3 => repeat (exact (by repeat ((with_reducible exact HR637_0.out)))))
   (case side4 => exact HC637_0.out)
   (case side5 => repeat (exact (Kd.R_reads' HO_5.out).2.2))
   (case side6 => exact (Kd.R_reads' HO_5.out).2.1)
   rintro e w55 ⟨rfl, hb⟩
   have HS2_ := (hb.cell (World.block_lt_of_cell? _ _ (hHeld.2.2))).trans (hHeld.2.2)
   refine ⟨_, rfl, ?_⟩
   replace HO_5 := ak (Kd.R_below (rk HO_5) hb)
   replace HO_6 := ak (Kd.S_below (by exact HO_6.out) hb)
   replace HO_617001 := ak (Kd.R_below (rk HO_617001) hb)
   replace HL637_0 := ak (Kd.R_below (by exact HL637_0.out) hb)
   replace BK616 := ak (blk_below (bk BK616) hb)
   replace HR637_0 := ak (Kd.C_below (by repeat ((with_reducible exact HR637_0.out))) hb)
   replace HB := ak (below_step (bl1 HB GE616) hb)
   (try clear hb)
   (try clear hb2)
   (try clear hk)
   (try clear hi)
   refine hK.out _ _ ⟨(blk_cell BK616.out 0).trans rfl, (blk_cell BK616.out 1).trans rfl, HS2_⟩ (fun hHeld => ?_)
   clear hK K
   refine norm_ (a' := ?_) ?_ ?_
   rotate_left
   ·show Act.put _ (some 80) _ = _
    simp only [SX]
    rfl
   refine pu 13 81 ?_ (ms 15 16383) rfl rfl HT_ (by kernel_rfl) (fun _ _ _ h => h) (by rfl) ?_ ?_ ?_ ?_
   rotate_left
   ·intro w'
    go_simp
    with_reducible rfl
   rotate_left
   ·simp only [SX]
    rfl
   refine pu 14 2 ?_ (ms 15 32767) rfl rfl HT_ (by kernel_rfl) (fun _ _ _ h => h) (by rfl) ?_ ?_ ?_ ?_
   rotate_left
   ·intro w'
    go_simp
    with_reducible rfl
   rotate_left
   ·simp only [SX]
    rfl
   refine done_ (done_of HT_.out (by kernel_rfl)) ?_
   try go_wp2
   go_ret
   exact ⟨by (simp [*, errW_none, errW_some] <;> rfl), bl1 HB GE616⟩

/-- THE ONE PURE STATEMENT of laws_FnSomeNone: yours. -/
def laws_FnSomeNone.Pure : Prop := ∀ (l0 : List Int), l0.length ≤ maxLen → l0.length * 1 ≤ 140737488351232 → (∀ x ∈ l0, (Lit.int .u8 x).wf = true) → ∃ k, laws_FnSomeNone.f k l0 = some true
theorem laws_FnSomeNone.walk (P : laws_FnSomeNone.Pure) (a0 : Option Addr) (len0 cap0 : Nat) (z0 : List Int) (w : World) (w0 : (a0 = none ∧ len0 = 0 ∧ cap0 = 0 ∧ z0 = []) ∨ ∃ x, a0 = some x ∧ len0 ≤ cap0 ∧ cap0 ≤ maxLen ∧ z0.length = cap0 ∧ (∀ i, i < z0.length → w.cell? (x.add i) = some (.int .u8 (z0.getD i 0))) ∧ ∀ n ∈ z0, (Lit.int .u8 n).wf = true) (y0 : len0 * 1 ≤ 140737488351232) :
  Calls Try.prog 8 #[.slice a0 len0 cap0] w fun e w' => e = .returned (.bool true) ∧ Below w.heap.size w w' := by
 obtain ⟨l0, rfl, hr0, hm0, hw0, hc0⟩ := ReadsInt.ofRowC w0
 obtain ⟨k, h⟩ := P l0 hm0 y0 hw0
 refine (laws_FnSomeNone.calls k _ _ l0 true w (Kd.C_of_reads (d := (0 : Int)) (h1 := fun _ => rfl) hr0) hc0 h rfl).mono ?_
 rintro e w' ⟨rfl, hd⟩
 exact ⟨rfl, hd⟩

end Go.Proofs.Ytlgolgfcolnddaa.F
