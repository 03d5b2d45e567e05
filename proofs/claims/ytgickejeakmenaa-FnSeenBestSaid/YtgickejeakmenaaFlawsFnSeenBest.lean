-- Printed by wip/px/px.py of this claim's repository (the kit's printer, extended there). Lean checks it.
import Derived.Test.YtgickejeakmenaaFKinds
import Derived.Test.YtgickejeakmenaaFwkNet
import Derived.Test.YtgickejeakmenaaFspecDrawSeenBest
import Derived.Test.YtgickejeakmenaaFimplSeenBest
import Derived.Test.YtgickejeakmenaaFspecSeenBest
import Derived.Test.YtgickejeakmenaaFimplSeenCost
namespace Go.Proofs.Ytgickejeakmenaa.F
open Go.RowKit Go.Proofs.YtgickejeakmenaaW.PrintWords Go.Proofs.YtgickejeakmenaaW.PrintLast Go.Proofs.YtgickejeakmenaaW.PrintMore
attribute [local go_sem] max2_int min2_int max_two min_two max_three min_three max_four min_four   -- for this text's walks alone
set_option linter.unusedVariables false
set_option linter.unusedSimpArgs false

/-! ### laws_FnSeenBest: function 14 -/
mutual
def laws_FnSeenBest.j0 : Nat → List (List Int) → List Int → Int → List Int → Int → Bool → Int → List (S41) → Option (Bool)
 | 0, _, _, _, _, _, _, _, _ => none
 | k + 1, x4, x5, x6, x7, x8, x44, x392000, x392001 => if x44 = true then (if x6 = x8 then ((laws_wkInts.f k x5 x7).bind fun t401 => (some t401)) else (some false)) else (laws_FnSeenBest.l0 k x4 x5 x6 0 x392000 x392001)
def laws_FnSeenBest.l0 : Nat → List (List Int) → List Int → Int → Int → Int → List (S41) → Option (Bool)
 | 0, _, _, _, _, _, _ => none
 | k + 1, x4, x5, x6, x9, x392000, x392001 => if x9 < (x5.length : Int) then (laws_FnSeenBest.l1 k x4 x5 x6 x9 0 x392000 x392001) else (if (x5.length : Int) = (x4.length : Int) then ((impl_SeenCost.f k x392000 x392001 x4 x5).bind fun t402 => (some (t402 == x6))) else (some false))
def laws_FnSeenBest.l1 : Nat → List (List Int) → List Int → Int → Int → Int → Int → List (S41) → Option (Bool)
 | 0, _, _, _, _, _, _, _ => none
 | k + 1, x4, x5, x6, x9, x10, x392000, x392001 => if x10 < x392000 then ((some (([] : List Int) : List Int)).bind fun y403 => (if y403.length + x5.length < 17592186044416 then ((some (y403 ++ x5 : List Int)).bind fun y406 => (if 0 ≤ x9 then (if x9 < (y406.length : Int) then ((impl_SeenCost.f k x392000 x392001 x4 (y406.set (x9 : Int).toNat x10)).bind fun t410 => (if t410 < x6 then (some false) else (laws_FnSeenBest.l1 k x4 x5 x6 x9 (wrap64 (x10 + 1)) x392000 x392001))) else (none)) else (none))) else (none))) else (laws_FnSeenBest.l0 k x4 x5 x6 (wrap64 (x9 + 1)) x392000 x392001)
end
def laws_FnSeenBest.f (k : Nat) (l0 : List Int) : Option (Bool) := if (l0.length : Int) > 1048576 then (some true) else ((spec_DrawSeenBest.f k l0).bind fun bt384 => ((impl_SeenBest.f k bt384.1 bt384.2.1 bt384.2.2).bind fun bt392 => ((spec_SeenBest.f k bt384.1 bt384.2.1 bt384.2.2).bind fun bt396 => (if bt392.2 = bt396.2 then ((laws_wkInts.f k bt392.1 bt396.1).bind fun t400 => (if t400 = true then (laws_FnSeenBest.j0 k bt384.2.2 bt392.1 bt392.2 bt396.1 bt396.2 (decide (bt392.2 < 0)) bt384.1 bt384.2.1) else (laws_FnSeenBest.j0 k bt384.2.2 bt392.1 bt392.2 bt396.1 bt396.2 true bt384.1 bt384.2.1))) else (laws_FnSeenBest.j0 k bt384.2.2 bt392.1 bt392.2 bt396.1 bt396.2 true bt384.1 bt384.2.1)))))
theorem laws_FnSeenBest.mono_l : ∀ k, (∀ y0 y1 y2 y3 y4 y5 y6 y7, LeO (laws_FnSeenBest.j0 k y0 y1 y2 y3 y4 y5 y6 y7) (laws_FnSeenBest.j0 (k + 1) y0 y1 y2 y3 y4 y5 y6 y7)) ∧ (∀ y0 y1 y2 y3 y4 y5, LeO (laws_FnSeenBest.l0 k y0 y1 y2 y3 y4 y5) (laws_FnSeenBest.l0 (k + 1) y0 y1 y2 y3 y4 y5)) ∧ (∀ y0 y1 y2 y3 y4 y5 y6, LeO (laws_FnSeenBest.l1 k y0 y1 y2 y3 y4 y5 y6) (laws_FnSeenBest.l1 (k + 1) y0 y1 y2 y3 y4 y5 y6))
 | 0 => ⟨fun _ _ _ _ _ _ _ _ r h => by simp [laws_FnSeenBest.j0] at h, fun _ _ _ _ _ _ r h => by simp [laws_FnSeenBest.l0] at h, fun _ _ _ _ _ _ _ r h => by simp [laws_FnSeenBest.l1] at h⟩
 | k + 1 => by
  obtain ⟨ih0, ih1, ih2⟩ := laws_FnSeenBest.mono_l k
  refine ⟨?_, ?_, ?_⟩
  ·intro y0 y1 y2 y3 y4 y5 y6 y7
   unfold laws_FnSeenBest.j0
   repeat' first
   | (with_reducible exact ih0 _ _ _ _ _ _ _ _)
   | (with_reducible exact ih1 _ _ _ _ _ _)
   | (with_reducible exact ih2 _ _ _ _ _ _ _)
   | (with_reducible exact impl_SeenBest.mono _ _ _ _)
   | (with_reducible exact impl_SeenCost.mono _ _ _ _ _)
   | (with_reducible exact laws_wkInts.mono _ _ _)
   | (with_reducible exact spec_DrawSeenBest.mono _ _)
   | (with_reducible exact spec_SeenBest.mono _ _ _ _)
   | (with_reducible exact LeO.refl _)
   | (with_reducible exact LeO.none _)
   | (with_reducible refine LeO.ite ?_ ?_)
   | (with_reducible refine LeO.bind ?_ (fun _ => ?_))
   | exact ih0 _ _ _ _ _ _ _ _
   | exact ih1 _ _ _ _ _ _
   | exact ih2 _ _ _ _ _ _ _
   | exact impl_SeenBest.mono _ _ _ _
   | exact impl_SeenCost.mono _ _ _ _ _
   | exact laws_wkInts.mono _ _ _
   | exact spec_DrawSeenBest.mono _ _
   | exact spec_SeenBest.mono _ _ _ _
   | exact LeO.none _
   | refine LeO.ite ?_ ?_
   | refine LeO.bind ?_ (fun _ => ?_)
  ·intro y0 y1 y2 y3 y4 y5
   unfold laws_FnSeenBest.l0
   repeat' first
   | (with_reducible exact ih0 _ _ _ _ _ _ _ _)
   | (with_reducible exact ih1 _ _ _ _ _ _)
   | (with_reducible exact ih2 _ _ _ _ _ _ _)
   | (with_reducible exact impl_SeenBest.mono _ _ _ _)
   | (with_reducible exact impl_SeenCost.mono _ _ _ _ _)
   | (with_reducible exact laws_wkInts.mono _ _ _)
   | (with_reducible exact spec_DrawSeenBest.mono _ _)
   | (with_reducible exact spec_SeenBest.mono _ _ _ _)
   | (with_reducible exact LeO.refl _)
   | (with_reducible exact LeO.none _)
   | (with_reducible refine LeO.ite ?_ ?_)
   | (with_reducible refine LeO.bind ?_ (fun _ => ?_))
   | exact ih0 _ _ _ _ _ _ _ _
   | exact ih1 _ _ _ _ _ _
   | exact ih2 _ _ _ _ _ _ _
   | exact impl_SeenBest.mono _ _ _ _
   | exact impl_SeenCost.mono _ _ _ _ _
   | exact laws_wkInts.mono _ _ _
   | exact spec_DrawSeenBest.mono _ _
   | exact spec_SeenBest.mono _ _ _ _
   | exact LeO.none _
   | refine LeO.ite ?_ ?_
   | refine LeO.bind ?_ (fun _ => ?_)
  ·intro y0 y1 y2 y3 y4 y5 y6
   unfold laws_FnSeenBest.l1
   repeat' first
   | (with_reducible exact ih0 _ _ _ _ _ _ _ _)
   | (with_reducible exact ih1 _ _ _ _ _ _)
   | (with_reducible exact ih2 _ _ _ _ _ _ _)
   | (with_reducible exact impl_SeenBest.mono _ _ _ _)
   | (with_reducible exact impl_SeenCost.mono _ _ _ _ _)
   | (with_reducible exact laws_wkInts.mono _ _ _)
   | (with_reducible exact spec_DrawSeenBest.mono _ _)
   | (with_reducible exact spec_SeenBest.mono _ _ _ _)
   | (with_reducible exact LeO.refl _)
   | (with_reducible exact LeO.none _)
   | (with_reducible refine LeO.ite ?_ ?_)
   | (with_reducible refine LeO.bind ?_ (fun _ => ?_))
   | exact ih0 _ _ _ _ _ _ _ _
   | exact ih1 _ _ _ _ _ _
   | exact ih2 _ _ _ _ _ _ _
   | exact impl_SeenBest.mono _ _ _ _
   | exact impl_SeenCost.mono _ _ _ _ _
   | exact laws_wkInts.mono _ _ _
   | exact spec_DrawSeenBest.mono _ _
   | exact spec_SeenBest.mono _ _ _ _
   | exact LeO.none _
   | refine LeO.ite ?_ ?_
   | refine LeO.bind ?_ (fun _ => ?_)
theorem laws_FnSeenBest.mono : ∀ a0 k, LeO (laws_FnSeenBest.f k a0) (laws_FnSeenBest.f (k + 1) a0) := by
 intro a0 k
 obtain ⟨ih0, ih1, ih2⟩ := laws_FnSeenBest.mono_l k
 unfold laws_FnSeenBest.f
 repeat' first
   | (with_reducible exact ih0 _ _ _ _ _ _ _ _)
   | (with_reducible exact ih1 _ _ _ _ _ _)
   | (with_reducible exact ih2 _ _ _ _ _ _ _)
   | (with_reducible exact impl_SeenBest.mono _ _ _ _)
   | (with_reducible exact impl_SeenCost.mono _ _ _ _ _)
   | (with_reducible exact laws_wkInts.mono _ _ _)
   | (with_reducible exact spec_DrawSeenBest.mono _ _)
   | (with_reducible exact spec_SeenBest.mono _ _ _ _)
   | (with_reducible exact LeO.refl _)
   | (with_reducible exact LeO.none _)
   | (with_reducible refine LeO.ite ?_ ?_)
   | (with_reducible refine LeO.bind ?_ (fun _ => ?_))
   | exact ih0 _ _ _ _ _ _ _ _
   | exact ih1 _ _ _ _ _ _
   | exact ih2 _ _ _ _ _ _ _
   | exact impl_SeenBest.mono _ _ _ _
   | exact impl_SeenCost.mono _ _ _ _ _
   | exact laws_wkInts.mono _ _ _
   | exact spec_DrawSeenBest.mono _ _
   | exact spec_SeenBest.mono _ _ _ _
   | exact LeO.none _
   | refine LeO.ite ?_ ?_
   | refine LeO.bind ?_ (fun _ => ?_)
set_option maxHeartbeats 8000000 in
set_option maxRecDepth 100000 in
theorem laws_FnSeenBest.calls (k : Nat) (A0 : Option Addr) (c0 : Nat) (l0 : List Int) (r : Bool) (w : World) (hr0 : Kd.C (Kd.int .u8) w A0 l0.length l0) (hc0 : l0.length ≤ c0) (h : laws_FnSeenBest.f k l0 = some r) (hr_ : r = true) :
  Calls Try.prog 14 #[.slice A0 l0.length c0] w fun e w' => e = .returned (.bool r) ∧ Below w.heap.size w w' := by
 have hu25 := Try.underlying25
 have HR0 := ak hr0
 have HC0 := ak hc0
 clear hr0 hc0
 have HB := ak (Below.refl w.heap.size w)
 have H : (if (l0.length : Int) > 1048576 then (some true) else ((spec_DrawSeenBest.f k l0).bind fun bt384 => ((impl_SeenBest.f k bt384.1 bt384.2.1 bt384.2.2).bind fun bt392 => ((spec_SeenBest.f k bt384.1 bt384.2.1 bt384.2.2).bind fun bt396 => (if bt392.2 = bt396.2 then ((laws_wkInts.f k bt392.1 bt396.1).bind fun t400 => (if t400 = true then (laws_FnSeenBest.j0 k bt384.2.2 bt392.1 bt392.2 bt396.1 bt396.2 (decide (bt392.2 < 0)) bt384.1 bt384.2.1) else (laws_FnSeenBest.j0 k bt384.2.2 bt392.1 bt392.2 bt396.1 bt396.2 true bt384.1 bt384.2.1))) else (laws_FnSeenBest.j0 k bt384.2.2 bt392.1 bt392.2 bt396.1 bt396.2 true bt384.1 bt384.2.1)))))) = some r := h
 clear h
 by_cases c2 : (l0.length : Int) > 1048576
 ·rw [if_pos c2] at H
  have c2b0 : decide (1048576 < (l0.length : Int)) = true := decide_eq_true c2
  have c2b1 : decide (1048576 < l0.length) = true := decide_eq_true (by omega)
  clear c2
  obtain rfl := Option.some.inj H
  go_enter Try.func14, Try.ntmps14
  go_wp2
  go_ret
  exact ⟨by first | rfl | (simp [errW_none, errW_some] <;> rfl) | (simp [*, errW_none, errW_some] <;> rfl), bl HB⟩
 rw [if_neg c2] at H
 have c2b0 : decide (1048576 < (l0.length : Int)) = false := decide_eq_false c2
 have c2b1 : decide (1048576 < l0.length) = false := decide_eq_false (by omega)
 clear c2
 replace H := Option.bind_eq_some_iff.mp H
 obtain ⟨⟨t384, t385, t388⟩, A30, H⟩ := H
 have A3 := ak A30
 clear A30
 replace H := Option.bind_eq_some_iff.mp H
 obtain ⟨⟨t392, t395⟩, A40, H⟩ := H
 have A4 := ak A40
 clear A40
 replace H := Option.bind_eq_some_iff.mp H
 obtain ⟨⟨t396, t399⟩, A50, H⟩ := H
 have A5 := ak A50
 clear A50
 have HC6 := ak H
 clear H
 go_enter Try.func14, Try.ntmps14
 go_upto_region 6 with (first | ((with_reducible refine gate_callee (f := 36) rfl ?_); refine goesL_ (some 17) rfl rfl Try.func36 (by kernel_rfl) rfl #[.slice A0 l0.length c0] rfl (by (try simp only [List.map_toArray, List.map_cons, List.map_nil]); first | done | rfl | (simp only [List.length_drop, List.length_take]; rfl)) ?_; (with_reducible refine (spec_DrawSeenBest.calls k _ _ l0 t384 t385 t388 _ ?side1 ?side2 A3.out).mono ?_); (case side1 => repeat (first | exact HR0.out | (with_reducible refine Kd.C_alloc ?_ _) | (with_reducible refine Kd.C_drewN ?_ _) | (with_reducible refine Kd.C_drew ?_))); (case side2 => exact HC0.out); rintro e w7 ⟨v386, v389, rfl, ho0, ho1, hb⟩; refine ⟨_, rfl, ?_⟩; have HO387 := ak (Kd.R_lower ho0 (below_size (bl HB))); have HO390 := ak (Kd.S_lower ho1 (below_size (bl HB))); replace HB := ak (below_step (bl HB) hb); (try clear hb); (try clear hb2); (try clear hk); (try clear hi); (try clear ho0); (try clear ho1)) | ((with_reducible refine gate_dst (N := 3) rfl ?_); refine box_event ?hg (N := 3) ?hd (cs := #[.int .i64 0, .slice none 0 0]) (t := 25) ?hr ?_; (case hd => rfl); (case hg => rfl); (case hr => first | (go_simp; done) | (go_simp; rfl)); intro gb391 hg w8 hbox hb; replace HO387 := ak (Kd.R_below (rk HO387) hb); replace HO390 := ak (Kd.S_below (by (with_reducible repeat (first | apply Kd.S_alloc | apply Kd.S_drewN | apply Kd.S_drew)); exact HO390.out) hb); have BK391 := ak (hbox); have GW391 := ak ((by rw [hg]; exact (below_size (bl HB)) : w.heap.size ≤ gb391)); have GE391 := ak ((by rw [hg]; exact (below_size (bl HB)) : w.heap.size ≤ gb391)); replace HB := ak (below_step (bl HB) hb); clear hb hbox hg; have hcz9_0 := bc w8 BK391 0 (.int .i64 0) rfl; have hcz9_1 := bc w8 BK391 1 (.slice none 0 0) rfl; have hfz9_0 := fz BK391 0; have hfz9_1 := fz BK391 1; obtain ⟨Ao10, co10, eo10⟩ := Kd.R_slice HO387.out; subst eo10; obtain ⟨Ao11, co11, eo11⟩ := Kd.S_slice HO390.out; subst eo11) | ((with_reducible refine gate_callee (f := 37) rfl ?_); refine goesL_ (some 23) rfl rfl Try.func37 (by kernel_rfl) rfl #[.agg #[.int .i64 t384, .slice Ao10 t385.length co10], .slice Ao11 t388.length co11] rfl (by (try simp only [List.map_toArray, List.map_cons, List.map_nil]); first | done | rfl | (simp only [List.length_drop, List.length_take]; rfl)) ?_; (with_reducible refine (impl_SeenBest.calls k t384 _ _ t385 _ _ t388 t392 t395 _ ?side1 ?side2 ?side3 ?side4 A4.out).mono ?_); (case side1 => refine (Kd.R_reads' (e := 41) (base := w.heap.size) (ok := fun k_ => True) (n := t385.length) (c := co10) ?_).2.2; exact (by (with_reducible repeat (first | apply Kd.R_alloc | apply Kd.R_drewN | apply Kd.R_drew)); exact (Kd.R_mono (Kd.R_far (p := ⟨gb391, 1, none⟩) (Kd.R_far (p := ⟨gb391, 0, none⟩) (Kd.R_types HO387.out BK391.out (by decide)) (fun _ hk => hk.2) (.int .i64 t384)) (fun _ hk => hk.2) (.slice Ao10 t385.length co10)) (fun _ h_ => h_.1)))); (case side2 => exact (Kd.R_reads' HO387.out).2.1); (case side3 => refine (Kd.S_reads' (e := 26) (base := w.heap.size) (ok := fun k_ => True) (n := t388.length) (c := co11) ?_).2.2; exact (by (with_reducible repeat (first | apply Kd.S_alloc | apply Kd.S_drewN | apply Kd.S_drew)); exact (Kd.S_mono (Kd.S_far (p := ⟨gb391, 1, none⟩) (Kd.S_far (p := ⟨gb391, 0, none⟩) (Kd.S_types HO390.out BK391.out (by decide)) (fun _ hk => hk.2) (.int .i64 t384)) (fun _ hk => hk.2) (.slice Ao10 t385.length co10)) (fun _ h_ => h_.1)))); (case side4 => exact (Kd.S_reads' HO390.out).2.1); rintro e w12 ⟨v393, rfl, ho0, hb⟩; refine ⟨_, rfl, ?_⟩; replace HO387 := ak (Kd.R_below (by (with_reducible repeat (first | apply Kd.R_alloc | apply Kd.R_drewN | apply Kd.R_drew)); exact (Kd.R_mono (Kd.R_far (p := ⟨gb391, 1, none⟩) (Kd.R_far (p := ⟨gb391, 0, none⟩) (Kd.R_types HO387.out BK391.out (by decide)) (fun _ hk => hk.2) (.int .i64 t384)) (fun _ hk => hk.2) (.slice Ao10 t385.length co10)) (fun _ h_ => h_.1))) hb); replace HO390 := ak (Kd.S_elder' (by (with_reducible repeat (first | apply Kd.S_alloc | apply Kd.S_drewN | apply Kd.S_drew)); exact (Kd.S_mono (Kd.S_far (p := ⟨gb391, 1, none⟩) (Kd.S_far (p := ⟨gb391, 0, none⟩) (Kd.S_types HO390.out BK391.out (by decide)) (fun _ hk => hk.2) (.int .i64 t384)) (fun _ hk => hk.2) (.slice Ao10 t385.length co10)) (fun _ h_ => h_.1))) (Kd.R_base ho0) hb); have HO394 := ak (Kd.R_lower ho0 (below_size (bl1 HB GE391))); replace BK391 := ak (blk_below (g := gb391) (o := .cells #[.int .i64 t384, .slice Ao10 t385.length co10] 25 (0, 0)) (by (with_reducible repeat (first | refine blk_drewN ?_ _ | refine blk_drew ?_ | refine blk_alloc ?_ _)); refine blk_put (cs := #[.int .i64 t384, .slice none 0 0]) ?_ 1 _ rfl; refine blk_put (cs := #[.int .i64 0, .slice none 0 0]) ?_ 0 _ rfl; (with_reducible repeat (first | refine blk_drewN ?_ _ | refine blk_drew ?_ | refine blk_alloc ?_ _)); exact BK391.out) hb); replace HB := ak (below_step (bl1 HB GE391) hb); (try clear hb); (try clear hb2); (try clear hk); (try clear hi); (try clear ho0); have hcz13_0 := bc w12 BK391 0 (.int .i64 t384) rfl; have hcz13_1 := bc w12 BK391 1 (.slice Ao10 t385.length co10) rfl; have hfz13_0 := fz BK391 0; have hfz13_1 := fz BK391 1) | ((with_reducible refine gate_callee (f := 38) rfl ?_); refine goesL_ (some 29) rfl rfl Try.func38 (by kernel_rfl) rfl #[.agg #[.int .i64 t384, .slice Ao10 t385.length co10], .slice Ao11 t388.length co11] rfl (by (try simp only [List.map_toArray, List.map_cons, List.map_nil]); first | done | rfl | (simp only [List.length_drop, List.length_take]; rfl)) ?_; (with_reducible refine (spec_SeenBest.calls k t384 _ _ t385 _ _ t388 t396 t399 _ ?side1 ?side2 ?side3 ?side4 A5.out).mono ?_); (case side1 => repeat (first | exact (Kd.R_reads' HO387.out).2.2 | (with_reducible refine Kd.C_alloc ?_ _) | (with_reducible refine Kd.C_drewN ?_ _) | (with_reducible refine Kd.C_drew ?_))); (case side2 => exact (Kd.R_reads' HO387.out).2.1); (case side3 => repeat (first | exact (Kd.S_reads' HO390.out).2.2 | (with_reducible refine Kd.C_alloc ?_ _) | (with_reducible refine Kd.C_drewN ?_ _) | (with_reducible refine Kd.C_drew ?_))); (case side4 => exact (Kd.S_reads' HO390.out).2.1); rintro e w14 ⟨v397, rfl, ho0, hb⟩; refine ⟨_, rfl, ?_⟩; replace HO387 := ak (Kd.R_below (rk HO387) hb); replace HO390 := ak (Kd.S_elder' (by (with_reducible repeat (first | apply Kd.S_alloc | apply Kd.S_drewN | apply Kd.S_drew)); exact HO390.out) (Kd.R_base ho0) hb); have HO398 := ak (Kd.R_lower (Kd.R_new' ho0 (Kd.R_lt (rk HO394))) (below_size (bl1 HB GE391))); replace HO394 := ak (Kd.R_elder' (rk HO394) (Kd.R_base ho0) hb); replace BK391 := ak (blk_below (bk BK391) hb); replace HB := ak (below_step (bl1 HB GE391) hb); (try clear hb); (try clear hb2); (try clear hk); (try clear hi); (try clear ho0)))
 (try simp only [Act.put, List.setIfInBounds_toArray, List.set_cons_zero, List.set_cons_succ])
 go_cut [44] (fun v44 wc => ∃ (kq : Nat) (x44_5 : Bool), v44 = .bool x44_5 ∧ Aside0 (laws_FnSeenBest.j0 kq t388 t392 t395 t396 t399 x44_5 t384 t385 = some r) ∧ Aside0 (kq ≤ k) ∧ Aside0 (Kd.S (Kd.slice 3 (Kd.int .i64)) 26 wc w.heap.size (fun k_ => some k_ ≠ (v393 : Value).ownBlock ∧ some k_ ≠ (v397 : Value).ownBlock) (.slice Ao11 t388.length co11) t388) ∧ Aside0 (Kd.R (Kd.int .i64) 3 wc w.heap.size (fun k_ => some k_ ≠ (v397 : Value).ownBlock) v393 t392) ∧ Aside0 (Kd.R (Kd.int .i64) 3 wc w.heap.size (fun k_ => some k_ ≠ (v393 : Value).ownBlock) v397 t396) ∧ Aside0 (Kd.R k41 41 wc w.heap.size (fun _ => True) (.slice Ao10 t385.length co10) t385) ∧ Aside0 (wc.heap[gb391]? = some (.cells #[.int .i64 t384, (.slice Ao10 t385.length co10)] 25 (0, 0))) ∧ Aside0 (Below w.heap.size w wc))
 case first =>
  have H := HC6.out
  clear HC6
  by_cases c15 : t395 = t399
  rotate_left
  ·rw [if_neg c15] at H
   have c15b0 : (t395 == t399) = false := beq_eq_false_iff_ne.mpr c15
   have c15b1 : (t395 != t399) = true := bne_iff_ne.mpr c15
   (first | rw [c15b0] | (simp only [i64_w, i32_w]; rw [c15b0]) | skip)
   have H' := ak H
   clear H
   go_wp2
   go_meet
   case rel => exact ⟨_, (true), (by first | rfl | (simp; done) | (simp [*]; done)), H', ⟨by first | omega | exact Nat.le_refl _⟩, ⟨by (with_reducible repeat (first | apply Kd.S_alloc | apply Kd.S_drewN | apply Kd.S_drew)); exact Kd.S_mono HO390.out (fun _ hk => ⟨hk.1.2, hk.2⟩)⟩, ⟨by (with_reducible repeat (first | apply Kd.R_alloc | apply Kd.R_drewN | apply Kd.R_drew)); exact Kd.R_mono HO394.out (fun _ hk => hk.2)⟩, ⟨by (with_reducible repeat (first | apply Kd.R_alloc | apply Kd.R_drewN | apply Kd.R_drew)); exact Kd.R_mono HO398.out (fun _ hk => hk.2)⟩, ⟨rk HO387⟩, ⟨bk BK391⟩, ⟨bl1 HB GE391⟩⟩
  rw [if_pos c15] at H
  have c15b0 : (t395 == t399) = true := beq_iff_eq.mpr c15
  have c15b1 : (t395 != t399) = false := bne_eq_false_iff_eq.mpr c15
  clear c15
  (first | rw [c15b0] | (simp only [i64_w, i32_w]; rw [c15b0]) | skip)
  replace H := Option.bind_eq_some_iff.mp H
  obtain ⟨t400, A160, H⟩ := H
  have A16 := ak A160
  clear A160
  by_cases c17 : t400 = true
  ·subst c17
   rw [if_pos rfl] at H
   have H' := ak H
   clear H
   obtain ⟨Ao18, co18, eo18⟩ := Kd.R_slice HO394.out
   subst eo18
   obtain ⟨Ao19, co19, eo19⟩ := Kd.R_slice HO398.out
   subst eo19
   go_wp2_with (first | (go_at_call 21; (with_reducible refine (laws_wkInts.calls k _ _ t392 _ _ t396 true _ ?side1 ?side2 ?side3 ?side4 A16.out).mono ?_); (case side1 => repeat (first | exact (Kd.R_reads' HO394.out).2.2 | (with_reducible refine Kd.C_alloc ?_ _) | (with_reducible refine Kd.C_drewN ?_ _) | (with_reducible refine Kd.C_drew ?_))); (case side2 => exact (Kd.R_reads' HO394.out).2.1); (case side3 => repeat (first | exact (Kd.R_reads' HO398.out).2.2 | (with_reducible refine Kd.C_alloc ?_ _) | (with_reducible refine Kd.C_drewN ?_ _) | (with_reducible refine Kd.C_drew ?_))); (case side4 => exact (Kd.R_reads' HO398.out).2.1); rintro e w' ⟨rfl, ⟨nd, rfl⟩⟩))
   go_meet
   case rel => exact ⟨_, (decide (t395 < 0)), (by first | rfl | (simp; done) | (simp [*]; done)), H', ⟨by first | omega | exact Nat.le_refl _⟩, ⟨by (with_reducible repeat (first | apply Kd.S_alloc | apply Kd.S_drewN | apply Kd.S_drew)); exact Kd.S_mono HO390.out (fun _ hk => ⟨hk.1.2, hk.2⟩)⟩, ⟨by (with_reducible repeat (first | apply Kd.R_alloc | apply Kd.R_drewN | apply Kd.R_drew)); exact Kd.R_mono HO394.out (fun _ hk => hk.2)⟩, ⟨by (with_reducible repeat (first | apply Kd.R_alloc | apply Kd.R_drewN | apply Kd.R_drew)); exact Kd.R_mono HO398.out (fun _ hk => hk.2)⟩, ⟨rk HO387⟩, ⟨bk BK391⟩, ⟨bl1 HB GE391⟩⟩
  replace c17 := Bool.eq_false_iff.mpr c17
  subst c17
  rw [if_neg (show ¬ (false = true) by decide)] at H
  have H' := ak H
  clear H
  obtain ⟨Ao20, co20, eo20⟩ := Kd.R_slice HO394.out
  subst eo20
  obtain ⟨Ao21, co21, eo21⟩ := Kd.R_slice HO398.out
  subst eo21
  go_wp2_with (first | (go_at_call 21; (with_reducible refine (laws_wkInts.calls k _ _ t392 _ _ t396 false _ ?side1 ?side2 ?side3 ?side4 A16.out).mono ?_); (case side1 => repeat (first | exact (Kd.R_reads' HO394.out).2.2 | (with_reducible refine Kd.C_alloc ?_ _) | (with_reducible refine Kd.C_drewN ?_ _) | (with_reducible refine Kd.C_drew ?_))); (case side2 => exact (Kd.R_reads' HO394.out).2.1); (case side3 => repeat (first | exact (Kd.R_reads' HO398.out).2.2 | (with_reducible refine Kd.C_alloc ?_ _) | (with_reducible refine Kd.C_drewN ?_ _) | (with_reducible refine Kd.C_drew ?_))); (case side4 => exact (Kd.R_reads' HO398.out).2.1); rintro e w' ⟨rfl, ⟨nd, rfl⟩⟩))
  go_meet
  case rel => exact ⟨_, (true), (by first | rfl | (simp; done) | (simp [*]; done)), H', ⟨by first | omega | exact Nat.le_refl _⟩, ⟨by (with_reducible repeat (first | apply Kd.S_alloc | apply Kd.S_drewN | apply Kd.S_drew)); exact Kd.S_mono HO390.out (fun _ hk => ⟨hk.1.2, hk.2⟩)⟩, ⟨by (with_reducible repeat (first | apply Kd.R_alloc | apply Kd.R_drewN | apply Kd.R_drew)); exact Kd.R_mono HO394.out (fun _ hk => hk.2)⟩, ⟨by (with_reducible repeat (first | apply Kd.R_alloc | apply Kd.R_drewN | apply Kd.R_drew)); exact Kd.R_mono HO398.out (fun _ hk => hk.2)⟩, ⟨rk HO387⟩, ⟨bk BK391⟩, ⟨bl1 HB GE391⟩⟩
 clear HC6
 try clear c1
 try clear c2
 try clear c2b0
 try clear c2b1
 try clear p2
 try clear c3
 try clear c14
 try clear c15
 try clear c15b0
 try clear c15b1
 try clear c17
 try clear hcz13_0
 try clear hcz13_1
 try clear hcz9_0
 try clear hcz9_1
 try clear hfz13_0
 try clear hfz13_1
 try clear hfz9_0
 try clear hfz9_1
 obtain ⟨kq, x44_5, rfl, HA, HJ5, HO_4, HO_5, HO_7, HO_392001, BK391, HB⟩ := hcut
 cases kq with
 | zero => exact absurd HA.out (by simp [laws_FnSeenBest.j0])
 | succ kj5 =>
  have H := HA.out
  clear HA
  simp only [laws_FnSeenBest.j0] at H
  by_cases c22 : x44_5 = true
  ·subst c22
   rw [if_pos rfl] at H
   by_cases c23 : t395 = t399
   rotate_left
   ·rw [if_neg c23] at H
    have c23b0 : (t395 == t399) = false := beq_eq_false_iff_ne.mpr c23
    have c23b1 : (t395 != t399) = true := bne_iff_ne.mpr c23
    exact absurd ((Option.some.inj H).trans hr_) Bool.false_ne_true
   rw [if_pos c23] at H
   have c23b0 : (t395 == t399) = true := beq_iff_eq.mpr c23
   have c23b1 : (t395 != t399) = false := bne_eq_false_iff_eq.mpr c23
   clear c23
   replace H := Option.bind_eq_some_iff.mp H
   obtain ⟨t401, A240, H⟩ := H
   have A24 := ak A240
   clear A240
   obtain rfl := Option.some.inj H
   obtain ⟨Ao25, co25, eo25⟩ := Kd.R_slice HO_5.out
   subst eo25
   obtain ⟨Ao26, co26, eo26⟩ := Kd.R_slice HO_7.out
   subst eo26
   go_wp2_with (first | (go_at_call 21; (with_reducible refine (laws_wkInts.calls kj5 _ _ t392 _ _ t396 t401 _ ?side1 ?side2 ?side3 ?side4 A24.out).mono ?_); (case side1 => repeat (first | exact (Kd.R_reads' HO_5.out).2.2 | (with_reducible refine Kd.C_alloc ?_ _) | (with_reducible refine Kd.C_drewN ?_ _) | (with_reducible refine Kd.C_drew ?_))); (case side2 => exact (Kd.R_reads' HO_5.out).2.1); (case side3 => repeat (first | exact (Kd.R_reads' HO_7.out).2.2 | (with_reducible refine Kd.C_alloc ?_ _) | (with_reducible refine Kd.C_drewN ?_ _) | (with_reducible refine Kd.C_drew ?_))); (case side4 => exact (Kd.R_reads' HO_7.out).2.1); rintro e w' ⟨rfl, ⟨nd, rfl⟩⟩))
   go_ret
   exact ⟨by first | rfl | (simp [errW_none, errW_some] <;> rfl) | (simp [*, errW_none, errW_some] <;> rfl), bl1 HB GE391⟩
  replace c22 := Bool.eq_false_iff.mpr c22
  subst c22
  rw [if_neg (show ¬ (false = true) by decide)] at H
  have H' := ak H
  clear H
  go_wp2
  go_loopg [9] kj5 (fun kq v9 w' => ∃ (x5_2 : List Int) (x9_2 : Int), v9 = .int .i64 x9_2 ∧ Aside0 (laws_FnSeenBest.l0 kq t388 x5_2 t395 x9_2 t384 t385 = some r) ∧ Aside0 (kq ≤ kj5) ∧ Aside0 (Kd.S (Kd.slice 3 (Kd.int .i64)) 26 w' w.heap.size (fun k_ => some k_ ≠ (v393 : Value).ownBlock) (.slice Ao11 t388.length co11) t388) ∧ Aside0 (Kd.R (Kd.int .i64) 3 w' w.heap.size (fun _ => True) v393 x5_2) ∧ Aside0 (Kd.R k41 41 w' w.heap.size (fun _ => True) (.slice Ao10 t385.length co10) t385) ∧ Aside0 (w'.heap[gb391]? = some (.cells #[.int .i64 t384, (.slice Ao10 t385.length co10)] 25 (0, 0))) ∧ Aside0 (Below w.heap.size w w'))
  case atStart => exact ⟨(t392), (0), (by first | rfl | (simp; done) | (simp [*]; done)), H', ⟨Nat.le_refl _⟩, ⟨by (with_reducible repeat (first | apply Kd.S_alloc | apply Kd.S_drewN | apply Kd.S_drew)); exact Kd.S_mono HO_4.out (fun _ hk => hk.1)⟩, ⟨by (with_reducible repeat (first | apply Kd.R_alloc | apply Kd.R_drewN | apply Kd.R_drew)); exact Kd.R_mono HO_5.out (fun _ hk => trivial)⟩, ⟨rk HO_392001⟩, ⟨bk BK391⟩, ⟨bl1 HB GE391⟩⟩
  clear H'
  try clear c1
  try clear c2
  try clear c2b0
  try clear c2b1
  try clear p2
  try clear c3
  try clear c14
  try clear c15
  try clear c15b0
  try clear c15b1
  try clear c17
  try clear c22
  try clear c23
  try clear c23b0
  try clear c23b1
  try clear hcz13_0
  try clear hcz13_1
  try clear hcz9_0
  try clear hcz9_1
  try clear hfz13_0
  try clear hfz13_1
  try clear hfz9_0
  try clear hfz9_1
  try clear p2
  obtain ⟨x5_2, x9_2, rfl, HA, HK2, HO_4, HO_5, HO_392001, BK391, HB⟩ := hrel
  cases gk with
  | zero => exact absurd HA.out (by simp [laws_FnSeenBest.l0])
  | succ k2 =>
   have H := HA.out
   clear HA
   simp only [laws_FnSeenBest.l0] at H
   by_cases c27 : x9_2 < (x5_2.length : Int)
   rotate_left
   ·rw [if_neg c27] at H
    have c27b0 : decide (x9_2 < (x5_2.length : Int)) = false := decide_eq_false c27
    clear c27
    by_cases c45 : (x5_2.length : Int) = (t388.length : Int)
    rotate_left
    ·rw [if_neg c45] at H
     have c45b0 : ((x5_2.length : Int) == (t388.length : Int)) = false := beq_eq_false_iff_ne.mpr c45
     have c45b1 : ((x5_2.length : Int) != (t388.length : Int)) = true := bne_iff_ne.mpr c45
     have c45b2 : (x5_2.length == t388.length) = false := by first | simpa using c45 | (simp at c45 ⊢; omega)
     exact absurd ((Option.some.inj H).trans hr_) Bool.false_ne_true
    rw [if_pos c45] at H
    have c45b0 : ((x5_2.length : Int) == (t388.length : Int)) = true := beq_iff_eq.mpr c45
    have c45b1 : ((x5_2.length : Int) != (t388.length : Int)) = false := bne_eq_false_iff_eq.mpr c45
    have c45b2 : (x5_2.length == t388.length) = true := by first | simpa using c45 | (simp at c45 ⊢; omega)
    clear c45
    replace H := Option.bind_eq_some_iff.mp H
    obtain ⟨t402, A460, H⟩ := H
    have A46 := ak A460
    clear A460
    obtain rfl := Option.some.inj H
    obtain ⟨Ao47, co47, eo47⟩ := Kd.R_slice HO_5.out
    subst eo47
    have hcz48_0 := bc wr BK391 0 (.int .i64 t384) rfl
    have hcz48_1 := bc wr BK391 1 (.slice Ao10 t385.length co10) rfl
    have hfz48_0 := fz BK391 0
    have hfz48_1 := fz BK391 1
    go_wp2_with (first | (go_at_call 40; (with_reducible refine (impl_SeenCost.calls k2 t384 _ _ t385 _ _ t388 _ _ x5_2 t402 _ ?side1 ?side2 ?side3 ?side4 ?side5 ?side6 A46.out).mono ?_); (case side1 => repeat (first | exact (Kd.R_reads' HO_392001.out).2.2 | (with_reducible refine Kd.C_alloc ?_ _) | (with_reducible refine Kd.C_drewN ?_ _) | (with_reducible refine Kd.C_drew ?_))); (case side2 => exact (Kd.R_reads' HO_392001.out).2.1); (case side3 => repeat (first | exact (Kd.S_reads' HO_4.out).2.2 | (with_reducible refine Kd.C_alloc ?_ _) | (with_reducible refine Kd.C_drewN ?_ _) | (with_reducible refine Kd.C_drew ?_))); (case side4 => exact (Kd.S_reads' HO_4.out).2.1); (case side5 => repeat (first | exact (Kd.R_reads' HO_5.out).2.2 | (with_reducible refine Kd.C_alloc ?_ _) | (with_reducible refine Kd.C_drewN ?_ _) | (with_reducible refine Kd.C_drew ?_))); (case side6 => exact (Kd.R_reads' HO_5.out).2.1); rintro e w49 ⟨rfl, hb⟩; have n0_ := ak (Kd.S_below (by (with_reducible repeat (first | apply Kd.S_alloc | apply Kd.S_drewN | apply Kd.S_drew)); exact HO_4.out) hb); have n1_ := ak (Kd.R_below (rk HO_5) hb); have n2_ := ak (Kd.R_below (rk HO_392001) hb); have n3_ := ak (blk_below (bk BK391) hb); have n4_ := ak (below_step (bl1 HB GE391) hb); clear HO_4; clear HO_5; clear HO_392001; clear BK391; clear HB; have HO_4 := n0_; have HO_5 := n1_; have HO_392001 := n2_; have BK391 := n3_; have HB := n4_; clear n0_ n1_ n2_ n3_ n4_; (try clear hb); (try clear hb2); (try clear hk); (try clear hi)))
    go_ret
    exact ⟨by first | rfl | (simp [errW_none, errW_some] <;> rfl) | (simp [*, errW_none, errW_some] <;> rfl), bl1 HB GE391⟩
   rw [if_pos c27] at H
   have c27b0 : decide (x9_2 < (x5_2.length : Int)) = true := decide_eq_true c27
   clear c27
   have H' := ak H
   clear H
   obtain ⟨Ao28, co28, eo28⟩ := Kd.R_slice HO_5.out
   subst eo28
   go_wp2
   go_loopg [10] k2 (fun kq v10 w' => ∃ (x5_3 : List Int) (x10_3 : Int), v10 = .int .i64 x10_3 ∧ Aside0 (laws_FnSeenBest.l1 kq t388 x5_3 t395 x9_2 x10_3 t384 t385 = some r) ∧ Aside0 (kq ≤ k2) ∧ Aside0 (Kd.S (Kd.slice 3 (Kd.int .i64)) 26 w' w.heap.size (fun k_ => some k_ ≠ ((.slice Ao28 x5_2.length co28) : Value).ownBlock) (.slice Ao11 t388.length co11) t388) ∧ Aside0 (Kd.R (Kd.int .i64) 3 w' w.heap.size (fun _ => True) (.slice Ao28 x5_2.length co28) x5_3) ∧ Aside0 (Kd.R k41 41 w' w.heap.size (fun _ => True) (.slice Ao10 t385.length co10) t385) ∧ Aside0 (w'.heap[gb391]? = some (.cells #[.int .i64 t384, (.slice Ao10 t385.length co10)] 25 (0, 0))) ∧ Aside0 (Below w.heap.size w w'))
   case atStart => exact ⟨(x5_2), (0), (by first | rfl | (simp; done) | (simp [*]; done)), H', ⟨Nat.le_refl _⟩, ⟨by (with_reducible repeat (first | apply Kd.S_alloc | apply Kd.S_drewN | apply Kd.S_drew)); exact HO_4.out⟩, ⟨rk HO_5⟩, ⟨rk HO_392001⟩, ⟨bk BK391⟩, ⟨bl1 HB GE391⟩⟩
   clear H'
   try clear c1
   try clear c2
   try clear c2b0
   try clear c2b1
   try clear p2
   try clear c3
   try clear c14
   try clear c15
   try clear c15b0
   try clear c15b1
   try clear c17
   try clear c22
   try clear c23
   try clear c23b0
   try clear c23b1
   try clear c27
   try clear c27b0
   try clear hcz13_0
   try clear hcz13_1
   try clear hcz9_0
   try clear hcz9_1
   try clear hfz13_0
   try clear hfz13_1
   try clear hfz9_0
   try clear hfz9_1
   try clear p2
   obtain ⟨x5_3, x10_3, rfl, HA, HK3, HO_4, HO_5, HO_392001, BK391, HB⟩ := hrel
   have hl5_3 := (Kd.R_reads' HO_5.out).1
   rw [hl5_3] at HO_5
   (try simp only [hl5_3])
   (try simp only [hl5_3] at BK391)
   (try simp only [hl5_3] at HO_4)
   (try simp only [hl5_3] at HO_392001)
   cases gk with
   | zero => exact absurd HA.out (by simp [laws_FnSeenBest.l1])
   | succ k3 =>
    have H := HA.out
    clear HA
    simp only [laws_FnSeenBest.l1] at H
    by_cases c29 : x10_3 < t384
    rotate_left
    ·rw [if_neg c29] at H
     have c29b0 : decide (x10_3 < t384) = false := decide_eq_false c29
     clear c29
     have H' := ak H
     clear H
     have hcz44_0 := bc wr BK391 0 (.int .i64 t384) rfl
     have hcz44_1 := bc wr BK391 1 (.slice Ao10 t385.length co10) rfl
     have hfz44_0 := fz BK391 0
     have hfz44_1 := fz BK391 1
     go_wp2
     (try simp only [← hl5_3])
     go_roundg k3
     case measure => have := HJ5.out; have := HK2.out; have := HK3.out; omega
     case rel => exact ⟨(x5_3), (wrap64 (x9_2 + 1)), (by first | rfl | (simp; done) | (simp [*]; done)), H', ⟨by have := HJ5.out; have := HK2.out; have := HK3.out; omega⟩, ⟨by (try simp only [hl5_3]); (with_reducible repeat (first | apply Kd.S_alloc | apply Kd.S_drewN | apply Kd.S_drew)); exact HO_4.out⟩, ⟨by (try simp only [hl5_3]); (with_reducible repeat (first | apply Kd.R_alloc | apply Kd.R_drewN | apply Kd.R_drew)); exact HO_5.out⟩, ⟨by (try simp only [hl5_3]); (with_reducible repeat (first | apply Kd.R_alloc | apply Kd.R_drewN | apply Kd.R_drew)); exact HO_392001.out⟩, ⟨by (try simp only [hl5_3]); (with_reducible repeat (first | refine blk_drewN ?_ _ | refine blk_drew ?_ | refine blk_alloc ?_ _)); exact BK391.out⟩, ⟨bl1 HB GE391⟩⟩
    rw [if_pos c29] at H
    have c29b0 : decide (x10_3 < t384) = true := decide_eq_true c29
    clear c29
    obtain ⟨y403, hy403⟩ : ∃ y_ : List Int, y_ = (([] : List Int)) := ⟨_, rfl⟩
    replace H : (if y403.length + x5_3.length < 17592186044416 then ((some (y403 ++ x5_3 : List Int)).bind fun y406 => (if 0 ≤ x9_2 then (if x9_2 < (y406.length : Int) then ((impl_SeenCost.f k3 t384 t385 t388 (y406.set (x9_2 : Int).toNat x10_3)).bind fun t410 => (if t410 < t395 then (some false) else (laws_FnSeenBest.l1 k3 t388 x5_3 t395 x9_2 (wrap64 (x10_3 + 1)) t384 t385))) else (none)) else (none))) else (none)) = some r := by first | (rw [hy403]; with_reducible exact H) | (have H2_ := (Option.bind_some _ _).symm.trans H; rw [hy403]; with_reducible exact H2_) | (have H2_ := (Option.bind_some _ _).symm.trans H; with_reducible exact H2_) | with_reducible exact H | (rw [hy403]; exact H) | exact H
    have Ny403 := ak hy403
    clear hy403
    by_cases c30 : y403.length + x5_3.length < 17592186044416
    rotate_left
    ·rw [if_neg c30] at H
     exact absurd H (by simp)
    rw [if_pos c30] at H
    have LMc30 := ak c30
    clear c30
    obtain ⟨y406, hy406⟩ : ∃ y_ : List Int, y_ = (y403 ++ x5_3) := ⟨_, rfl⟩
    replace H : (if 0 ≤ x9_2 then (if x9_2 < (y406.length : Int) then ((impl_SeenCost.f k3 t384 t385 t388 (y406.set (x9_2 : Int).toNat x10_3)).bind fun t410 => (if t410 < t395 then (some false) else (laws_FnSeenBest.l1 k3 t388 x5_3 t395 x9_2 (wrap64 (x10_3 + 1)) t384 t385))) else (none)) else (none)) = some r := by first | (rw [hy406]; with_reducible exact H) | (have H2_ := (Option.bind_some _ _).symm.trans H; rw [hy406]; with_reducible exact H2_) | (have H2_ := (Option.bind_some _ _).symm.trans H; with_reducible exact H2_) | with_reducible exact H | (rw [hy406]; exact H) | exact H
    have Ny406 := ak hy406
    clear hy406
    by_cases c31 : 0 ≤ x9_2
    rotate_left
    ·rw [if_neg c31] at H
     exact absurd H (by simp)
    rw [if_pos c31] at H
    have c31b0 : decide (0 ≤ x9_2) = true := decide_eq_true c31
    clear c31
    by_cases c32 : x9_2 < (y406.length : Int)
    rotate_left
    ·rw [if_neg c32] at H
     exact absurd H (by simp)
    rw [if_pos c32] at H
    have c32b0 : decide (x9_2 < (y406.length : Int)) = true := decide_eq_true c32
    clear c32
    obtain ⟨y409, hy409⟩ : ∃ y_ : List Int, y_ = (y406.set (x9_2 : Int).toNat x10_3) := ⟨_, rfl⟩
    replace H : ((impl_SeenCost.f k3 t384 t385 t388 y409).bind fun t410 => (if t410 < t395 then (some false) else (laws_FnSeenBest.l1 k3 t388 x5_3 t395 x9_2 (wrap64 (x10_3 + 1)) t384 t385))) = some r := by first | (rw [hy409]; with_reducible exact H) | (have H2_ := (Option.bind_some _ _).symm.trans H; rw [hy409]; with_reducible exact H2_) | (have H2_ := (Option.bind_some _ _).symm.trans H; with_reducible exact H2_) | with_reducible exact H | (rw [hy409]; exact H) | exact H
    have Ny409 := ak hy409
    clear hy409
    replace H := Option.bind_eq_some_iff.mp H
    obtain ⟨t410, A340, H⟩ := H
    have A34 := ak A340
    clear A340
    by_cases c35 : t410 < t395
    ·rw [if_pos c35] at H
     have c35b0 : decide (t410 < t395) = true := decide_eq_true c35
     clear c35
     exact absurd ((Option.some.inj H).trans hr_) Bool.false_ne_true
    rw [if_neg c35] at H
    have c35b0 : decide (t410 < t395) = false := decide_eq_false c35
    clear c35
    have H' := ak H
    clear H
    have hcz36_0 := bc wr BK391 0 (.int .i64 t384) rfl
    have hcz36_1 := bc wr BK391 1 (.slice Ao10 t385.length co10) rfl
    have hfz36_0 := fz BK391 0
    have hfz36_1 := fz BK391 1
    go_wp2_with (first | ((with_reducible refine gate_dst (N := 65) rfl ?_); refine Kd.R_lit (Kd.int .i64) _ 3 ?hg (N := 65) ?hd (xs := ([] : List Int)) (inner := []) (ok := fun _ => True) (okp := fun _ => True) ?hr ?hp (fun _ hk => hk) trivial (Below.refl _ _) (Nat.le_refl _) (by simp) ?_; (case hd => rfl); (case hg => rfl); (case hr => first | (go_simp; done) | (go_simp; rfl)); (case hp => exact (Reps.none _ _)); intro v404 w37 ho38 hb hg_ hnew_; clear hg_ hnew_; (first | rw [← Ny403.out] at ho38 | (simp only [Int.reduceToNat] at ho38; rw [← Ny403.out] at ho38)); replace HO_4 := ak (Kd.S_elder' (by (with_reducible repeat (first | apply Kd.S_alloc | apply Kd.S_drewN | apply Kd.S_drew)); exact HO_4.out) (Kd.R_base ho38) hb); replace HO_392001 := ak (Kd.R_below (rk HO_392001) hb); have HO405 := ak (Kd.R_lower (Kd.R_new' ho38 (Kd.R_lt (rk HO_5))) (below_size (bl1 HB GE391))); replace HO_5 := ak (Kd.R_elder' (rk HO_5) (Kd.R_base ho38) hb); replace BK391 := ak (blk_below (bk BK391) hb); replace HB := ak (below_step (bl1 HB GE391) hb); clear hb ho38) | ((with_reducible refine gate_builtin (b := .append) (xs := #[.tmp 65, .tmp 66]) rfl ?_); at_builtin; refine Kd.R_append_rows (Kd.int .i64) (w0 := w) w.heap.size rfl (.tmp 65) (.tmp 66) 26 3 (.int .i64 0) 8 rfl Try.underlying26 info3 rfl (by decide) (by omega) v404 y403 x5_3 _ _ _ (fun k_ => some k_ ≠ (.slice Ao28 x5_3.length co28 : Value).ownBlock) (fun _ => False) rfl rfl ?aO ?aR (fun _ _ h => h) (fun _ h => h.elim) ?aF ?aB ?aS ?aL ?_; (case aR => repeat (first | exact (Kd.R_reads' HO_5.out).2.2 | (with_reducible refine Kd.C_alloc ?_ _) | (with_reducible refine Kd.C_drewN ?_ _) | (with_reducible refine Kd.C_drew ?_))); (case aB => exact (bl1 HB GE391)); (case aF => exact (fun k_ hk => Kd.fresh' (Kd.R_lt (rk HO_5)) k_ hk)); (case aO => exact (by (with_reducible repeat (first | apply Kd.R_alloc | apply Kd.R_drewN | apply Kd.R_drew)); exact Kd.R_mono HO405.out (fun _ hk => hk.2))); (case aS => exact (below_size (bl1 HB GE391))); (case aL => have := LMc30.out; omega); intro v407 w39 ho hb hg hat; rw [← Ny406.out] at ho; have n0_ := ak (Kd.S_after (ok := (fun k_ => some k_ ≠ (.slice Ao28 x5_3.length co28 : Value).ownBlock)) (by (with_reducible repeat (first | apply Kd.S_alloc | apply Kd.S_drewN | apply Kd.S_drew)); exact HO_4.out) hg hat); have n1_ := ak (Kd.R_after (ok := (fun _ => True)) (rk HO_5) hg hat); have n2_ := ak (Kd.R_over' (rk HO_392001) (Kd.R_typed (rk HO405)) (by decide) hg); have n3_ := ak (blk_grown (bk BK391) hg (Kd.R_ne HO405.out BK391.out (by decide))); have n4_ := ak (hb); have n5_ := ak (ho); clear HO_4; clear HO_5; clear HO_392001; clear BK391; clear HB; clear HO405; have HO_4 := n0_; have HO_5 := n1_; have HO_392001 := n2_; have BK391 := n3_; have HB := n4_; have HO408 := n5_; clear n0_ n1_ n2_ n3_ n4_ n5_; clear ho hb hg hat; have p33 : 0 ≤ (x9_2 : Int) := oT (by first | (with_reducible assumption) | assumption); have q33 : (x9_2 : Int) < ((y406.length : Int) : Int) := oT (by first | (with_reducible assumption) | assumption); obtain ⟨go33, co33, eo33, gb33, gl33, cl33, HG33⟩ := Kd.R_form HO408.out (by omega); (first | cases eo33 | (injection eo33 with ea_ en_ ec_; (first | subst ea_ | (injection ea_ with ea_; subst ea_)); subst ec_; clear en_)); have GB33 := ak gb33; have GG33 := ak HG33; clear gb33 gl33 HG33; obtain ⟨hx33_0, hf33_0⟩ := Kd.R_celln 0 HO408.out (x9_2 : Int) p33 q33; replace p33 := eq_true p33; replace q33 := eq_true q33; obtain ⟨hy40_, hz40_⟩ := Kd.R_celln 0 HO408.out (x9_2 : Int) (oT (by first | (with_reducible assumption) | assumption)) (oT (by first | (with_reducible assumption) | assumption)); have HP40 := Kd.R_putg HO408.out (x9_2 : Int) x10_3) | ((with_reducible refine gate_store (t := 3) (p := 71) rfl ?_); refine store_event (t := 3) (p := 71) (v := ?vo_w41) (w1 := (w39.setCell ⟨go33, (x9_2 : Int).toNat, none⟩ (.int .i64 x10_3))) ?hg ?ho ?hn ?hr ?_; (case ho => rfl); (case hg => rfl); (case hn => rfl); (case hr => first | (go_simp; done) | (go_simp; rfl)); intro w41 hw; have hg : w39.grownBy w41 (some go33) := (by rw [hw]; exact HP40.2); have hp_ : Kd.R (Kd.int .i64) 3 w41 w.heap.size (fun k_ => some k_ ≠ (.slice Ao28 x5_3.length co28 : Value).ownBlock) (.slice (some ⟨go33, 0, none⟩) y406.length co33) y409 := (by rw [hw, Ny409.out]; exact HP40.1); clear HP40; replace HO_4 := ak (Kd.S_after (v := (.slice (some ⟨go33, 0, none⟩) y406.length co33)) (v1 := (.slice (some ⟨go33, 0, none⟩) y406.length co33)) (ok := (fun k_ => some k_ ≠ (.slice Ao28 x5_3.length co28 : Value).ownBlock)) (by (with_reducible repeat (first | apply Kd.S_alloc | apply Kd.S_drewN | apply Kd.S_drew)); exact HO_4.out) hg (.inl rfl)); replace HO_5 := ak (Kd.R_after (v := (.slice (some ⟨go33, 0, none⟩) y406.length co33)) (v1 := (.slice (some ⟨go33, 0, none⟩) y406.length co33)) (ok := (fun _ => True)) (rk HO_5) hg (.inl rfl)); replace HO_392001 := ak (Kd.R_over' (v := (.slice (some ⟨go33, 0, none⟩) y406.length co33)) (rk HO_392001) (Kd.R_typed HO408.out) (by decide) hg); replace BK391 := ak (blk_grown (bk BK391) hg (Kd.R_ne HO408.out BK391.out (by decide))); replace HO408 := ak (hp_); replace HB := ak ((by rw [hw]; exact below_set (HB.out) GB33.out : Below w.heap.size w w41)); clear hg hw hp_; have hcz42_0 := bc w41 BK391 0 (.int .i64 t384) rfl; have hcz42_1 := bc w41 BK391 1 (.slice Ao10 t385.length co10) rfl; have hfz42_0 := fz BK391 0; have hfz42_1 := fz BK391 1) | ((with_reducible refine gate_callee (f := 40) rfl ?_); refine goesL_ (some 75) rfl rfl Try.func40 (by kernel_rfl) rfl #[.agg #[.int .i64 t384, .slice Ao10 t385.length co10], .slice Ao11 t388.length co11, .slice (some ⟨go33, 0, none⟩) y409.length co33] rfl (by (try simp only [List.map_toArray, List.map_cons, List.map_nil]); first | done | (rw [show y409.length = y406.length from (Kd.R_reads' HO408.out).1.symm] <;> rfl) | rfl | (simp only [List.length_drop, List.length_take]; rfl)) ?_; (with_reducible refine (impl_SeenCost.calls k3 t384 _ _ t385 _ _ t388 _ _ y409 t410 _ ?side1 ?side2 ?side3 ?side4 ?side5 ?side6 A34.out).mono ?_); (case side1 => repeat (first | exact (Kd.R_reads' HO_392001.out).2.2 | (with_reducible refine Kd.C_alloc ?_ _) | (with_reducible refine Kd.C_drewN ?_ _) | (with_reducible refine Kd.C_drew ?_))); (case side2 => exact (Kd.R_reads' HO_392001.out).2.1); (case side3 => repeat (first | exact (Kd.S_reads' HO_4.out).2.2 | (with_reducible refine Kd.C_alloc ?_ _) | (with_reducible refine Kd.C_drewN ?_ _) | (with_reducible refine Kd.C_drew ?_))); (case side4 => exact (Kd.S_reads' HO_4.out).2.1); (case side5 => repeat (first | exact (Kd.R_reads' HO408.out).2.2 | (with_reducible refine Kd.C_alloc ?_ _) | (with_reducible refine Kd.C_drewN ?_ _) | (with_reducible refine Kd.C_drew ?_))); (case side6 => rw [show y409.length = y406.length from (Kd.R_reads' HO408.out).1.symm]; exact (Kd.R_reads' HO408.out).2.1); rintro e w43 ⟨rfl, hb⟩; refine ⟨_, rfl, ?_⟩; replace HO_4 := ak (Kd.S_below (by (with_reducible repeat (first | apply Kd.S_alloc | apply Kd.S_drewN | apply Kd.S_drew)); exact HO_4.out) hb); replace HO_5 := ak (Kd.R_below (rk HO_5) hb); replace HO_392001 := ak (Kd.R_below (rk HO_392001) hb); replace HO408 := ak (Kd.R_below (rk HO408) hb); replace BK391 := ak (blk_below (bk BK391) hb); replace HB := ak (below_step (bl1 HB GE391) hb); (try clear hb); (try clear hb2); (try clear hk); (try clear hi)))
    (try simp only [← hl5_3])
    go_roundg k3
    case measure => have := HJ5.out; have := HK2.out; have := HK3.out; omega
    case rel => exact ⟨(x5_3), (wrap64 (x10_3 + 1)), (by first | rfl | (simp; done) | (simp [*]; done)), H', ⟨by have := HJ5.out; have := HK2.out; have := HK3.out; omega⟩, ⟨by (try simp only [hl5_3]); (with_reducible repeat (first | apply Kd.S_alloc | apply Kd.S_drewN | apply Kd.S_drew)); exact Kd.S_mono HO_4.out (fun _ hk => hk.1)⟩, ⟨by (try simp only [hl5_3]); (with_reducible repeat (first | apply Kd.R_alloc | apply Kd.R_drewN | apply Kd.R_drew)); exact Kd.R_mono HO_5.out (fun _ hk => trivial)⟩, ⟨by (try simp only [hl5_3]); (with_reducible repeat (first | apply Kd.R_alloc | apply Kd.R_drewN | apply Kd.R_drew)); exact HO_392001.out⟩, ⟨by (try simp only [hl5_3]); (with_reducible repeat (first | refine blk_drewN ?_ _ | refine blk_drew ?_ | refine blk_alloc ?_ _)); exact BK391.out⟩, ⟨bl1 HB GE391⟩⟩

/-- THE ONE PURE STATEMENT of laws_FnSeenBest: yours. -/
def laws_FnSeenBest.Pure : Prop := ∀ (l0 : List Int), l0.length ≤ maxLen → l0.length * 1 ≤ 140737488351232 → (∀ x ∈ l0, (Lit.int .u8 x).wf = true) → ∃ k, laws_FnSeenBest.f k l0 = some true
theorem laws_FnSeenBest.walk (P : laws_FnSeenBest.Pure) (a0 : Option Addr) (len0 cap0 : Nat) (z0 : List Int) (w : World) (w0 : (a0 = none ∧ len0 = 0 ∧ cap0 = 0 ∧ z0 = []) ∨ ∃ x, a0 = some x ∧ len0 ≤ cap0 ∧ cap0 ≤ maxLen ∧ z0.length = cap0 ∧ (∀ i, i < z0.length → w.cell? (x.add i) = some (.int .u8 (z0.getD i 0))) ∧ ∀ n ∈ z0, (Lit.int .u8 n).wf = true) (y0 : len0 * 1 ≤ 140737488351232) :
  Calls Try.prog 14 #[.slice a0 len0 cap0] w fun e w' => e = .returned (.bool true) ∧ Below w.heap.size w w' := by
 obtain ⟨l0, rfl, hr0, hm0, hw0, hc0⟩ := ReadsInt.ofRowC w0
 obtain ⟨k, h⟩ := P l0 hm0 y0 hw0
 refine (laws_FnSeenBest.calls k _ _ l0 true w (Kd.C_of_reads (d := (0 : Int)) (h1 := fun _ => rfl) hr0) hc0 h rfl).mono ?_
 rintro e w' ⟨rfl, hd⟩
 exact ⟨rfl, hd⟩

end Go.Proofs.Ytgickejeakmenaa.F
