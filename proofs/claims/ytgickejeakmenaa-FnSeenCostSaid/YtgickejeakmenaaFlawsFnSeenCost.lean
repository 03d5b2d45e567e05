-- Printed by wip/px/px.py of this claim's repository (the kit's printer, extended there). Lean checks it.
import Derived.Test.YtgickejeakmenaaFKinds
import Derived.Test.YtgickejeakmenaaFimplSeenBest
import Derived.Test.YtgickejeakmenaaFimplSeenCost
import Derived.Test.YtgickejeakmenaaFspecDrawSeenCost
import Derived.Test.YtgickejeakmenaaFspecSeenCost
namespace Go.Proofs.Ytgickejeakmenaa.F
open Go.RowKit Go.Proofs.YtgickejeakmenaaW.PrintWords Go.Proofs.YtgickejeakmenaaW.PrintLast Go.Proofs.YtgickejeakmenaaW.PrintMore
attribute [local go_sem] max2_int min2_int max_two min_two max_three min_three max_four min_four   -- for this text's walks alone
set_option linter.unusedVariables false
set_option linter.unusedSimpArgs false

/-! ### laws_FnSeenCost: function 10 -/
def laws_FnSeenCost.j0 : Nat → List (List Int) → List Int → Int → Bool → Int → List (S41) → Option (Bool)
 | 0, _, _, _, _, _, _ => none
 | k + 1, x4, x5, x6, x32, x514000, x514001 => if x32 = true then ((spec_SeenCost.f k x514000 x514001 x4 x5).bind fun t516 => (some (x6 == t516))) else ((impl_SeenBest.f k x514000 x514001 x4).bind fun bt517 => (if 1 ≤ (x4.length : Int) then (if 1 ≤ (x5.length : Int) then ((impl_SeenCost.f k x514000 x514001 (x4.take 1) (x5.take 1)).bind fun t529 => (if x6 ≥ bt517.2 then (if 0 < (x4.length : Int) then (if 0 < (x5.length : Int) then (if 0 ≤ (rd x5 0) then (if (rd x5 0) < ((rd_L3 x4 0).length : Int) then (some (t529 == (rd (rd_L3 x4 0) (rd x5 0)))) else (none)) else (none)) else (none)) else (none)) else (some false))) else (none)) else (none)))
def laws_FnSeenCost.f (k : Nat) (l0 : List Int) : Option (Bool) := if (l0.length : Int) > 1048576 then (some true) else ((spec_DrawSeenCost.f k l0).bind fun bt503 => ((impl_SeenCost.f k bt503.1 bt503.2.1 bt503.2.2.1 bt503.2.2.2).bind fun t514 => ((spec_SeenCost.f k bt503.1 bt503.2.1 bt503.2.2.1 bt503.2.2.2).bind fun t515 => (if t514 = t515 then (laws_FnSeenCost.j0 k bt503.2.2.1 bt503.2.2.2 t514 (decide (t514 < 0)) bt503.1 bt503.2.1) else (laws_FnSeenCost.j0 k bt503.2.2.1 bt503.2.2.2 t514 true bt503.1 bt503.2.1)))))
theorem laws_FnSeenCost.mono_l : ∀ k, (∀ y0 y1 y2 y3 y4 y5, LeO (laws_FnSeenCost.j0 k y0 y1 y2 y3 y4 y5) (laws_FnSeenCost.j0 (k + 1) y0 y1 y2 y3 y4 y5))
 | 0 => fun _ _ _ _ _ _ r h => by simp [laws_FnSeenCost.j0] at h
 | k + 1 => by
  have ih0 := laws_FnSeenCost.mono_l k
  ·intro y0 y1 y2 y3 y4 y5
   unfold laws_FnSeenCost.j0
   repeat' first
   | (with_reducible exact ih0 _ _ _ _ _ _)
   | (with_reducible exact impl_SeenBest.mono _ _ _ _)
   | (with_reducible exact impl_SeenCost.mono _ _ _ _ _)
   | (with_reducible exact spec_DrawSeenCost.mono _ _)
   | (with_reducible exact spec_SeenCost.mono _ _ _ _ _)
   | (with_reducible exact LeO.refl _)
   | (with_reducible exact LeO.none _)
   | (with_reducible refine LeO.ite ?_ ?_)
   | (with_reducible refine LeO.bind ?_ (fun _ => ?_))
   | exact ih0 _ _ _ _ _ _
   | exact impl_SeenBest.mono _ _ _ _
   | exact impl_SeenCost.mono _ _ _ _ _
   | exact spec_DrawSeenCost.mono _ _
   | exact spec_SeenCost.mono _ _ _ _ _
   | exact LeO.none _
   | refine LeO.ite ?_ ?_
   | refine LeO.bind ?_ (fun _ => ?_)
theorem laws_FnSeenCost.mono : ∀ a0 k, LeO (laws_FnSeenCost.f k a0) (laws_FnSeenCost.f (k + 1) a0) := by
 intro a0 k
 have ih0 := laws_FnSeenCost.mono_l k
 unfold laws_FnSeenCost.f
 repeat' first
   | (with_reducible exact ih0 _ _ _ _ _ _)
   | (with_reducible exact impl_SeenBest.mono _ _ _ _)
   | (with_reducible exact impl_SeenCost.mono _ _ _ _ _)
   | (with_reducible exact spec_DrawSeenCost.mono _ _)
   | (with_reducible exact spec_SeenCost.mono _ _ _ _ _)
   | (with_reducible exact LeO.refl _)
   | (with_reducible exact LeO.none _)
   | (with_reducible refine LeO.ite ?_ ?_)
   | (with_reducible refine LeO.bind ?_ (fun _ => ?_))
   | exact ih0 _ _ _ _ _ _
   | exact impl_SeenBest.mono _ _ _ _
   | exact impl_SeenCost.mono _ _ _ _ _
   | exact spec_DrawSeenCost.mono _ _
   | exact spec_SeenCost.mono _ _ _ _ _
   | exact LeO.none _
   | refine LeO.ite ?_ ?_
   | refine LeO.bind ?_ (fun _ => ?_)
def laws_FnSeenCost.T9 : Bool × List (List Nat × List Nat) := (true, [([], []), ([], []), ([0, 1], [0, 1]), ([2], [2]), ([3], [3]), ([3], [3]), ([5, 3], [3, 5]), ([6, 3], [3, 6]), ([3], [3]), ([8, 3], [3, 8]), ([9, 3], [3, 9]), ([7, 10, 3], [3, 7, 10]), ([11, 3], [3, 11]), ([4, 12, 3], [3, 4, 12]), ([3, 13], [3, 13]), ([14, 3, 0, 1, 2, 3, 4, 5, 6, 7, 8, 9, 10, 11, 12, 13, 14], [14])])
def laws_FnSeenCost.B9 : List Nat := [0, 0, 3, 7, 15, 15, 47, 111, 15, 271, 783, 2031, 4079, 8191, 16383, 32767]
theorem laws_FnSeenCost.tab9 : rtab .any (opsOf Try.f10 9) = laws_FnSeenCost.T9 := by kernel_rfl
theorem laws_FnSeenCost.bits9 : waitsOk laws_FnSeenCost.T9.2 laws_FnSeenCost.B9 = true := by kernel_rfl
set_option maxHeartbeats 8000000 in
set_option maxRecDepth 100000 in
theorem laws_FnSeenCost.calls (k : Nat) (A0 : Option Addr) (c0 : Nat) (l0 : List Int) (r : Bool) (w : World) (hr0 : Kd.C (Kd.int .u8) w A0 l0.length l0) (hc0 : l0.length ≤ c0) (h : laws_FnSeenCost.f k l0 = some r) (hr_ : r = true) :
  Calls Try.prog 10 #[.slice A0 l0.length c0] w fun e w' => e = .returned (.bool r) ∧ Below w.heap.size w w' := by
 have hu25 := Try.underlying25
 have HR0 := ak hr0
 have HC0 := ak hc0
 clear hr0 hc0
 have HB := ak (Below.refl w.heap.size w)
 have H : (if (l0.length : Int) > 1048576 then (some true) else ((spec_DrawSeenCost.f k l0).bind fun bt503 => ((impl_SeenCost.f k bt503.1 bt503.2.1 bt503.2.2.1 bt503.2.2.2).bind fun t514 => ((spec_SeenCost.f k bt503.1 bt503.2.1 bt503.2.2.1 bt503.2.2.2).bind fun t515 => (if t514 = t515 then (laws_FnSeenCost.j0 k bt503.2.2.1 bt503.2.2.2 t514 (decide (t514 < 0)) bt503.1 bt503.2.1) else (laws_FnSeenCost.j0 k bt503.2.2.1 bt503.2.2.2 t514 true bt503.1 bt503.2.1)))))) = some r := h
 clear h
 by_cases c2 : (l0.length : Int) > 1048576
 ·rw [if_pos c2] at H
  have c2b0 : decide (1048576 < (l0.length : Int)) = true := decide_eq_true c2
  have c2b1 : decide (1048576 < l0.length) = true := decide_eq_true (by omega)
  clear c2
  obtain rfl := Option.some.inj H
  go_enter Try.func10, Try.ntmps10
  go_wp2
  go_ret
  exact ⟨by first | rfl | (simp [errW_none, errW_some] <;> rfl) | (simp [*, errW_none, errW_some] <;> rfl), bl HB⟩
 rw [if_neg c2] at H
 have c2b0 : decide (1048576 < (l0.length : Int)) = false := decide_eq_false c2
 have c2b1 : decide (1048576 < l0.length) = false := decide_eq_false (by omega)
 clear c2
 replace H := Option.bind_eq_some_iff.mp H
 obtain ⟨⟨t503, t504, t507, t510⟩, A30, H⟩ := H
 have A3 := ak A30
 clear A30
 replace H := Option.bind_eq_some_iff.mp H
 obtain ⟨t514, A40, H⟩ := H
 have A4 := ak A40
 clear A40
 have HC5 := ak H
 clear H
 go_enter Try.func10, Try.ntmps10
 go_upto_region 5 with (first | ((with_reducible refine gate_callee (f := 39) rfl ?_); refine goesL_ (some 15) rfl rfl Try.func39 (by kernel_rfl) rfl #[.slice A0 l0.length c0] rfl (by (try simp only [List.map_toArray, List.map_cons, List.map_nil]); first | done | rfl | (simp only [List.length_drop, List.length_take]; rfl)) ?_; (with_reducible refine (spec_DrawSeenCost.calls k _ _ l0 t503 t504 t507 t510 _ ?side1 ?side2 A3.out).mono ?_); (case side1 => repeat (first | exact HR0.out | (with_reducible refine Kd.C_alloc ?_ _) | (with_reducible refine Kd.C_drewN ?_ _) | (with_reducible refine Kd.C_drew ?_))); (case side2 => exact HC0.out); rintro e w6 ⟨v505, v508, v511, rfl, ho0, ho1, ho2, hb⟩; refine ⟨_, rfl, ?_⟩; have HO506 := ak (Kd.R_lower ho0 (below_size (bl HB))); have HO509 := ak (Kd.S_lower ho1 (below_size (bl HB))); have HO512 := ak (Kd.R_lower ho2 (below_size (bl HB))); replace HB := ak (below_step (bl HB) hb); (try clear hb); (try clear hb2); (try clear hk); (try clear hi); (try clear ho0); (try clear ho1); (try clear ho2)) | ((with_reducible refine gate_dst (N := 3) rfl ?_); refine box_event ?hg (N := 3) ?hd (cs := #[.int .i64 0, .slice none 0 0]) (t := 25) ?hr ?_; (case hd => rfl); (case hg => rfl); (case hr => first | (go_simp; done) | (go_simp; rfl)); intro gb513 hg w7 hbox hb; replace HO506 := ak (Kd.R_below (rk HO506) hb); replace HO509 := ak (Kd.S_below (by (with_reducible repeat (first | apply Kd.S_alloc | apply Kd.S_drewN | apply Kd.S_drew)); exact HO509.out) hb); replace HO512 := ak (Kd.R_below (rk HO512) hb); have BK513 := ak (hbox); have GW513 := ak ((by rw [hg]; exact (below_size (bl HB)) : w.heap.size ≤ gb513)); have GE513 := ak ((by rw [hg]; exact (below_size (bl HB)) : w.heap.size ≤ gb513)); replace HB := ak (below_step (bl HB) hb); clear hb hbox hg; have hcz8_0 := bc w7 BK513 0 (.int .i64 0) rfl; have hcz8_1 := bc w7 BK513 1 (.slice none 0 0) rfl; have hfz8_0 := fz BK513 0; have hfz8_1 := fz BK513 1; obtain ⟨Ao9, co9, eo9⟩ := Kd.R_slice HO506.out; subst eo9; obtain ⟨Ao10, co10, eo10⟩ := Kd.S_slice HO509.out; subst eo10; obtain ⟨Ao11, co11, eo11⟩ := Kd.R_slice HO512.out; subst eo11) | ((with_reducible refine gate_callee (f := 40) rfl ?_); refine goesL_ (some 22) rfl rfl Try.func40 (by kernel_rfl) rfl #[.agg #[.int .i64 t503, .slice Ao9 t504.length co9], .slice Ao10 t507.length co10, .slice Ao11 t510.length co11] rfl (by (try simp only [List.map_toArray, List.map_cons, List.map_nil]); first | done | rfl | (simp only [List.length_drop, List.length_take]; rfl)) ?_; (with_reducible refine (impl_SeenCost.calls k t503 _ _ t504 _ _ t507 _ _ t510 t514 _ ?side1 ?side2 ?side3 ?side4 ?side5 ?side6 A4.out).mono ?_); (case side1 => refine (Kd.R_reads' (e := 41) (base := w.heap.size) (ok := fun k_ => True) (n := t504.length) (c := co9) ?_).2.2; exact (by (with_reducible repeat (first | apply Kd.R_alloc | apply Kd.R_drewN | apply Kd.R_drew)); exact (Kd.R_mono (Kd.R_far (p := ⟨gb513, 1, none⟩) (Kd.R_far (p := ⟨gb513, 0, none⟩) (Kd.R_types HO506.out BK513.out (by decide)) (fun _ hk => hk.2) (.int .i64 t503)) (fun _ hk => hk.2) (.slice Ao9 t504.length co9)) (fun _ h_ => h_.1)))); (case side2 => exact (Kd.R_reads' HO506.out).2.1); (case side3 => refine (Kd.S_reads' (e := 26) (base := w.heap.size) (ok := fun k_ => some k_ ≠ (.slice Ao11 t510.length co11 : Value).ownBlock) (n := t507.length) (c := co10) ?_).2.2; exact (by (with_reducible repeat (first | apply Kd.S_alloc | apply Kd.S_drewN | apply Kd.S_drew)); exact (Kd.S_mono (Kd.S_far (p := ⟨gb513, 1, none⟩) (Kd.S_far (p := ⟨gb513, 0, none⟩) (Kd.S_types HO509.out BK513.out (by decide)) (fun _ hk => hk.2) (.int .i64 t503)) (fun _ hk => hk.2) (.slice Ao9 t504.length co9)) (fun _ h_ => h_.1)))); (case side4 => exact (Kd.S_reads' HO509.out).2.1); (case side5 => refine (Kd.R_reads' (e := 3) (base := w.heap.size) (ok := fun k_ => True) (n := t510.length) (c := co11) ?_).2.2; exact (by (with_reducible repeat (first | apply Kd.R_alloc | apply Kd.R_drewN | apply Kd.R_drew)); exact (Kd.R_mono (Kd.R_far (p := ⟨gb513, 1, none⟩) (Kd.R_far (p := ⟨gb513, 0, none⟩) (Kd.R_types HO512.out BK513.out (by decide)) (fun _ hk => hk.2) (.int .i64 t503)) (fun _ hk => hk.2) (.slice Ao9 t504.length co9)) (fun _ h_ => h_.1)))); (case side6 => exact (Kd.R_reads' HO512.out).2.1); rintro e w12 ⟨rfl, hb⟩; refine ⟨_, rfl, ?_⟩; replace HO506 := ak (Kd.R_below (by (with_reducible repeat (first | apply Kd.R_alloc | apply Kd.R_drewN | apply Kd.R_drew)); exact (Kd.R_mono (Kd.R_far (p := ⟨gb513, 1, none⟩) (Kd.R_far (p := ⟨gb513, 0, none⟩) (Kd.R_types HO506.out BK513.out (by decide)) (fun _ hk => hk.2) (.int .i64 t503)) (fun _ hk => hk.2) (.slice Ao9 t504.length co9)) (fun _ h_ => h_.1))) hb); replace HO509 := ak (Kd.S_below (by (with_reducible repeat (first | apply Kd.S_alloc | apply Kd.S_drewN | apply Kd.S_drew)); exact (Kd.S_mono (Kd.S_far (p := ⟨gb513, 1, none⟩) (Kd.S_far (p := ⟨gb513, 0, none⟩) (Kd.S_types HO509.out BK513.out (by decide)) (fun _ hk => hk.2) (.int .i64 t503)) (fun _ hk => hk.2) (.slice Ao9 t504.length co9)) (fun _ h_ => h_.1))) hb); replace HO512 := ak (Kd.R_below (by (with_reducible repeat (first | apply Kd.R_alloc | apply Kd.R_drewN | apply Kd.R_drew)); exact (Kd.R_mono (Kd.R_far (p := ⟨gb513, 1, none⟩) (Kd.R_far (p := ⟨gb513, 0, none⟩) (Kd.R_types HO512.out BK513.out (by decide)) (fun _ hk => hk.2) (.int .i64 t503)) (fun _ hk => hk.2) (.slice Ao9 t504.length co9)) (fun _ h_ => h_.1))) hb); replace BK513 := ak (blk_below (g := gb513) (o := .cells #[.int .i64 t503, .slice Ao9 t504.length co9] 25 (0, 0)) (by (with_reducible repeat (first | refine blk_drewN ?_ _ | refine blk_drew ?_ | refine blk_alloc ?_ _)); refine blk_put (cs := #[.int .i64 t503, .slice none 0 0]) ?_ 1 _ rfl; refine blk_put (cs := #[.int .i64 0, .slice none 0 0]) ?_ 0 _ rfl; (with_reducible repeat (first | refine blk_drewN ?_ _ | refine blk_drew ?_ | refine blk_alloc ?_ _)); exact BK513.out) hb); replace HB := ak (below_step (bl1 HB GE513) hb); (try clear hb); (try clear hb2); (try clear hk); (try clear hi)))
 (try simp only [Act.put, List.setIfInBounds_toArray, List.set_cons_zero, List.set_cons_succ])
 go_cut [32] (fun v32 wc => ∃ (kq : Nat) (x32_4 : Bool), v32 = .bool x32_4 ∧ Aside0 (laws_FnSeenCost.j0 kq t507 t510 t514 x32_4 t503 t504 = some r) ∧ Aside0 (kq ≤ k) ∧ Aside0 (Kd.S (Kd.slice 3 (Kd.int .i64)) 26 wc w.heap.size (fun k_ => some k_ ≠ ((.slice Ao11 t510.length co11) : Value).ownBlock) (.slice Ao10 t507.length co10) t507) ∧ Aside0 (Kd.R (Kd.int .i64) 3 wc w.heap.size (fun _ => True) (.slice Ao11 t510.length co11) t510) ∧ Aside0 (Kd.R k41 41 wc w.heap.size (fun _ => True) (.slice Ao9 t504.length co9) t504) ∧ Aside0 (wc.heap[gb513]? = some (.cells #[.int .i64 t503, (.slice Ao9 t504.length co9)] 25 (0, 0))) ∧ Aside0 (Below w.heap.size w wc))
 case first =>
  have H := HC5.out
  clear HC5
  replace H := Option.bind_eq_some_iff.mp H
  obtain ⟨t515, A130, H⟩ := H
  have A13 := ak A130
  clear A130
  by_cases c14 : t514 = t515
  rotate_left
  ·rw [if_neg c14] at H
   have c14b0 : (t514 == t515) = false := beq_eq_false_iff_ne.mpr c14
   have c14b1 : (t514 != t515) = true := bne_iff_ne.mpr c14
   (first | rw [c14b0] | (simp only [i64_w, i32_w]; rw [c14b0]) | skip)
   have H' := ak H
   clear H
   have hcz17_0 := bc w12 BK513 0 (.int .i64 t503) rfl
   have hcz17_1 := bc w12 BK513 1 (.slice Ao9 t504.length co9) rfl
   have hfz17_0 := fz BK513 0
   have hfz17_1 := fz BK513 1
   go_wp2_with (first | ((with_reducible refine gate_callee (f := 41) rfl ?_); refine goesL_ (some 27) rfl rfl Try.func41 (by kernel_rfl) rfl #[.agg #[.int .i64 t503, .slice Ao9 t504.length co9], .slice Ao10 t507.length co10, .slice Ao11 t510.length co11] rfl (by (try simp only [List.map_toArray, List.map_cons, List.map_nil]); first | done | rfl | (simp only [List.length_drop, List.length_take]; rfl)) ?_; (with_reducible refine (spec_SeenCost.calls k t503 _ _ t504 _ _ t507 _ _ t510 t515 _ ?side1 ?side2 ?side3 ?side4 ?side5 ?side6 A13.out).mono ?_); (case side1 => repeat (first | exact (Kd.R_reads' HO506.out).2.2 | (with_reducible refine Kd.C_alloc ?_ _) | (with_reducible refine Kd.C_drewN ?_ _) | (with_reducible refine Kd.C_drew ?_))); (case side2 => exact (Kd.R_reads' HO506.out).2.1); (case side3 => repeat (first | exact (Kd.S_reads' HO509.out).2.2 | (with_reducible refine Kd.C_alloc ?_ _) | (with_reducible refine Kd.C_drewN ?_ _) | (with_reducible refine Kd.C_drew ?_))); (case side4 => exact (Kd.S_reads' HO509.out).2.1); (case side5 => repeat (first | exact (Kd.R_reads' HO512.out).2.2 | (with_reducible refine Kd.C_alloc ?_ _) | (with_reducible refine Kd.C_drewN ?_ _) | (with_reducible refine Kd.C_drew ?_))); (case side6 => exact (Kd.R_reads' HO512.out).2.1); rintro e w18 ⟨rfl, hb⟩; refine ⟨_, rfl, ?_⟩; replace HO506 := ak (Kd.R_below (rk HO506) hb); replace HO509 := ak (Kd.S_below (by (with_reducible repeat (first | apply Kd.S_alloc | apply Kd.S_drewN | apply Kd.S_drew)); exact HO509.out) hb); replace HO512 := ak (Kd.R_below (rk HO512) hb); replace BK513 := ak (blk_below (bk BK513) hb); replace HB := ak (below_step (bl1 HB GE513) hb); (try clear hb); (try clear hb2); (try clear hk); (try clear hi)))
   go_meet
   case rel => exact ⟨_, (true), (by first | rfl | (simp; done) | (simp [*]; done)), H', ⟨by first | omega | exact Nat.le_refl _⟩, ⟨by (with_reducible repeat (first | apply Kd.S_alloc | apply Kd.S_drewN | apply Kd.S_drew)); exact HO509.out⟩, ⟨rk HO512⟩, ⟨rk HO506⟩, ⟨bk BK513⟩, ⟨bl1 HB GE513⟩⟩
  rw [if_pos c14] at H
  have c14b0 : (t514 == t515) = true := beq_iff_eq.mpr c14
  have c14b1 : (t514 != t515) = false := bne_eq_false_iff_eq.mpr c14
  clear c14
  (first | rw [c14b0] | (simp only [i64_w, i32_w]; rw [c14b0]) | skip)
  have H' := ak H
  clear H
  have hcz15_0 := bc w12 BK513 0 (.int .i64 t503) rfl
  have hcz15_1 := bc w12 BK513 1 (.slice Ao9 t504.length co9) rfl
  have hfz15_0 := fz BK513 0
  have hfz15_1 := fz BK513 1
  go_wp2_with (first | ((with_reducible refine gate_callee (f := 41) rfl ?_); refine goesL_ (some 27) rfl rfl Try.func41 (by kernel_rfl) rfl #[.agg #[.int .i64 t503, .slice Ao9 t504.length co9], .slice Ao10 t507.length co10, .slice Ao11 t510.length co11] rfl (by (try simp only [List.map_toArray, List.map_cons, List.map_nil]); first | done | rfl | (simp only [List.length_drop, List.length_take]; rfl)) ?_; (with_reducible refine (spec_SeenCost.calls k t503 _ _ t504 _ _ t507 _ _ t510 t515 _ ?side1 ?side2 ?side3 ?side4 ?side5 ?side6 A13.out).mono ?_); (case side1 => repeat (first | exact (Kd.R_reads' HO506.out).2.2 | (with_reducible refine Kd.C_alloc ?_ _) | (with_reducible refine Kd.C_drewN ?_ _) | (with_reducible refine Kd.C_drew ?_))); (case side2 => exact (Kd.R_reads' HO506.out).2.1); (case side3 => repeat (first | exact (Kd.S_reads' HO509.out).2.2 | (with_reducible refine Kd.C_alloc ?_ _) | (with_reducible refine Kd.C_drewN ?_ _) | (with_reducible refine Kd.C_drew ?_))); (case side4 => exact (Kd.S_reads' HO509.out).2.1); (case side5 => repeat (first | exact (Kd.R_reads' HO512.out).2.2 | (with_reducible refine Kd.C_alloc ?_ _) | (with_reducible refine Kd.C_drewN ?_ _) | (with_reducible refine Kd.C_drew ?_))); (case side6 => exact (Kd.R_reads' HO512.out).2.1); rintro e w16 ⟨rfl, hb⟩; refine ⟨_, rfl, ?_⟩; replace HO506 := ak (Kd.R_below (rk HO506) hb); replace HO509 := ak (Kd.S_below (by (with_reducible repeat (first | apply Kd.S_alloc | apply Kd.S_drewN | apply Kd.S_drew)); exact HO509.out) hb); replace HO512 := ak (Kd.R_below (rk HO512) hb); replace BK513 := ak (blk_below (bk BK513) hb); replace HB := ak (below_step (bl1 HB GE513) hb); (try clear hb); (try clear hb2); (try clear hk); (try clear hi)))
  go_meet
  case rel => exact ⟨_, (decide (t514 < 0)), (by first | rfl | (simp; done) | (simp [*]; done)), H', ⟨by first | omega | exact Nat.le_refl _⟩, ⟨by (with_reducible repeat (first | apply Kd.S_alloc | apply Kd.S_drewN | apply Kd.S_drew)); exact HO509.out⟩, ⟨rk HO512⟩, ⟨rk HO506⟩, ⟨bk BK513⟩, ⟨bl1 HB GE513⟩⟩
 clear HC5
 try clear c1
 try clear c2
 try clear c2b0
 try clear c2b1
 try clear p2
 try clear c3
 try clear c4
 try clear c10
 try clear c14
 try clear c14b0
 try clear c14b1
 try clear hcz15_0
 try clear hcz15_1
 try clear hcz17_0
 try clear hcz17_1
 try clear hcz8_0
 try clear hcz8_1
 try clear hfz15_0
 try clear hfz15_1
 try clear hfz17_0
 try clear hfz17_1
 try clear hfz8_0
 try clear hfz8_1
 obtain ⟨kq, x32_4, rfl, HA, HJ4, HO_4, HO_5, HO_514001, BK513, HB⟩ := hcut
 cases kq with
 | zero => exact absurd HA.out (by simp [laws_FnSeenCost.j0])
 | succ kj4 =>
  have H := HA.out
  clear HA
  simp only [laws_FnSeenCost.j0] at H
  by_cases c19 : x32_4 = true
  ·subst c19
   rw [if_pos rfl] at H
   replace H := Option.bind_eq_some_iff.mp H
   obtain ⟨t516, A200, H⟩ := H
   have A20 := ak A200
   clear A200
   obtain rfl := Option.some.inj H
   have hcz21_0 := bc wc BK513 0 (.int .i64 t503) rfl
   have hcz21_1 := bc wc BK513 1 (.slice Ao9 t504.length co9) rfl
   have hfz21_0 := fz BK513 0
   have hfz21_1 := fz BK513 1
   go_wp2_with (first | ((with_reducible refine gate_callee (f := 41) rfl ?_); refine goesL_ (some 37) rfl rfl Try.func41 (by kernel_rfl) rfl #[.agg #[.int .i64 t503, .slice Ao9 t504.length co9], .slice Ao10 t507.length co10, .slice Ao11 t510.length co11] rfl (by (try simp only [List.map_toArray, List.map_cons, List.map_nil]); first | done | rfl | (simp only [List.length_drop, List.length_take]; rfl)) ?_; (with_reducible refine (spec_SeenCost.calls kj4 t503 _ _ t504 _ _ t507 _ _ t510 t516 _ ?side1 ?side2 ?side3 ?side4 ?side5 ?side6 A20.out).mono ?_); (case side1 => repeat (first | exact (Kd.R_reads' HO_514001.out).2.2 | (with_reducible refine Kd.C_alloc ?_ _) | (with_reducible refine Kd.C_drewN ?_ _) | (with_reducible refine Kd.C_drew ?_))); (case side2 => exact (Kd.R_reads' HO_514001.out).2.1); (case side3 => repeat (first | exact (Kd.S_reads' HO_4.out).2.2 | (with_reducible refine Kd.C_alloc ?_ _) | (with_reducible refine Kd.C_drewN ?_ _) | (with_reducible refine Kd.C_drew ?_))); (case side4 => exact (Kd.S_reads' HO_4.out).2.1); (case side5 => repeat (first | exact (Kd.R_reads' HO_5.out).2.2 | (with_reducible refine Kd.C_alloc ?_ _) | (with_reducible refine Kd.C_drewN ?_ _) | (with_reducible refine Kd.C_drew ?_))); (case side6 => exact (Kd.R_reads' HO_5.out).2.1); rintro e w22 ⟨rfl, hb⟩; refine ⟨_, rfl, ?_⟩; replace HO_4 := ak (Kd.S_below (by (with_reducible repeat (first | apply Kd.S_alloc | apply Kd.S_drewN | apply Kd.S_drew)); exact HO_4.out) hb); replace HO_5 := ak (Kd.R_below (rk HO_5) hb); replace HO_514001 := ak (Kd.R_below (rk HO_514001) hb); replace BK513 := ak (blk_below (bk BK513) hb); replace HB := ak (below_step (bl1 HB GE513) hb); (try clear hb); (try clear hb2); (try clear hk); (try clear hi)))
   go_ret
   exact ⟨by first | rfl | (simp [errW_none, errW_some] <;> rfl) | (simp [*, errW_none, errW_some] <;> rfl), bl1 HB GE513⟩
  replace c19 := Bool.eq_false_iff.mpr c19
  subst c19
  rw [if_neg (show ¬ (false = true) by decide)] at H
  replace H := Option.bind_eq_some_iff.mp H
  obtain ⟨⟨t517, t520⟩, A230, H⟩ := H
  have A23 := ak A230
  clear A230
  by_cases c24 : 1 ≤ (t507.length : Int)
  rotate_left
  ·rw [if_neg c24] at H
   exact absurd H (by simp)
  rw [if_pos c24] at H
  have c24b0 := eq_true c24
  have c24b1 : decide (1 ≤ (t507.length : Int)) = true := decide_eq_true c24
  clear c24
  obtain ⟨y521, hy521⟩ : ∃ y_ : List (List Int), y_ = (t507.take 1) := ⟨_, rfl⟩
  replace H : (if 1 ≤ (t510.length : Int) then ((impl_SeenCost.f kj4 t503 t504 y521 (t510.take 1)).bind fun t529 => (if t514 ≥ t520 then (if 0 < (t507.length : Int) then (if 0 < (t510.length : Int) then (if 0 ≤ (rd t510 0) then (if (rd t510 0) < ((rd_L3 t507 0).length : Int) then (some (t529 == (rd (rd_L3 t507 0) (rd t510 0)))) else (none)) else (none)) else (none)) else (none)) else (some false))) else (none)) = some r := by first | (rw [hy521]; with_reducible exact H) | (have H2_ := (Option.bind_some _ _).symm.trans H; rw [hy521]; with_reducible exact H2_) | (have H2_ := (Option.bind_some _ _).symm.trans H; with_reducible exact H2_) | with_reducible exact H | (rw [hy521]; exact H) | exact H
  have Ny521 := ak hy521
  clear hy521
  by_cases c25 : 1 ≤ (t510.length : Int)
  rotate_left
  ·rw [if_neg c25] at H
   exact absurd H (by simp)
  rw [if_pos c25] at H
  have c25b0 := eq_true c25
  have c25b1 : decide (1 ≤ (t510.length : Int)) = true := decide_eq_true c25
  clear c25
  obtain ⟨y525, hy525⟩ : ∃ y_ : List Int, y_ = (t510.take 1) := ⟨_, rfl⟩
  replace H : ((impl_SeenCost.f kj4 t503 t504 y521 y525).bind fun t529 => (if t514 ≥ t520 then (if 0 < (t507.length : Int) then (if 0 < (t510.length : Int) then (if 0 ≤ (rd t510 0) then (if (rd t510 0) < ((rd_L3 t507 0).length : Int) then (some (t529 == (rd (rd_L3 t507 0) (rd t510 0)))) else (none)) else (none)) else (none)) else (none)) else (some false))) = some r := by first | (rw [hy525]; with_reducible exact H) | (have H2_ := (Option.bind_some _ _).symm.trans H; rw [hy525]; with_reducible exact H2_) | (have H2_ := (Option.bind_some _ _).symm.trans H; with_reducible exact H2_) | with_reducible exact H | (rw [hy525]; exact H) | exact H
  have Ny525 := ak hy525
  clear hy525
  replace H := Option.bind_eq_some_iff.mp H
  obtain ⟨t529, A260, H⟩ := H
  have A26 := ak A260
  clear A260
  by_cases c27 : t514 ≥ t520
  rotate_left
  ·rw [if_neg c27] at H
   have c27b0 : decide (t520 ≤ t514) = false := decide_eq_false c27
   clear c27
   exact absurd ((Option.some.inj H).trans hr_) Bool.false_ne_true
  rw [if_pos c27] at H
  have c27b0 : decide (t520 ≤ t514) = true := decide_eq_true c27
  clear c27
  by_cases c28 : 0 < (t507.length : Int)
  rotate_left
  ·rw [if_neg c28] at H
   exact absurd H (by simp)
  rw [if_pos c28] at H
  have c28b0 : decide (0 < (t507.length : Int)) = true := decide_eq_true c28
  have c28b1 : decide (0 < t507.length) = true := decide_eq_true (by omega)
  clear c28
  by_cases c29 : 0 < (t510.length : Int)
  rotate_left
  ·rw [if_neg c29] at H
   exact absurd H (by simp)
  rw [if_pos c29] at H
  have c29b0 : decide (0 < (t510.length : Int)) = true := decide_eq_true c29
  have c29b1 : decide (0 < t510.length) = true := decide_eq_true (by omega)
  clear c29
  by_cases c30 : 0 ≤ (rd t510 0)
  rotate_left
  ·rw [if_neg c30] at H
   exact absurd H (by simp)
  rw [if_pos c30] at H
  have c30b0 : decide (0 ≤ (rd t510 0)) = true := decide_eq_true c30
  clear c30
  by_cases c31 : (rd t510 0) < ((rd_L3 t507 0).length : Int)
  rotate_left
  ·rw [if_neg c31] at H
   exact absurd H (by simp)
  rw [if_pos c31] at H
  have c31b0 : decide ((rd t510 0) < ((rd_L3 t507 0).length : Int)) = true := decide_eq_true c31
  clear c31
  obtain rfl := Option.some.inj H
  have hcz32_0 := bc wc BK513 0 (.int .i64 t503) rfl
  have hcz32_1 := bc wc BK513 1 (.slice Ao9 t504.length co9) rfl
  have hfz32_0 := fz BK513 0
  have hfz32_1 := fz BK513 1
  try go_wp2_with (first | ((with_reducible refine gate_callee (f := 37) rfl ?_); refine goesL_ (some 42) rfl rfl Try.func37 (by kernel_rfl) rfl #[.agg #[.int .i64 t503, .slice Ao9 t504.length co9], .slice Ao10 t507.length co10] rfl (by (try simp only [List.map_toArray, List.map_cons, List.map_nil]); first | done | rfl | (simp only [List.length_drop, List.length_take]; rfl)) ?_; (with_reducible refine (impl_SeenBest.calls kj4 t503 _ _ t504 _ _ t507 t517 t520 _ ?side1 ?side2 ?side3 ?side4 A23.out).mono ?_); (case side1 => repeat (first | exact (Kd.R_reads' HO_514001.out).2.2 | (with_reducible refine Kd.C_alloc ?_ _) | (with_reducible refine Kd.C_drewN ?_ _) | (with_reducible refine Kd.C_drew ?_))); (case side2 => exact (Kd.R_reads' HO_514001.out).2.1); (case side3 => repeat (first | exact (Kd.S_reads' HO_4.out).2.2 | (with_reducible refine Kd.C_alloc ?_ _) | (with_reducible refine Kd.C_drewN ?_ _) | (with_reducible refine Kd.C_drew ?_))); (case side4 => exact (Kd.S_reads' HO_4.out).2.1); rintro e w33 ⟨v518, rfl, ho0, hb⟩; refine ⟨_, rfl, ?_⟩; replace HO_4 := ak (Kd.S_elder' (by (with_reducible repeat (first | apply Kd.S_alloc | apply Kd.S_drewN | apply Kd.S_drew)); exact HO_4.out) (Kd.R_base ho0) hb); replace HO_514001 := ak (Kd.R_below (rk HO_514001) hb); have HO519 := ak (Kd.R_lower (Kd.R_new' ho0 (Kd.R_lt (rk HO_5))) (below_size (bl1 HB GE513))); replace HO_5 := ak (Kd.R_elder' (rk HO_5) (Kd.R_base ho0) hb); replace BK513 := ak (blk_below (bk BK513) hb); replace HB := ak (below_step (bl1 HB GE513) hb); (try clear hb); (try clear hb2); (try clear hk); (try clear hi); (try clear ho0)))
  replace HO_4 := ak (Kd.S_drew HO_4.out)
  replace HO_5 := ak (Kd.R_drew HO_5.out)
  replace HO_514001 := ak (Kd.R_drew HO_514001.out)
  replace HO519 := ak (Kd.R_drew HO519.out)
  replace BK513 := ak (blk_drew BK513.out)
  replace HB := ak (below_drew1 HB.out)
  have q35 : (1 : Int) ≤ ((t507.length : Int) : Int) := oT (by first | (with_reducible assumption) | assumption)
  obtain ⟨i035, hi035, _, hsz35, _⟩ := info_parts info26
  have hroom35 : t507.length ≤ co10 := (Kd.S_reads' HO_4.out).2.1
  have hC35 : Kd.C (Kd.slice 3 (Kd.int .i64)) _ Ao10 t507.length t507 := (Kd.S_reads' HO_4.out).2.2
  have hcut35 := cut_to (P := Try.prog) 50 26 .i64 Try.underlying50 hi035 Ao10 t507.length co10 1 (by omega) q35 hroom35
  have hr35 := Kd.C_take (m := 1) hC35 (by omega)
  have hy35 : y521.length = (1 : Int).toNat := (by rw [Ny521.out, List.length_take]; omega)
  rw [← Ny521.out] at hr35
  rw [← hy35] at hcut35
  have HR524 := ak hr35
  have HC524 := ak (show y521.length ≤ co10 from by omega)
  clear hr35 hC35 hroom35 hi035 hsz35
  have KY35 := ak hy35
  clear hy35
  have KL35 := ak (show 1 ≤ t507.length from by omega)
  replace q35 := eq_true q35
  have q36 : (1 : Int) ≤ ((t510.length : Int) : Int) := oT (by first | (with_reducible assumption) | assumption)
  obtain ⟨i036, hi036, _, hsz36, _⟩ := info_parts info3
  have hroom36 : t510.length ≤ co11 := (Kd.R_reads' HO_5.out).2.1
  have hC36 : Kd.C (Kd.int .i64) _ Ao11 t510.length t510 := (Kd.R_reads' HO_5.out).2.2
  have hcut36 := cut_to (P := Try.prog) 26 3 .i64 Try.underlying26 hi036 Ao11 t510.length co11 1 (by omega) q36 hroom36
  have hr36 := Kd.C_take (m := 1) hC36 (by omega)
  have hy36 : y525.length = (1 : Int).toNat := (by rw [Ny525.out, List.length_take]; omega)
  rw [← Ny525.out] at hr36
  rw [← hy36] at hcut36
  have HR528 := ak hr36
  have HC528 := ak (show y525.length ≤ co11 from by omega)
  clear hr36 hC36 hroom36 hi036 hsz36
  have KY36 := ak hy36
  clear hy36
  have KL36 := ak (show 1 ≤ t510.length from by omega)
  replace q36 := eq_true q36
  refine start_ (n := 7) (S := fun w' => w'.cell? ⟨gb513, 0, none⟩ = some (.int .i64 t503) ∧ w'.cell? ⟨gb513, 1, none⟩ = some (.slice Ao9 t504.length co9)) (ds := []) (ms 7 0) (by kernel_rfl) rfl (by kernel_rfl) ⟨(blk_cell BK513.out 0).trans rfl, (blk_cell BK513.out 1).trans rfl⟩ (fun hHeld => ?_)
  generalize w33.drew = w34 at HO_4 HO_5 HO_514001 HO519 BK513 HB HR524 HR528 hHeld ⊢
  refine pure_ (i := 1) (N := some 46) (v := ?_) (a' := ?_) (ms 7 2) rfl rfl (by kernel_rfl) (fun _ _ _ h => h) (Or.inl ⟨by rfl, ?_⟩) ?_ ?_
  rotate_left
  ·intro w'
   go_simp
   with_reducible rfl
  rotate_left
  ·simp only [SX]
   rfl
  refine pure_ (i := 2) (N := some 47) (v := ?_) (a' := ?_) (ms 7 6) rfl rfl (by kernel_rfl) (fun _ _ _ h => h) (Or.inl ⟨by rfl, ?_⟩) ?_ ?_
  rotate_left
  ·intro w'
   go_simp
   with_reducible rfl
  rotate_left
  ·simp only [SX]
   rfl
  refine pure_ (i := 3) (N := some 48) (v := ?_) (a' := ?_) (ms 7 14) rfl rfl (by kernel_rfl) (fun _ _ _ h => h) (Or.inl ⟨by rfl, ?_⟩) ?_ ?_
  rotate_left
  ·intro w'
   go_simp
   with_reducible rfl
  rotate_left
  ·simp only [SX]
   rfl
  refine pure_ (i := 4) (N := some 49) (v := ?_) (a' := ?_) (ms 7 30) rfl rfl (by kernel_rfl) (fun _ _ _ h => h) (Or.inl ⟨by rfl, ?_⟩) ?_ ?_
  rotate_left
  ·intro w'
   go_simp
   with_reducible rfl
  rotate_left
  ·simp only [SX]
   rfl
  refine take_ (i := 0) (N := some 45) (v := ?_) (a' := ?_) (ms 7 31) rfl rfl (by kernel_rfl) (fun _ _ _ h => h) (Or.inl ⟨by rfl, ?_⟩) hHeld ?_ ?_
  rotate_left
  ·rintro w' ⟨s0, s1⟩
   go_simp
   with_reducible rfl
  rotate_left
  ·simp only [SX]
   rfl
  refine one_ (i := 5) (N := some 50) (ms 7 63) rfl rfl (by kernel_rfl) (by decide) (fun K hK => ?_)
  refine goes_ Try.func40 (by kernel_rfl) rfl #[.agg #[.int .i64 t503, .slice Ao9 t504.length co9], .slice Ao10 y521.length co10, .slice Ao11 y525.length co11] (by rfl) rfl rfl (by (try simp only [List.map_toArray, List.map_cons, List.map_nil]); first | done | rfl | (simp only [List.length_drop, List.length_take]; rfl)) ?_
  with_reducible refine (impl_SeenCost.calls kj4 t503 _ _ t504 _ _ y521 _ _ y525 t529 _ ?side1 ?side2 ?side3 ?side4 ?side5 ?side6 A26.out).mono ?_
  (case side1 => repeat (first | exact (Kd.R_reads' HO_514001.out).2.2 | (with_reducible refine Kd.C_alloc ?_ _) | (with_reducible refine Kd.C_drewN ?_ _) | (with_reducible refine Kd.C_drew ?_)))
  (case side2 => exact (Kd.R_reads' HO_514001.out).2.1)
  (case side3 => repeat (first | exact (by repeat (first | (with_reducible exact HR524.out) | (with_reducible refine Kd.C_alloc ?_ _) | (with_reducible refine Kd.C_drewN ?_ _) | (with_reducible refine Kd.C_drew ?_) | exact HR524.out)) | (with_reducible refine Kd.C_alloc ?_ _) | (with_reducible refine Kd.C_drewN ?_ _) | (with_reducible refine Kd.C_drew ?_)))
  (case side4 => exact HC524.out)
  (case side5 => repeat (first | exact (by repeat (first | (with_reducible exact HR528.out) | (with_reducible refine Kd.C_alloc ?_ _) | (with_reducible refine Kd.C_drewN ?_ _) | (with_reducible refine Kd.C_drew ?_) | exact HR528.out)) | (with_reducible refine Kd.C_alloc ?_ _) | (with_reducible refine Kd.C_drewN ?_ _) | (with_reducible refine Kd.C_drew ?_)))
  (case side6 => exact HC528.out)
  rintro e w37 ⟨rfl, hb⟩
  refine ⟨_, rfl, ?_⟩
  replace HO_4 := ak (Kd.S_below (by (with_reducible repeat (first | apply Kd.S_alloc | apply Kd.S_drewN | apply Kd.S_drew)); exact HO_4.out) hb)
  replace HO_5 := ak (Kd.R_below (rk HO_5) hb)
  replace HO_514001 := ak (Kd.R_below (rk HO_514001) hb)
  replace HO519 := ak (Kd.R_below (rk HO519) hb)
  replace BK513 := ak (blk_below (bk BK513) hb)
  replace HR524 := ak (Kd.C_below (by repeat (first | (with_reducible exact HR524.out) | (with_reducible refine Kd.C_alloc ?_ _) | (with_reducible refine Kd.C_drewN ?_ _) | (with_reducible refine Kd.C_drew ?_) | exact HR524.out)) hb)
  replace HR528 := ak (Kd.C_below (by repeat (first | (with_reducible exact HR528.out) | (with_reducible refine Kd.C_alloc ?_ _) | (with_reducible refine Kd.C_drewN ?_ _) | (with_reducible refine Kd.C_drew ?_) | exact HR528.out)) hb)
  replace HB := ak (below_step (bl1 HB GE513) hb)
  (try clear hb)
  (try clear hb2)
  (try clear hk)
  (try clear hi)
  refine hK.out _ _ ⟨(blk_cell BK513.out 0).trans rfl, (blk_cell BK513.out 1).trans rfl⟩ (fun hHeld => ?_)
  clear hK K
  refine norm_ (a' := ?_) ?_ ?_
  rotate_left
  ·show Act.put _ (some 50) _ = _
   simp only [SX]
   rfl
  refine pure_ (i := 6) (N := some 9) (v := ?_) (a' := ?_) (ms 7 127) rfl rfl (by kernel_rfl) (fun _ _ _ h => h) (Or.inl ⟨by rfl, ?_⟩) ?_ ?_
  rotate_left
  ·intro w'
   go_simp
   with_reducible rfl
  rotate_left
  ·simp only [SX]
   rfl
  refine done_ (by kernel_rfl) ?_
  try go_wp2
  replace HO_4 := ak (Kd.S_drew HO_4.out)
  replace HO_5 := ak (Kd.R_drew HO_5.out)
  replace HO_514001 := ak (Kd.R_drew HO_514001.out)
  replace HO519 := ak (Kd.R_drew HO519.out)
  replace BK513 := ak (blk_drew BK513.out)
  replace HR524 := ak (Kd.C_drew HR524.out)
  replace HR528 := ak (Kd.C_drew HR528.out)
  replace HB := ak (below_drew1 HB.out)
  have p530 : 0 ≤ (0 : Int) := (by omega)
  have q530 : 0 < (t507.length : Int) := oT (by first | (with_reducible assumption) | assumption)
  obtain ⟨ad530, A530_0, c530_0, e530, hx530_0, hl530_0, hi530_0⟩ := at_L3 (Kd.S_reads' HO_4.out).2.2 0 p530 q530
  cases e530
  obtain ⟨ce530, hce530, hMe530, hcc530⟩ := Kd.S_get HO_4.out [] 0 p530 (by first | exact q530 | exact oT (by first | (with_reducible assumption) | assumption) | (have e_ := (Kd.S_reads' HO_4.out).1; omega))
  obtain ⟨ve530_0, rfl, ge530_0⟩ := hMe530
  have hv530_0 := hcc530 0 _ rfl
  rw [Nat.add_zero, show ((Kd.slice 3 (Kd.int .i64))).sz = 1 from rfl, Nat.mul_one] at hv530_0
  replace hv530_0 := Option.some.inj (hv530_0.symm.trans hx530_0)
  rw [hv530_0] at ge530_0
  have HL530_0 := ak (show Kd.R (Kd.int .i64) 3 _ _ _ _ (rd_L3 t507 0) from ge530_0)
  clear hv530_0 ge530_0
  clear hcc530 hce530
  have qi530 : (0 < t507.length) = True := eq_true (by omega)
  (try rw [show ((0 : Int)).toNat = 0 from rfl] at hx530_0)
  (try rw [Addr.add_zero'] at hx530_0)
  have HR530_0 := ak hi530_0
  have HC530_0 := ak hl530_0
  clear hi530_0 hl530_0
  replace p530 := eq_true p530
  replace q530 := eq_true q530
  have p531 : 0 ≤ (0 : Int) := (by omega)
  have q531 : 0 < (t510.length : Int) := oT (by first | (with_reducible assumption) | assumption)
  obtain ⟨ad531, e531, hx531_0⟩ := Kd.at_int (Kd.R_reads' HO_5.out).2.2 0 p531 q531
  cases e531
  have qi531 : (0 < t510.length) = True := eq_true (by omega)
  (try rw [show ((0 : Int)).toNat = 0 from rfl] at hx531_0)
  (try rw [Addr.add_zero'] at hx531_0)
  replace p531 := eq_true p531
  replace q531 := eq_true q531
  have p532 : 0 ≤ ((rd t510 0) : Int) := oT (by first | (with_reducible assumption) | assumption)
  have q532 : (rd t510 0) < ((rd_L3 t507 0).length : Int) := oT (by first | (with_reducible assumption) | assumption)
  obtain ⟨ad532, e532, hx532_0⟩ := Kd.at_int (by repeat (first | (with_reducible exact HR530_0.out) | (with_reducible refine Kd.C_alloc ?_ _) | (with_reducible refine Kd.C_drewN ?_ _) | (with_reducible refine Kd.C_drew ?_) | exact HR530_0.out)) (rd t510 0) p532 q532
  cases e532
  replace p532 := eq_true p532
  replace q532 := eq_true q532
  refine start_ (n := 16) (S := fun w' => w'.cell? ad530 = some (.slice (some ad532) (rd_L3 t507 0).length c530_0) ∧ w'.cell? ad531 = some (.int .i64 (rd t510 0)) ∧ w'.cell? (ad532.add ((rd t510 0)).toNat) = some (.int .i64 (rd (rd_L3 t507 0) (rd t510 0)))) (ds := []) (ms 16 0) (by kernel_rfl) rfl (by kernel_rfl) ⟨hx530_0, hx531_0, hx532_0⟩ (fun hHeld => ?_); refine with_tabW laws_FnSeenCost.tab9 laws_FnSeenCost.bits9 (fun HT_ HW_ => ?_)
  generalize w37.drew = w38 at HO_4 HO_5 HO_514001 HO519 BK513 HR524 HR528 HB HL530_0 HR530_0 hx530_0 hx531_0 hx532_0 hHeld ⊢
  refine pu 0 51 ?_ (ms 16 1) rfl rfl HT_ (by kernel_rfl) (fun _ _ _ h => h) (by rfl) ?_ ?_ ?_ ?_
  rotate_left
  ·intro w'
   go_simp
   with_reducible rfl
  rotate_left
  ·simp only [SX]
   rfl
  refine pu 1 52 ?_ (ms 16 3) rfl rfl HT_ (by kernel_rfl) (fun _ _ _ h => h) (by rfl) ?_ ?_ ?_ ?_
  rotate_left
  ·intro w'
   go_simp
   with_reducible rfl
  rotate_left
  ·simp only [SX]
   rfl
  refine pu 2 53 ?_ (ms 16 7) rfl rfl HT_ (by kernel_rfl) (fun _ _ _ h => h) (by rfl) ?_ ?_ ?_ ?_
  rotate_left
  ·intro w'
   go_simp
   with_reducible rfl
  rotate_left
  ·simp only [SX]
   rfl
  refine pu 3 54 ?_ (ms 16 15) rfl rfl HT_ (by kernel_rfl) (fun _ _ _ h => h) (by rfl) ?_ ?_ ?_ ?_
  rotate_left
  ·intro w'
   go_simp
   with_reducible rfl
  rotate_left
  ·simp only [SX]
   rfl
  refine pu 4 55 ?_ (ms 16 31) rfl rfl HT_ (by kernel_rfl) (fun _ _ _ h => h) (by rfl) ?_ ?_ ?_ ?_
  rotate_left
  ·intro w'
   go_simp
   with_reducible rfl
  rotate_left
  ·simp only [SX]
   rfl
  refine pu 5 56 ?_ (ms 16 63) rfl rfl HT_ (by kernel_rfl) (fun _ _ _ h => h) (by rfl) ?_ ?_ ?_ ?_
  rotate_left
  ·intro w'
   go_simp
   with_reducible rfl
  rotate_left
  ·simp only [SX]
   rfl
  refine pu 6 57 ?_ (ms 16 127) rfl rfl HT_ (by kernel_rfl) (fun _ _ _ h => h) (by rfl) ?_ ?_ ?_ ?_
  rotate_left
  ·intro w'
   go_simp
   with_reducible rfl
  rotate_left
  ·simp only [SX]
   rfl
  refine pu 8 59 ?_ (ms 16 383) rfl rfl HT_ (by kernel_rfl) (fun _ _ _ h => h) (by rfl) ?_ ?_ ?_ ?_
  rotate_left
  ·intro w'
   go_simp
   with_reducible rfl
  rotate_left
  ·simp only [SX]
   rfl
  refine pu 9 60 ?_ (ms 16 895) rfl rfl HT_ (by kernel_rfl) (fun _ _ _ h => h) (by rfl) ?_ ?_ ?_ ?_
  rotate_left
  ·intro w'
   go_simp
   with_reducible rfl
  rotate_left
  ·simp only [SX]
   rfl
  refine tk 7 58 ?_ (ms 16 1023) rfl rfl HT_ HW_ (by kernel_rfl) (fun _ _ _ h => h) (by rfl) ?_ hHeld ?_ ?_ ?_
  rotate_left
  ·rintro w' ⟨s0, s1, s2⟩
   go_simp
   with_reducible rfl
  rotate_left
  ·simp only [SX]
   rfl
  refine tk 10 61 ?_ (ms 16 2047) rfl rfl HT_ HW_ (by kernel_rfl) (fun _ _ _ h => h) (by rfl) ?_ hHeld ?_ ?_ ?_
  rotate_left
  ·rintro w' ⟨s0, s1, s2⟩
   go_simp
   with_reducible rfl
  rotate_left
  ·simp only [SX]
   rfl
  refine pu 11 62 ?_ (ms 16 4095) rfl rfl HT_ (by kernel_rfl) (fun _ _ _ h => h) (by rfl) ?_ ?_ ?_ ?_
  rotate_left
  ·intro w'
   go_simp
   with_reducible rfl
  rotate_left
  ·simp only [SX]
   rfl
  refine tk 12 63 ?_ (ms 16 8191) rfl rfl HT_ HW_ (by kernel_rfl) (fun _ _ _ h => h) (by rfl) ?_ hHeld ?_ ?_ ?_
  rotate_left
  ·rintro w' ⟨s0, s1, s2⟩
   go_simp
   with_reducible rfl
  rotate_left
  ·simp only [SX]
   rfl
  refine pu 13 64 ?_ (ms 16 16383) rfl rfl HT_ (by kernel_rfl) (fun _ _ _ h => h) (by rfl) ?_ ?_ ?_ ?_
  rotate_left
  ·intro w'
   go_simp
   with_reducible rfl
  rotate_left
  ·simp only [SX]
   rfl
  refine pu 14 65 ?_ (ms 16 32767) rfl rfl HT_ (by kernel_rfl) (fun _ _ _ h => h) (by rfl) ?_ ?_ ?_ ?_
  rotate_left
  ·intro w'
   go_simp
   with_reducible rfl
  rotate_left
  ·simp only [SX]
   rfl
  refine pu 15 2 ?_ (ms 16 65535) rfl rfl HT_ (by kernel_rfl) (fun _ _ _ h => h) (by rfl) ?_ ?_ ?_ ?_
  rotate_left
  ·intro w'
   go_simp
   with_reducible rfl
  rotate_left
  ·simp only [SX]
   rfl
  refine done_ (done_of HT_.out (by kernel_rfl)) ?_
  try go_wp2
  go_ret
  exact ⟨by first | rfl | (simp [errW_none, errW_some] <;> rfl) | (simp [*, errW_none, errW_some] <;> rfl), bl1 HB GE513⟩

/-- THE ONE PURE STATEMENT of laws_FnSeenCost: yours. -/
def laws_FnSeenCost.Pure : Prop := ∀ (l0 : List Int), l0.length ≤ maxLen → l0.length * 1 ≤ 140737488351232 → (∀ x ∈ l0, (Lit.int .u8 x).wf = true) → ∃ k, laws_FnSeenCost.f k l0 = some true
theorem laws_FnSeenCost.walk (P : laws_FnSeenCost.Pure) (a0 : Option Addr) (len0 cap0 : Nat) (z0 : List Int) (w : World) (w0 : (a0 = none ∧ len0 = 0 ∧ cap0 = 0 ∧ z0 = []) ∨ ∃ x, a0 = some x ∧ len0 ≤ cap0 ∧ cap0 ≤ maxLen ∧ z0.length = cap0 ∧ (∀ i, i < z0.length → w.cell? (x.add i) = some (.int .u8 (z0.getD i 0))) ∧ ∀ n ∈ z0, (Lit.int .u8 n).wf = true) (y0 : len0 * 1 ≤ 140737488351232) :
  Calls Try.prog 10 #[.slice a0 len0 cap0] w fun e w' => e = .returned (.bool true) ∧ Below w.heap.size w w' := by
 obtain ⟨l0, rfl, hr0, hm0, hw0, hc0⟩ := ReadsInt.ofRowC w0
 obtain ⟨k, h⟩ := P l0 hm0 y0 hw0
 refine (laws_FnSeenCost.calls k _ _ l0 true w (Kd.C_of_reads (d := (0 : Int)) (h1 := fun _ => rfl) hr0) hc0 h rfl).mono ?_
 rintro e w' ⟨rfl, hd⟩
 exact ⟨rfl, hd⟩

end Go.Proofs.Ytgickejeakmenaa.F
