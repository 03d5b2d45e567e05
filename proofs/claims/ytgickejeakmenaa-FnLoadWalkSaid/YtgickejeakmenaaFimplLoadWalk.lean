-- Printed by wip/px/px.py of this claim's repository (the kit's printer, extended there). Lean checks it.
import Derived.Test.YtgickejeakmenaaFKinds
import Derived.Test.YtgickejeakmenaaFimplnodesIn
import Derived.Test.YtgickejeakmenaaFimplNetloaded
import Derived.Test.YtgickejeakmenaaFimplloadOk
import Derived.Test.YtgickejeakmenaaFimplNetbest
import Derived.Test.YtgickejeakmenaaFimplchosen
namespace Go.Proofs.Ytgickejeakmenaa.F
open Go.RowKit Go.Proofs.YtgickejeakmenaaW.PrintWords Go.Proofs.YtgickejeakmenaaW.PrintLast Go.Proofs.YtgickejeakmenaaW.PrintMore
attribute [local go_sem] max2_int min2_int max_two min_two max_three min_three max_four min_four   -- for this text's walks alone
set_option linter.unusedVariables false
set_option linter.unusedSimpArgs false

/-! ### impl_LoadWalk: function 26 -/
def impl_LoadWalk.j0 : Nat → Int → Int → Int → Bool → Int → List (S41) → Option (List Int × Bool)
 | 0, _, _, _, _, _, _ => none
 | k + 1, x1, x2, x3, x24, x566000, x566001 => if x24 = true then (some (([] : List Int), false)) else ((impl_Net_loaded.f k x566000 x566001 x3).bind fun bt571 => ((impl_Net_best.f k bt571.1 bt571.2.1 x1 x2).bind fun bt579 => (if bt579.2 = true then ((impl_chosen.f k bt571.2.2 bt579.1).bind fun t583 => (some (t583, true))) else (some (([] : List Int), false)))))
def impl_LoadWalk.f (k : Nat) (a0_0 : Int) (l0_1 : List (S41)) (a1 : Int) (a2 : Int) (a3 : Int) : Option (List Int × Bool) := (impl_nodesIn.f a0_0 l0_1 (([a1, a2] : List Int))).bind fun t569 => (if t569 = true then ((impl_loadOk.f a3).bind fun t570 => (impl_LoadWalk.j0 k a1 a2 a3 (!t570) a0_0 l0_1)) else (impl_LoadWalk.j0 k a1 a2 a3 true a0_0 l0_1))
theorem impl_LoadWalk.mono_l : ∀ k, (∀ y0 y1 y2 y3 y4 y5, LeO (impl_LoadWalk.j0 k y0 y1 y2 y3 y4 y5) (impl_LoadWalk.j0 (k + 1) y0 y1 y2 y3 y4 y5))
 | 0 => fun _ _ _ _ _ _ r h => by simp [impl_LoadWalk.j0] at h
 | k + 1 => by
  have ih0 := impl_LoadWalk.mono_l k
  ·intro y0 y1 y2 y3 y4 y5
   unfold impl_LoadWalk.j0
   repeat' first | (with_reducible exact impl_Net_best.mono _ _ _ _ _) | (with_reducible exact impl_Net_loaded.mono _ _ _ _) | (with_reducible exact impl_chosen.mono _ _ _) | (with_reducible exact LeO.refl _) | (with_reducible refine LeO.ite ?_ ?_) | (with_reducible refine LeO.bind ?_ (fun _ => ?_))
theorem impl_LoadWalk.mono : ∀ a0 a1 a2 a3 a4 k, LeO (impl_LoadWalk.f k a0 a1 a2 a3 a4) (impl_LoadWalk.f (k + 1) a0 a1 a2 a3 a4) := by
 intro a0 a1 a2 a3 a4 k
 have ih0 := impl_LoadWalk.mono_l k
 unfold impl_LoadWalk.f
 repeat' first | (with_reducible exact ih0 _ _ _ _ _ _) | (with_reducible exact LeO.refl _) | (with_reducible refine LeO.ite ?_ ?_) | (with_reducible refine LeO.bind ?_ (fun _ => ?_))
set_option maxHeartbeats 8000000 in
set_option maxRecDepth 100000 in
theorem impl_LoadWalk.calls (k : Nat) (a0_0 : Int) (A0_1 : Option Addr) (c0_1 : Nat) (l0_1 : List (S41)) (a1 : Int) (a2 : Int) (a3 : Int) (r1 : List Int) (r2 : Bool) (w : World) (hr0_1 : Kd.C k41 w A0_1 l0_1.length l0_1) (hc0_1 : l0_1.length ≤ c0_1) (h : impl_LoadWalk.f k a0_0 l0_1 a1 a2 a3 = some (r1, r2)) :
  Calls Try.prog 26 #[.agg #[.int .i64 a0_0, .slice A0_1 l0_1.length c0_1], .int .i64 a1, .int .i64 a2, .int .i64 a3] w fun e w' => ∃ v0_ : Value, e = .returned (.tuple #[v0_, .bool r2]) ∧ Kd.R (Kd.int .i64) 3 w' w.heap.size (fun _ => True) v0_ r1 ∧ Below w.heap.size w w' := by
 have hu25 := Try.underlying25
 have HR0_1 := Aside0.mk hr0_1
 have HC0_1 := Aside0.mk hc0_1
 clear hr0_1 hc0_1
 have HB := Aside0.mk (Below.refl w.heap.size w)
 have H : ((impl_nodesIn.f a0_0 l0_1 (([a1, a2] : List Int))).bind fun t569 => (if t569 = true then ((impl_loadOk.f a3).bind fun t570 => (impl_LoadWalk.j0 k a1 a2 a3 (!t570) a0_0 l0_1)) else (impl_LoadWalk.j0 k a1 a2 a3 true a0_0 l0_1))) = some (r1, r2) := h
 clear h
 have HC5 := Aside0.mk H
 clear H
 go_enter Try.func26, Try.ntmps26
 go_upto_region 1 with (((with_reducible refine gate_dst (N := 4) rfl ?_); refine box_event ?hg (N := 4) ?hd (cs := #[.int .i64 a0_0, .slice A0_1 l0_1.length c0_1]) (t := 25) ?hr ?_; (case hd => rfl); (case hg => rfl); (case hr => (go_simp; done)); intro gb565 hg w6 hbox hb; have BK565 := Aside0.mk (hbox); have GW565 := Aside0.mk ((by rw [hg]; exact (below_size (bl HB)) : w.heap.size ≤ gb565)); have GE565 := Aside0.mk ((by rw [hg]; exact (below_size (bl HB)) : w.heap.size ≤ gb565)); replace HB := Aside0.mk (below_step (bl HB) hb); clear hb hbox hg))
 (try simp only [Act.put, List.setIfInBounds_toArray, List.set_cons_zero, List.set_cons_succ])
 go_cut [24] (fun v24 wc => ∃ (kq : Nat) (x24_4 : Bool), v24 = .bool x24_4 ∧ Aside0 (impl_LoadWalk.j0 kq a1 a2 a3 x24_4 a0_0 l0_1 = some (r1, r2)) ∧ Aside0 (kq ≤ k) ∧ Aside0 (wc.heap[gb565]? = some (.cells #[.int .i64 a0_0, (.slice A0_1 l0_1.length c0_1)] 25 (0, 0))) ∧ Aside0 (Below w.heap.size w wc))
 case first =>
  have H := HC5.out
  clear HC5
  obtain ⟨y566, hy566⟩ : ∃ y_ : List Int, y_ = (([a1, a2] : List Int)) := ⟨_, rfl⟩
  replace H : ((impl_nodesIn.f a0_0 l0_1 y566).bind fun t569 => (if t569 = true then ((impl_loadOk.f a3).bind fun t570 => (impl_LoadWalk.j0 k a1 a2 a3 (!t570) a0_0 l0_1)) else (impl_LoadWalk.j0 k a1 a2 a3 true a0_0 l0_1))) = some (r1, r2) := by (rw [hy566]; with_reducible exact H)
  have Ny566 := Aside0.mk hy566
  clear hy566
  replace H := Option.bind_eq_some_iff.mp H
  obtain ⟨t569, A70, H⟩ := H
  have A7 := Aside0.mk A70
  clear A70
  by_cases c8 : t569 = true
  rotate_left
  ·replace c8 := Bool.eq_false_iff.mpr c8
   subst c8
   rw [if_neg (show ¬ (false = true) by decide)] at H
   have H' := Aside0.mk H
   clear H
   have hcz15_0 := bc w6 BK565 0 (.int .i64 a0_0) rfl
   have hcz15_1 := bc w6 BK565 1 (.slice A0_1 l0_1.length c0_1) rfl
   have hfz15_0 := fz BK565 0
   have hfz15_1 := fz BK565 1
   go_wp2_with (first | ((with_reducible refine gate_dst (N := 17) rfl ?_); refine Kd.R_lit (Kd.int .i64) _ 3 ?hg (N := 17) ?hd (xs := ([a1, a2] : List Int)) (inner := [.int .i64 a1, .int .i64 a2]) (ok := fun _ => True) (okp := fun _ => True) ?hr ?hp (fun _ hk => hk) trivial (Below.refl _ _) (Nat.le_refl _) (by simp) ?_; (case hd => rfl); (case hg => rfl); (case hr => (go_simp; done)); (case hp => exact (Reps.one (show Kd.M (Kd.int .i64) _ _ _ a1 [.int .i64 a1] from rfl) (Reps.one (show Kd.M (Kd.int .i64) _ _ _ a2 [.int .i64 a2] from rfl) (Reps.none _ _)))); intro v567 w16 ho17 hb hg_ hnew_; clear hg_ hnew_; (rw [← Ny566.out] at ho17); have HO568 := Aside0.mk (Kd.R_lower ho17 (below_size (bl1 HB GE565))); replace BK565 := Aside0.mk (blk_below (bk BK565) hb); replace HB := Aside0.mk (below_step (bl1 HB GE565) hb); clear hb ho17; obtain ⟨Ao18, co18, eo18⟩ := Kd.R_slice HO568.out; subst eo18) | ((with_reducible refine gate_callee (f := 58) rfl ?_); refine goesL_ (some 18) rfl rfl Try.func58 (by kernel_rfl) rfl #[.agg #[.int .i64 a0_0, .slice A0_1 l0_1.length c0_1], .slice Ao18 y566.length co18] rfl (by (try simp only [List.map_toArray, List.map_cons, List.map_nil]); rfl) ?_; (with_reducible refine (impl_nodesIn.calls a0_0 _ _ l0_1 _ _ y566 false _ ?side1 ?side2 ?side3 ?side4 A7.out).mono ?_); (case side1 => repeat (exact (Kd.C_below HR0_1.out HB.out))); (case side2 => exact HC0_1.out); (case side3 => repeat (exact (Kd.R_reads' HO568.out).2.2)); (case side4 => exact (Kd.R_reads' HO568.out).2.1); rintro e w19 ⟨rfl, hb⟩; refine ⟨_, rfl, ?_⟩; replace HO568 := Aside0.mk (Kd.R_below (rk HO568) hb); replace BK565 := Aside0.mk (blk_below (bk BK565) hb); replace HB := Aside0.mk (below_step (bl1 HB GE565) hb); (try clear hb); (try clear hb2); (try clear hk); (try clear hi)))
   go_meet
   case rel => exact ⟨_, (true), (by rfl), H', ⟨by omega⟩, ⟨bk BK565⟩, ⟨bl1 HB GE565⟩⟩
  subst c8
  rw [if_pos rfl] at H
  replace H := Option.bind_eq_some_iff.mp H
  obtain ⟨t570, A90, H⟩ := H
  have A9 := Aside0.mk A90
  clear A90
  have H' := Aside0.mk H
  clear H
  have hcz10_0 := bc w6 BK565 0 (.int .i64 a0_0) rfl
  have hcz10_1 := bc w6 BK565 1 (.slice A0_1 l0_1.length c0_1) rfl
  have hfz10_0 := fz BK565 0
  have hfz10_1 := fz BK565 1
  go_wp2_with (first | ((with_reducible refine gate_dst (N := 17) rfl ?_); refine Kd.R_lit (Kd.int .i64) _ 3 ?hg (N := 17) ?hd (xs := ([a1, a2] : List Int)) (inner := [.int .i64 a1, .int .i64 a2]) (ok := fun _ => True) (okp := fun _ => True) ?hr ?hp (fun _ hk => hk) trivial (Below.refl _ _) (Nat.le_refl _) (by simp) ?_; (case hd => rfl); (case hg => rfl); (case hr => (go_simp; done)); (case hp => exact (Reps.one (show Kd.M (Kd.int .i64) _ _ _ a1 [.int .i64 a1] from rfl) (Reps.one (show Kd.M (Kd.int .i64) _ _ _ a2 [.int .i64 a2] from rfl) (Reps.none _ _)))); intro v567 w11 ho12 hb hg_ hnew_; clear hg_ hnew_; (rw [← Ny566.out] at ho12); have HO568 := Aside0.mk (Kd.R_lower ho12 (below_size (bl1 HB GE565))); replace BK565 := Aside0.mk (blk_below (bk BK565) hb); replace HB := Aside0.mk (below_step (bl1 HB GE565) hb); clear hb ho12; obtain ⟨Ao13, co13, eo13⟩ := Kd.R_slice HO568.out; subst eo13) | ((with_reducible refine gate_callee (f := 58) rfl ?_); refine goesL_ (some 18) rfl rfl Try.func58 (by kernel_rfl) rfl #[.agg #[.int .i64 a0_0, .slice A0_1 l0_1.length c0_1], .slice Ao13 y566.length co13] rfl (by (try simp only [List.map_toArray, List.map_cons, List.map_nil]); rfl) ?_; (with_reducible refine (impl_nodesIn.calls a0_0 _ _ l0_1 _ _ y566 true _ ?side1 ?side2 ?side3 ?side4 A7.out).mono ?_); (case side1 => repeat (exact (Kd.C_below HR0_1.out HB.out))); (case side2 => exact HC0_1.out); (case side3 => repeat (exact (Kd.R_reads' HO568.out).2.2)); (case side4 => exact (Kd.R_reads' HO568.out).2.1); rintro e w14 ⟨rfl, hb⟩; refine ⟨_, rfl, ?_⟩; replace HO568 := Aside0.mk (Kd.R_below (rk HO568) hb); replace BK565 := Aside0.mk (blk_below (bk BK565) hb); replace HB := Aside0.mk (below_step (bl1 HB GE565) hb); (try clear hb); (try clear hb2); (try clear hk); (try clear hi)) | (go_at_call 66; (with_reducible refine (impl_loadOk.calls a3 t570 _ A9.out).mono ?_); rintro e w' ⟨rfl, ⟨nd, rfl⟩⟩))
  go_meet
  case rel => exact ⟨_, (!t570), (by rfl), H', ⟨by omega⟩, ⟨bk BK565⟩, ⟨bl1 HB GE565⟩⟩
 clear HC5
 try clear c2
 try clear p2
 try clear c5
 try clear c8
 try clear hcz10_0
 try clear hcz10_1
 try clear hcz15_0
 try clear hcz15_1
 try clear hfz10_0
 try clear hfz10_1
 try clear hfz15_0
 try clear hfz15_1
 obtain ⟨kq, x24_4, rfl, HA, HJ4, BK565, HB⟩ := hcut
 cases kq with
 | zero => exact absurd HA.out (by simp [impl_LoadWalk.j0])
 | succ kj4 =>
  have H := HA.out
  clear HA
  simp only [impl_LoadWalk.j0] at H
  by_cases c20 : x24_4 = true
  ·subst c20
   rw [if_pos rfl] at H
   simp only [Option.some.injEq, Prod.mk.injEq] at H
   obtain ⟨rfl, rfl⟩ := H
   go_wp2
   go_ret2
   exact ⟨_, by rfl, by exact Kd.R_nil _ _ _ _ _, bl1 HB GE565⟩
  replace c20 := Bool.eq_false_iff.mpr c20
  subst c20
  rw [if_neg (show ¬ (false = true) by decide)] at H
  replace H := Option.bind_eq_some_iff.mp H
  obtain ⟨⟨t571, t572, t575⟩, A210, H⟩ := H
  have A21 := Aside0.mk A210
  clear A210
  replace H := Option.bind_eq_some_iff.mp H
  obtain ⟨⟨t579, t582⟩, A220, H⟩ := H
  have A22 := Aside0.mk A220
  clear A220
  by_cases c23 : t582 = true
  rotate_left
  ·replace c23 := Bool.eq_false_iff.mpr c23
   subst c23
   rw [if_neg (show ¬ (false = true) by decide)] at H
   simp only [Option.some.injEq, Prod.mk.injEq] at H
   obtain ⟨rfl, rfl⟩ := H
   have hcz35_0 := bc wc BK565 0 (.int .i64 a0_0) rfl
   have hcz35_1 := bc wc BK565 1 (.slice A0_1 l0_1.length c0_1) rfl
   have hfz35_0 := fz BK565 0
   have hfz35_1 := fz BK565 1
   go_wp2_with (first | ((with_reducible refine gate_callee (f := 67) rfl ?_); refine goesL_ (some 28) rfl rfl Try.func67 (by kernel_rfl) rfl #[.agg #[.int .i64 a0_0, .slice A0_1 l0_1.length c0_1], .int .i64 a3] rfl (by (try simp only [List.map_toArray, List.map_cons, List.map_nil]); rfl) ?_; (with_reducible refine (impl_Net_loaded.calls kj4 a0_0 _ _ l0_1 a3 t571 t572 t575 _ ?side1 ?side2 A21.out).mono ?_); (case side1 => repeat (exact (Kd.C_below HR0_1.out HB.out))); (case side2 => exact HC0_1.out); rintro e w36 ⟨v573, v576, rfl, ho0, ho1, hb⟩; refine ⟨_, rfl, ?_⟩; have HO574 := Aside0.mk (Kd.R_lower ho0 (below_size (bl1 HB GE565))); have HO577 := Aside0.mk (Kd.R_lower ho1 (below_size (bl1 HB GE565))); replace BK565 := Aside0.mk (blk_below (bk BK565) hb); replace HB := Aside0.mk (below_step (bl1 HB GE565) hb); (try clear hb); (try clear hb2); (try clear hk); (try clear hi); (try clear ho0); (try clear ho1)) | ((with_reducible refine gate_dst (N := 10) rfl ?_); refine box_event ?hg (N := 10) ?hd (cs := #[.int .i64 0, .slice none 0 0]) (t := 25) ?hr ?_; (case hd => rfl); (case hg => rfl); (case hr => (go_simp; done)); intro gb578 hg w37 hbox hb; replace HO574 := Aside0.mk (Kd.R_below (rk HO574) hb); replace HO577 := Aside0.mk (Kd.R_below (rk HO577) hb); have BK578 := Aside0.mk (hbox); have GW578 := Aside0.mk ((by rw [hg]; exact (below_size (bl1 HB GE565)) : w.heap.size ≤ gb578)); have GE578 := Aside0.mk ((by rw [hg]; exact (below_size (bl1 HB GE565)) : w.heap.size ≤ gb578)); replace HB := Aside0.mk (below_step (bl1 HB GE565) hb); have NB565_578 := Aside0.mk ((by rw [hg]; exact Nat.ne_of_lt (blk_lt (bk BK565)) : gb565 ≠ gb578)); have NB578_565 := Aside0.mk ((by rw [hg]; exact Nat.ne_of_gt (blk_lt (bk BK565)) : gb578 ≠ gb565)); replace BK565 := Aside0.mk (blk_below (bk BK565) hb); clear hb hbox hg; have hnb38 := NB578_565.out; have hnc38 := NB565_578.out; have hcz39_0 := bc w37 BK578 0 (.int .i64 0) rfl; have hcz39_1 := bc w37 BK578 1 (.slice none 0 0) rfl; have hfz39_0 := fz BK578 0; have hfz39_1 := fz BK578 1; obtain ⟨Ao40, co40, eo40⟩ := Kd.R_slice HO574.out; subst eo40) | ((with_reducible refine gate_callee (f := 68) rfl ?_); refine goesL_ (some 35) rfl rfl Try.func68 (by kernel_rfl) rfl #[.agg #[.int .i64 t571, .slice Ao40 t572.length co40], .int .i64 a1, .int .i64 a2] rfl (by (try simp only [List.map_toArray, List.map_cons, List.map_nil]); rfl) ?_; (with_reducible refine (impl_Net_best.calls kj4 t571 _ _ t572 a1 a2 t579 false _ ?side1 ?side2 A22.out).mono ?_); (case side1 => refine (Kd.R_reads' (e := 41) (base := w.heap.size) (ok := fun k_ => True) (n := t572.length) (c := co40) ?_).2.2; exact (by (with_reducible repeat (fail)); exact (Kd.R_mono (Kd.R_far (p := ⟨gb578, 1, none⟩) (Kd.R_far (p := ⟨gb578, 0, none⟩) (Kd.R_types HO574.out BK578.out (by decide)) (fun _ hk => hk.2) (.int .i64 t571)) (fun _ hk => hk.2) (.slice Ao40 t572.length co40)) (fun _ h_ => h_.1)))); (case side2 => exact (Kd.R_reads' HO574.out).2.1); rintro e w41 ⟨v580, rfl, ho0, hb⟩; refine ⟨_, rfl, ?_⟩; replace HO574 := Aside0.mk (Kd.R_below (by (with_reducible repeat (fail)); exact (Kd.R_mono (Kd.R_far (p := ⟨gb578, 1, none⟩) (Kd.R_far (p := ⟨gb578, 0, none⟩) (Kd.R_types HO574.out BK578.out (by decide)) (fun _ hk => hk.2) (.int .i64 t571)) (fun _ hk => hk.2) (.slice Ao40 t572.length co40)) (fun _ h_ => h_.1))) hb); have HO581 := Aside0.mk (Kd.R_lower (Kd.R_new' ho0 (Kd.R_lt (by (with_reducible repeat (fail)); exact (Kd.R_mono (Kd.R_far (p := ⟨gb578, 1, none⟩) (Kd.R_far (p := ⟨gb578, 0, none⟩) (Kd.R_types HO577.out BK578.out (by decide)) (fun _ hk => hk.2) (.int .i64 t571)) (fun _ hk => hk.2) (.slice Ao40 t572.length co40)) (fun _ h_ => h_.1))))) (below_size (bl2 HB GE565 GE578))); replace HO577 := Aside0.mk (Kd.R_elder' (by (with_reducible repeat (fail)); exact (Kd.R_mono (Kd.R_far (p := ⟨gb578, 1, none⟩) (Kd.R_far (p := ⟨gb578, 0, none⟩) (Kd.R_types HO577.out BK578.out (by decide)) (fun _ hk => hk.2) (.int .i64 t571)) (fun _ hk => hk.2) (.slice Ao40 t572.length co40)) (fun _ h_ => h_.1))) (Kd.R_base ho0) hb); replace BK565 := Aside0.mk (blk_below (g := gb565) (o := .cells #[.int .i64 a0_0, .slice A0_1 l0_1.length c0_1] 25 (0, 0)) (by (with_reducible repeat (fail)); refine blk_far ?_ NB565_578.out _; refine blk_far ?_ NB565_578.out _; (with_reducible repeat (fail)); exact BK565.out) hb); replace BK578 := Aside0.mk (blk_below (g := gb578) (o := .cells #[.int .i64 t571, .slice Ao40 t572.length co40] 25 (0, 0)) (by (with_reducible repeat (fail)); refine blk_put (cs := #[.int .i64 t571, .slice none 0 0]) ?_ 1 _ rfl; refine blk_put (cs := #[.int .i64 0, .slice none 0 0]) ?_ 0 _ rfl; (with_reducible repeat (fail)); exact BK578.out) hb); replace HB := Aside0.mk (below_step (bl2 HB GE565 GE578) hb); (try clear hb); (try clear hb2); (try clear hk); (try clear hi); (try clear ho0)))
   go_ret2
   exact ⟨_, by rfl, by exact Kd.R_nil _ _ _ _ _, bl2 HB GE565 GE578⟩
  subst c23
  rw [if_pos rfl] at H
  replace H := Option.bind_eq_some_iff.mp H
  obtain ⟨t583, A240, H⟩ := H
  have A24 := Aside0.mk A240
  clear A240
  simp only [Option.some.injEq, Prod.mk.injEq] at H
  obtain ⟨rfl, rfl⟩ := H
  have hcz25_0 := bc wc BK565 0 (.int .i64 a0_0) rfl
  have hcz25_1 := bc wc BK565 1 (.slice A0_1 l0_1.length c0_1) rfl
  have hfz25_0 := fz BK565 0
  have hfz25_1 := fz BK565 1
  go_wp2_with (first | ((with_reducible refine gate_callee (f := 67) rfl ?_); refine goesL_ (some 28) rfl rfl Try.func67 (by kernel_rfl) rfl #[.agg #[.int .i64 a0_0, .slice A0_1 l0_1.length c0_1], .int .i64 a3] rfl (by (try simp only [List.map_toArray, List.map_cons, List.map_nil]); rfl) ?_; (with_reducible refine (impl_Net_loaded.calls kj4 a0_0 _ _ l0_1 a3 t571 t572 t575 _ ?side1 ?side2 A21.out).mono ?_); (case side1 => repeat (exact (Kd.C_below HR0_1.out HB.out))); (case side2 => exact HC0_1.out); rintro e w26 ⟨v573, v576, rfl, ho0, ho1, hb⟩; refine ⟨_, rfl, ?_⟩; have HO574 := Aside0.mk (Kd.R_lower ho0 (below_size (bl1 HB GE565))); have HO577 := Aside0.mk (Kd.R_lower ho1 (below_size (bl1 HB GE565))); replace BK565 := Aside0.mk (blk_below (bk BK565) hb); replace HB := Aside0.mk (below_step (bl1 HB GE565) hb); (try clear hb); (try clear hb2); (try clear hk); (try clear hi); (try clear ho0); (try clear ho1)) | ((with_reducible refine gate_dst (N := 10) rfl ?_); refine box_event ?hg (N := 10) ?hd (cs := #[.int .i64 0, .slice none 0 0]) (t := 25) ?hr ?_; (case hd => rfl); (case hg => rfl); (case hr => (go_simp; done)); intro gb578 hg w27 hbox hb; replace HO574 := Aside0.mk (Kd.R_below (rk HO574) hb); replace HO577 := Aside0.mk (Kd.R_below (rk HO577) hb); have BK578 := Aside0.mk (hbox); have GW578 := Aside0.mk ((by rw [hg]; exact (below_size (bl1 HB GE565)) : w.heap.size ≤ gb578)); have GE578 := Aside0.mk ((by rw [hg]; exact (below_size (bl1 HB GE565)) : w.heap.size ≤ gb578)); replace HB := Aside0.mk (below_step (bl1 HB GE565) hb); have NB565_578 := Aside0.mk ((by rw [hg]; exact Nat.ne_of_lt (blk_lt (bk BK565)) : gb565 ≠ gb578)); have NB578_565 := Aside0.mk ((by rw [hg]; exact Nat.ne_of_gt (blk_lt (bk BK565)) : gb578 ≠ gb565)); replace BK565 := Aside0.mk (blk_below (bk BK565) hb); clear hb hbox hg; have hnb28 := NB578_565.out; have hnc28 := NB565_578.out; have hcz29_0 := bc w27 BK578 0 (.int .i64 0) rfl; have hcz29_1 := bc w27 BK578 1 (.slice none 0 0) rfl; have hfz29_0 := fz BK578 0; have hfz29_1 := fz BK578 1; obtain ⟨Ao30, co30, eo30⟩ := Kd.R_slice HO574.out; subst eo30) | ((with_reducible refine gate_callee (f := 68) rfl ?_); refine goesL_ (some 35) rfl rfl Try.func68 (by kernel_rfl) rfl #[.agg #[.int .i64 t571, .slice Ao30 t572.length co30], .int .i64 a1, .int .i64 a2] rfl (by (try simp only [List.map_toArray, List.map_cons, List.map_nil]); rfl) ?_; (with_reducible refine (impl_Net_best.calls kj4 t571 _ _ t572 a1 a2 t579 true _ ?side1 ?side2 A22.out).mono ?_); (case side1 => refine (Kd.R_reads' (e := 41) (base := w.heap.size) (ok := fun k_ => True) (n := t572.length) (c := co30) ?_).2.2; exact (by (with_reducible repeat (fail)); exact (Kd.R_mono (Kd.R_far (p := ⟨gb578, 1, none⟩) (Kd.R_far (p := ⟨gb578, 0, none⟩) (Kd.R_types HO574.out BK578.out (by decide)) (fun _ hk => hk.2) (.int .i64 t571)) (fun _ hk => hk.2) (.slice Ao30 t572.length co30)) (fun _ h_ => h_.1)))); (case side2 => exact (Kd.R_reads' HO574.out).2.1); rintro e w31 ⟨v580, rfl, ho0, hb⟩; refine ⟨_, rfl, ?_⟩; replace HO574 := Aside0.mk (Kd.R_below (by (with_reducible repeat (fail)); exact (Kd.R_mono (Kd.R_far (p := ⟨gb578, 1, none⟩) (Kd.R_far (p := ⟨gb578, 0, none⟩) (Kd.R_types HO574.out BK578.out (by decide)) (fun _ hk => hk.2) (.int .i64 t571)) (fun _ hk => hk.2) (.slice Ao30 t572.length co30)) (fun _ h_ => h_.1))) hb); have HO581 := Aside0.mk (Kd.R_lower (Kd.R_new' ho0 (Kd.R_lt (by (with_reducible repeat (fail)); exact (Kd.R_mono (Kd.R_far (p := ⟨gb578, 1, none⟩) (Kd.R_far (p := ⟨gb578, 0, none⟩) (Kd.R_types HO577.out BK578.out (by decide)) (fun _ hk => hk.2) (.int .i64 t571)) (fun _ hk => hk.2) (.slice Ao30 t572.length co30)) (fun _ h_ => h_.1))))) (below_size (bl2 HB GE565 GE578))); replace HO577 := Aside0.mk (Kd.R_elder' (by (with_reducible repeat (fail)); exact (Kd.R_mono (Kd.R_far (p := ⟨gb578, 1, none⟩) (Kd.R_far (p := ⟨gb578, 0, none⟩) (Kd.R_types HO577.out BK578.out (by decide)) (fun _ hk => hk.2) (.int .i64 t571)) (fun _ hk => hk.2) (.slice Ao30 t572.length co30)) (fun _ h_ => h_.1))) (Kd.R_base ho0) hb); replace BK565 := Aside0.mk (blk_below (g := gb565) (o := .cells #[.int .i64 a0_0, .slice A0_1 l0_1.length c0_1] 25 (0, 0)) (by (with_reducible repeat (fail)); refine blk_far ?_ NB565_578.out _; refine blk_far ?_ NB565_578.out _; (with_reducible repeat (fail)); exact BK565.out) hb); replace BK578 := Aside0.mk (blk_below (g := gb578) (o := .cells #[.int .i64 t571, .slice Ao30 t572.length co30] 25 (0, 0)) (by (with_reducible repeat (fail)); refine blk_put (cs := #[.int .i64 t571, .slice none 0 0]) ?_ 1 _ rfl; refine blk_put (cs := #[.int .i64 0, .slice none 0 0]) ?_ 0 _ rfl; (with_reducible repeat (fail)); exact BK578.out) hb); replace HB := Aside0.mk (below_step (bl2 HB GE565 GE578) hb); (try clear hb); (try clear hb2); (try clear hk); (try clear hi); (try clear ho0); obtain ⟨Ao32, co32, eo32⟩ := Kd.R_slice HO577.out; subst eo32; obtain ⟨Ao33, co33, eo33⟩ := Kd.R_slice HO581.out; subst eo33) | ((with_reducible refine gate_callee (f := 69) rfl ?_); refine goesL_ (some 42) rfl rfl Try.func69 (by kernel_rfl) rfl #[.slice Ao32 t575.length co32, .slice Ao33 t579.length co33] rfl (by (try simp only [List.map_toArray, List.map_cons, List.map_nil]); rfl) ?_; (with_reducible refine (impl_chosen.calls kj4 _ _ t575 _ _ t579 t583 _ ?side1 ?side2 ?side3 ?side4 A24.out).mono ?_); (case side1 => repeat (exact (Kd.R_reads' HO577.out).2.2)); (case side2 => exact (Kd.R_reads' HO577.out).2.1); (case side3 => repeat (exact (Kd.R_reads' HO581.out).2.2)); (case side4 => exact (Kd.R_reads' HO581.out).2.1); rintro e w34 ⟨v584, rfl, ho0, hb⟩; refine ⟨_, rfl, ?_⟩; replace HO574 := Aside0.mk (Kd.R_below (rk HO574) hb); have HO585 := Aside0.mk (Kd.R_lower (Kd.R_new' (Kd.R_new' ho0 (Kd.R_lt (rk HO577))) (Kd.R_lt (rk HO581))) (below_size (bl2 HB GE565 GE578))); replace HO577 := Aside0.mk (Kd.R_elder' (rk HO577) (Kd.R_base ho0) hb); replace HO581 := Aside0.mk (Kd.R_elder' (rk HO581) (Kd.R_base ho0) hb); replace BK565 := Aside0.mk (blk_below (bk BK565) hb); replace BK578 := Aside0.mk (blk_below (bk BK578) hb); replace HB := Aside0.mk (below_step (bl2 HB GE565 GE578) hb); (try clear hb); (try clear hb2); (try clear hk); (try clear hi); (try clear ho0)))
  go_ret2
  exact ⟨_, by rfl, by (with_reducible repeat (fail)); exact Kd.R_mono HO585.out (fun _ hk => trivial), bl2 HB GE565 GE578⟩

end Go.Proofs.Ytgickejeakmenaa.F
