-- Printed by wip/px/px.py of this claim's repository (the kit's printer, extended there). Lean checks it.
import Derived.Test.YtbappbbljncdeaaFKinds
import Derived.Test.YtbappbbljncdeaaFimplnodesIn
import Derived.Test.YtbappbbljncdeaaFimplloadOk
import Derived.Test.YtbappbbljncdeaaFimplNetloaded
import Derived.Test.YtbappbbljncdeaaFimplNetbest
import Derived.Test.YtbappbbljncdeaaFimplchosen
namespace Go.Proofs.Ytbappbbljncdeaa.F
open Go.RowKit Go.Proofs.YtbappbbljncdeaaW.PrintWords Go.Proofs.YtbappbbljncdeaaW.PrintLast Go.Proofs.YtbappbbljncdeaaW.PrintMore
attribute [local go_sem] max2_int min2_int max_two min_two max_three min_three max_four min_four   -- for this text's walks alone
set_option linter.unusedVariables false
set_option linter.unusedSimpArgs false

/-! ### impl_LoadWalk: function 37 -/
def impl_LoadWalk.j0 : Nat → Int → Int → Int → Bool → Int → List (S100) → Option (List Int × Bool)
 | 0, _, _, _, _, _, _ => none
 | k + 1, x1, x2, x3, x24, x614000, x614001 => if x24 = true then (some (([] : List Int), false)) else ((impl_Net_loaded.f k x614000 x614001 x3).bind fun bt619 => ((impl_Net_best.f k bt619.1 bt619.2.1 x1 x2).bind fun bt627 => (if bt627.2 = true then ((impl_chosen.f k bt619.2.2 bt627.1).bind fun t631 => (some (t631, true))) else (some (([] : List Int), false)))))
def impl_LoadWalk.f (k : Nat) (a0_0 : Int) (l0_1 : List (S100)) (a1 : Int) (a2 : Int) (a3 : Int) : Option (List Int × Bool) := (impl_nodesIn.f a0_0 l0_1 (([a1, a2] : List Int))).bind fun t617 => (if t617 = true then ((impl_loadOk.f a3).bind fun t618 => (impl_LoadWalk.j0 k a1 a2 a3 (!t618) a0_0 l0_1)) else (impl_LoadWalk.j0 k a1 a2 a3 true a0_0 l0_1))
theorem impl_LoadWalk.mono_l : ∀ k, (∀ y0 y1 y2 y3 y4 y5, LeO (impl_LoadWalk.j0 k y0 y1 y2 y3 y4 y5) (impl_LoadWalk.j0 (k + 1) y0 y1 y2 y3 y4 y5))
 | 0 => fun _ _ _ _ _ _ r h => by simp [impl_LoadWalk.j0] at h
 | k + 1 => by
  have ih0 := impl_LoadWalk.mono_l k
  ·intro y0 y1 y2 y3 y4 y5
   unfold impl_LoadWalk.j0
   repeat' first
   | (with_reducible exact ih0 _ _ _ _ _ _)
   | (with_reducible exact impl_Net_best.mono _ _ _ _ _)
   | (with_reducible exact impl_Net_loaded.mono _ _ _ _)
   | (with_reducible exact impl_chosen.mono _ _ _)
   | (with_reducible exact LeO.refl _)
   | (with_reducible exact LeO.none _)
   | (with_reducible refine LeO.ite ?_ ?_)
   | (with_reducible refine LeO.bind ?_ (fun _ => ?_))
   | exact ih0 _ _ _ _ _ _
   | exact impl_Net_best.mono _ _ _ _ _
   | exact impl_Net_loaded.mono _ _ _ _
   | exact impl_chosen.mono _ _ _
   | exact LeO.none _
   | refine LeO.ite ?_ ?_
   | refine LeO.bind ?_ (fun _ => ?_)
theorem impl_LoadWalk.mono : ∀ a0 a1 a2 a3 a4 k, LeO (impl_LoadWalk.f k a0 a1 a2 a3 a4) (impl_LoadWalk.f (k + 1) a0 a1 a2 a3 a4) := by
 intro a0 a1 a2 a3 a4 k
 have ih0 := impl_LoadWalk.mono_l k
 unfold impl_LoadWalk.f
 repeat' first
   | (with_reducible exact ih0 _ _ _ _ _ _)
   | (with_reducible exact impl_Net_best.mono _ _ _ _ _)
   | (with_reducible exact impl_Net_loaded.mono _ _ _ _)
   | (with_reducible exact impl_chosen.mono _ _ _)
   | (with_reducible exact LeO.refl _)
   | (with_reducible exact LeO.none _)
   | (with_reducible refine LeO.ite ?_ ?_)
   | (with_reducible refine LeO.bind ?_ (fun _ => ?_))
   | exact ih0 _ _ _ _ _ _
   | exact impl_Net_best.mono _ _ _ _ _
   | exact impl_Net_loaded.mono _ _ _ _
   | exact impl_chosen.mono _ _ _
   | exact LeO.none _
   | refine LeO.ite ?_ ?_
   | refine LeO.bind ?_ (fun _ => ?_)
set_option maxHeartbeats 8000000 in
set_option maxRecDepth 100000 in
theorem impl_LoadWalk.calls (k : Nat) (a0_0 : Int) (A0_1 : Option Addr) (c0_1 : Nat) (l0_1 : List (S100)) (a1 : Int) (a2 : Int) (a3 : Int) (r1 : List Int) (r2 : Bool) (w : World) (hr0_1 : Kd.C k100 w A0_1 l0_1.length l0_1) (hc0_1 : l0_1.length ≤ c0_1) (h : impl_LoadWalk.f k a0_0 l0_1 a1 a2 a3 = some (r1, r2)) :
  Calls Try.prog 37 #[.agg #[.int .i64 a0_0, .slice A0_1 l0_1.length c0_1], .int .i64 a1, .int .i64 a2, .int .i64 a3] w fun e w' => ∃ v0_ : Value, e = .returned (.tuple #[v0_, .bool r2]) ∧ Kd.R (Kd.int .i64) 3 w' w.heap.size (fun _ => True) v0_ r1 ∧ Below w.heap.size w w' := by
 have hu30 := Try.underlying30
 have HR0_1 := Aside0.mk hr0_1
 have HC0_1 := Aside0.mk hc0_1
 clear hr0_1 hc0_1
 have HB := Aside0.mk (Below.refl w.heap.size w)
 have H : ((impl_nodesIn.f a0_0 l0_1 (([a1, a2] : List Int))).bind fun t617 => (if t617 = true then ((impl_loadOk.f a3).bind fun t618 => (impl_LoadWalk.j0 k a1 a2 a3 (!t618) a0_0 l0_1)) else (impl_LoadWalk.j0 k a1 a2 a3 true a0_0 l0_1))) = some (r1, r2) := h
 clear h
 have HC5 := Aside0.mk H
 clear H
 go_enter Try.func37, Try.ntmps37
 go_upto_region 1 with (first | ((with_reducible refine gate_dst (N := 4) rfl ?_); refine box_event ?hg (N := 4) ?hd (cs := #[.int .i64 a0_0, .slice A0_1 l0_1.length c0_1]) (t := 30) ?hr ?_; (case hd => rfl); (case hg => rfl); (case hr => first | (go_simp; done) | (go_simp; rfl)); intro gb613 hg w6 hbox hb; have BK613 := Aside0.mk (hbox); have GW613 := Aside0.mk ((by rw [hg]; exact (below_size (bl HB)) : w.heap.size ≤ gb613)); have GE613 := Aside0.mk ((by rw [hg]; exact (below_size (bl HB)) : w.heap.size ≤ gb613)); replace HB := Aside0.mk (below_step (bl HB) hb); clear hb hbox hg))
 (try simp only [Act.put, List.setIfInBounds_toArray, List.set_cons_zero, List.set_cons_succ])
 go_cut [24] (fun v24 wc => ∃ (kq : Nat) (x24_4 : Bool), v24 = .bool x24_4 ∧ Aside0 (impl_LoadWalk.j0 kq a1 a2 a3 x24_4 a0_0 l0_1 = some (r1, r2)) ∧ Aside0 (kq ≤ k) ∧ Aside0 (wc.heap[gb613]? = some (.cells #[.int .i64 a0_0, (.slice A0_1 l0_1.length c0_1)] 30 (0, 0))) ∧ Aside0 (Below w.heap.size w wc))
 case first =>
  have H := HC5.out
  clear HC5
  obtain ⟨y614, hy614⟩ : ∃ y_ : List Int, y_ = (([a1, a2] : List Int)) := ⟨_, rfl⟩
  replace H : ((impl_nodesIn.f a0_0 l0_1 y614).bind fun t617 => (if t617 = true then ((impl_loadOk.f a3).bind fun t618 => (impl_LoadWalk.j0 k a1 a2 a3 (!t618) a0_0 l0_1)) else (impl_LoadWalk.j0 k a1 a2 a3 true a0_0 l0_1))) = some (r1, r2) := by first | (rw [hy614]; with_reducible exact H) | (have H2_ := (Option.bind_some _ _).symm.trans H; rw [hy614]; with_reducible exact H2_) | (have H2_ := (Option.bind_some _ _).symm.trans H; with_reducible exact H2_) | with_reducible exact H | (rw [hy614]; exact H) | exact H
  have Ny614 := Aside0.mk hy614
  clear hy614
  replace H := Option.bind_eq_some_iff.mp H
  obtain ⟨t617, A70, H⟩ := H
  have A7 := Aside0.mk A70
  clear A70
  by_cases c8 : t617 = true
  rotate_left
  ·replace c8 := Bool.eq_false_iff.mpr c8
   subst c8
   rw [if_neg (show ¬ (false = true) by decide)] at H
   have H' := Aside0.mk H
   clear H
   have hcz15_0 : w6.cell? ⟨gb613, 0, none⟩ = some (.int .i64 a0_0) := (blk_cell BK613.out 0).trans rfl
   have hcz15_1 : w6.cell? ⟨gb613, 1, none⟩ = some (.slice A0_1 l0_1.length c0_1) := (blk_cell BK613.out 1).trans rfl
   have hfz15_0 := blk_frozen BK613.out 0
   have hfz15_1 := blk_frozen BK613.out 1
   go_wp2_with (first | ((with_reducible refine gate_dst (N := 17) rfl ?_); refine Kd.R_lit (Kd.int .i64) _ 3 ?hg (N := 17) ?hd (xs := ([a1, a2] : List Int)) (inner := [.int .i64 a1, .int .i64 a2]) (ok := fun _ => True) (okp := fun _ => True) ?hr ?hp (fun _ hk => hk) trivial (Below.refl _ _) (Nat.le_refl _) (by simp) ?_; (case hd => rfl); (case hg => rfl); (case hr => first | (go_simp; done) | (go_simp; rfl)); (case hp => exact (Reps.one (show Kd.M (Kd.int .i64) _ _ _ a1 [.int .i64 a1] from rfl) (Reps.one (show Kd.M (Kd.int .i64) _ _ _ a2 [.int .i64 a2] from rfl) (Reps.none _ _)))); intro v615 w16 ho17 hb hg_ hnew_; clear hg_ hnew_; (first | rw [← Ny614.out] at ho17 | (simp only [Int.reduceToNat] at ho17; rw [← Ny614.out] at ho17)); have HO616 := Aside0.mk (Kd.R_lower ho17 (below_size (bl1 HB GE613))); replace BK613 := Aside0.mk (blk_below (bk BK613) hb); replace HB := Aside0.mk (below_step (bl1 HB GE613) hb); clear hb ho17; obtain ⟨Ao18, co18, eo18⟩ := Kd.R_slice HO616.out; subst eo18) | ((with_reducible refine gate_callee (f := 72) rfl ?_); refine goesL_ (some 18) rfl rfl Try.func72 (by kernel_rfl) rfl #[.agg #[.int .i64 a0_0, .slice A0_1 l0_1.length c0_1], .slice Ao18 y614.length co18] rfl (by (try simp only [List.map_toArray, List.map_cons, List.map_nil]); first | done | rfl | (simp only [List.length_drop, List.length_take]; rfl)) ?_; (with_reducible refine (impl_nodesIn.calls a0_0 _ _ l0_1 _ _ y614 false _ ?side1 ?side2 ?side3 ?side4 A7.out).mono ?_); (case side1 => repeat (first | exact (Kd.C_below HR0_1.out HB.out) | (with_reducible refine Kd.C_alloc ?_ _) | (with_reducible refine Kd.C_drewN ?_ _) | (with_reducible refine Kd.C_drew ?_))); (case side2 => exact HC0_1.out); (case side3 => repeat (first | exact (Kd.R_reads' HO616.out).2.2 | (with_reducible refine Kd.C_alloc ?_ _) | (with_reducible refine Kd.C_drewN ?_ _) | (with_reducible refine Kd.C_drew ?_))); (case side4 => exact (Kd.R_reads' HO616.out).2.1); rintro e w19 ⟨rfl, hb⟩; refine ⟨_, rfl, ?_⟩; replace HO616 := Aside0.mk (Kd.R_below (rk HO616) hb); replace BK613 := Aside0.mk (blk_below (bk BK613) hb); replace HB := Aside0.mk (below_step (bl1 HB GE613) hb); (try clear hb); (try clear hb2); (try clear hk); (try clear hi)))
   go_meet
   case rel => exact ⟨_, (true), (by first | rfl | (simp; done) | (simp [*]; done)), H', ⟨by first | omega | exact Nat.le_refl _⟩, ⟨bk BK613⟩, ⟨bl1 HB GE613⟩⟩
  subst c8
  rw [if_pos rfl] at H
  replace H := Option.bind_eq_some_iff.mp H
  obtain ⟨t618, A90, H⟩ := H
  have A9 := Aside0.mk A90
  clear A90
  have H' := Aside0.mk H
  clear H
  have hcz10_0 : w6.cell? ⟨gb613, 0, none⟩ = some (.int .i64 a0_0) := (blk_cell BK613.out 0).trans rfl
  have hcz10_1 : w6.cell? ⟨gb613, 1, none⟩ = some (.slice A0_1 l0_1.length c0_1) := (blk_cell BK613.out 1).trans rfl
  have hfz10_0 := blk_frozen BK613.out 0
  have hfz10_1 := blk_frozen BK613.out 1
  go_wp2_with (first | ((with_reducible refine gate_dst (N := 17) rfl ?_); refine Kd.R_lit (Kd.int .i64) _ 3 ?hg (N := 17) ?hd (xs := ([a1, a2] : List Int)) (inner := [.int .i64 a1, .int .i64 a2]) (ok := fun _ => True) (okp := fun _ => True) ?hr ?hp (fun _ hk => hk) trivial (Below.refl _ _) (Nat.le_refl _) (by simp) ?_; (case hd => rfl); (case hg => rfl); (case hr => first | (go_simp; done) | (go_simp; rfl)); (case hp => exact (Reps.one (show Kd.M (Kd.int .i64) _ _ _ a1 [.int .i64 a1] from rfl) (Reps.one (show Kd.M (Kd.int .i64) _ _ _ a2 [.int .i64 a2] from rfl) (Reps.none _ _)))); intro v615 w11 ho12 hb hg_ hnew_; clear hg_ hnew_; (first | rw [← Ny614.out] at ho12 | (simp only [Int.reduceToNat] at ho12; rw [← Ny614.out] at ho12)); have HO616 := Aside0.mk (Kd.R_lower ho12 (below_size (bl1 HB GE613))); replace BK613 := Aside0.mk (blk_below (bk BK613) hb); replace HB := Aside0.mk (below_step (bl1 HB GE613) hb); clear hb ho12; obtain ⟨Ao13, co13, eo13⟩ := Kd.R_slice HO616.out; subst eo13) | ((with_reducible refine gate_callee (f := 72) rfl ?_); refine goesL_ (some 18) rfl rfl Try.func72 (by kernel_rfl) rfl #[.agg #[.int .i64 a0_0, .slice A0_1 l0_1.length c0_1], .slice Ao13 y614.length co13] rfl (by (try simp only [List.map_toArray, List.map_cons, List.map_nil]); first | done | rfl | (simp only [List.length_drop, List.length_take]; rfl)) ?_; (with_reducible refine (impl_nodesIn.calls a0_0 _ _ l0_1 _ _ y614 true _ ?side1 ?side2 ?side3 ?side4 A7.out).mono ?_); (case side1 => repeat (first | exact (Kd.C_below HR0_1.out HB.out) | (with_reducible refine Kd.C_alloc ?_ _) | (with_reducible refine Kd.C_drewN ?_ _) | (with_reducible refine Kd.C_drew ?_))); (case side2 => exact HC0_1.out); (case side3 => repeat (first | exact (Kd.R_reads' HO616.out).2.2 | (with_reducible refine Kd.C_alloc ?_ _) | (with_reducible refine Kd.C_drewN ?_ _) | (with_reducible refine Kd.C_drew ?_))); (case side4 => exact (Kd.R_reads' HO616.out).2.1); rintro e w14 ⟨rfl, hb⟩; refine ⟨_, rfl, ?_⟩; replace HO616 := Aside0.mk (Kd.R_below (rk HO616) hb); replace BK613 := Aside0.mk (blk_below (bk BK613) hb); replace HB := Aside0.mk (below_step (bl1 HB GE613) hb); (try clear hb); (try clear hb2); (try clear hk); (try clear hi)) | (go_at_call 89; (with_reducible refine (impl_loadOk.calls a3 t618 _ A9.out).mono ?_); rintro e w' ⟨rfl, ⟨nd, rfl⟩⟩))
  go_meet
  case rel => exact ⟨_, (!t618), (by first | rfl | (simp; done) | (simp [*]; done)), H', ⟨by first | omega | exact Nat.le_refl _⟩, ⟨bk BK613⟩, ⟨bl1 HB GE613⟩⟩
 clear HC5
 try clear p2
 try clear c3
 try clear c7
 try clear c8
 try clear hcz10_0
 try clear hcz10_1
 try clear hcz15_0
 try clear hcz15_1
 try clear hfz10_0
 try clear hfz10_1
 try clear hfz15_0
 try clear hfz15_1
 obtain ⟨kq, x24_4, rfl, HA, HJ4, BK613, HB⟩ := hcut
 cases kq with
 | zero => exact absurd HA.out (by simp [impl_LoadWalk.j0])
 | succ kj4 =>
  have H := HA.out
  clear HA
  simp only [impl_LoadWalk.j0] at H
  by_cases c20 : x24_4 = true
  ·subst c20
   rw [if_pos rfl] at H
   simp only [Option.some.injEq, Prod.mk.injEq] at H
   obtain ⟨rfl, rfl⟩ := H
   go_wp2
   go_ret2
   exact ⟨_, by first | rfl | (simp [errW_none, errW_some] <;> rfl) | (simp [*, errW_none, errW_some] <;> rfl), by first | exact Kd.R_nil _ _ _ _ _ | exact Kd.N_nil _ _ _ _ _ | exact Kd.V_nil _ _ _ _ _ | exact Kd.Q_nil _ _ _ _ _ | exact Kd.S_nil _ _ _ _ _, bl1 HB GE613⟩
  replace c20 := Bool.eq_false_iff.mpr c20
  subst c20
  rw [if_neg (show ¬ (false = true) by decide)] at H
  replace H := Option.bind_eq_some_iff.mp H
  obtain ⟨⟨t619, t620, t623⟩, A210, H⟩ := H
  have A21 := Aside0.mk A210
  clear A210
  replace H := Option.bind_eq_some_iff.mp H
  obtain ⟨⟨t627, t630⟩, A220, H⟩ := H
  have A22 := Aside0.mk A220
  clear A220
  by_cases c23 : t630 = true
  rotate_left
  ·replace c23 := Bool.eq_false_iff.mpr c23
   subst c23
   rw [if_neg (show ¬ (false = true) by decide)] at H
   simp only [Option.some.injEq, Prod.mk.injEq] at H
   obtain ⟨rfl, rfl⟩ := H
   have hcz35_0 : wc.cell? ⟨gb613, 0, none⟩ = some (.int .i64 a0_0) := (blk_cell BK613.out 0).trans rfl
   have hcz35_1 : wc.cell? ⟨gb613, 1, none⟩ = some (.slice A0_1 l0_1.length c0_1) := (blk_cell BK613.out 1).trans rfl
   have hfz35_0 := blk_frozen BK613.out 0
   have hfz35_1 := blk_frozen BK613.out 1
   go_wp2_with (first | ((with_reducible refine gate_callee (f := 90) rfl ?_); refine goesL_ (some 28) rfl rfl Try.func90 (by kernel_rfl) rfl #[.agg #[.int .i64 a0_0, .slice A0_1 l0_1.length c0_1], .int .i64 a3] rfl (by (try simp only [List.map_toArray, List.map_cons, List.map_nil]); first | done | rfl | (simp only [List.length_drop, List.length_take]; rfl)) ?_; (with_reducible refine (impl_Net_loaded.calls kj4 a0_0 _ _ l0_1 a3 t619 t620 t623 _ ?side1 ?side2 A21.out).mono ?_); (case side1 => repeat (first | exact (Kd.C_below HR0_1.out HB.out) | (with_reducible refine Kd.C_alloc ?_ _) | (with_reducible refine Kd.C_drewN ?_ _) | (with_reducible refine Kd.C_drew ?_))); (case side2 => exact HC0_1.out); rintro e w36 ⟨v621, v624, rfl, ho0, ho1, hb⟩; refine ⟨_, rfl, ?_⟩; have HO622 := Aside0.mk (Kd.R_lower ho0 (below_size (bl1 HB GE613))); have HO625 := Aside0.mk (Kd.R_lower ho1 (below_size (bl1 HB GE613))); replace BK613 := Aside0.mk (blk_below (bk BK613) hb); replace HB := Aside0.mk (below_step (bl1 HB GE613) hb); (try clear hb); (try clear hb2); (try clear hk); (try clear hi); (try clear ho0); (try clear ho1)) | ((with_reducible refine gate_dst (N := 10) rfl ?_); refine box_event ?hg (N := 10) ?hd (cs := #[.int .i64 0, .slice none 0 0]) (t := 30) ?hr ?_; (case hd => rfl); (case hg => rfl); (case hr => first | (go_simp; done) | (go_simp; rfl)); intro gb626 hg w37 hbox hb; replace HO622 := Aside0.mk (Kd.R_below (rk HO622) hb); replace HO625 := Aside0.mk (Kd.R_below (rk HO625) hb); have BK626 := Aside0.mk (hbox); have GW626 := Aside0.mk ((by rw [hg]; exact (below_size (bl1 HB GE613)) : w.heap.size ≤ gb626)); have GE626 := Aside0.mk ((by rw [hg]; exact (below_size (bl1 HB GE613)) : w.heap.size ≤ gb626)); replace HB := Aside0.mk (below_step (bl1 HB GE613) hb); have NB613_626 := Aside0.mk ((by rw [hg]; exact Nat.ne_of_lt (blk_lt (bk BK613)) : gb613 ≠ gb626)); have NB626_613 := Aside0.mk ((by rw [hg]; exact Nat.ne_of_gt (blk_lt (bk BK613)) : gb626 ≠ gb613)); replace BK613 := Aside0.mk (blk_below (bk BK613) hb); clear hb hbox hg; have hnb38 := NB626_613.out; have hnc38 := NB613_626.out; have hcz39_0 : w37.cell? ⟨gb626, 0, none⟩ = some (.int .i64 0) := (blk_cell BK626.out 0).trans rfl; have hcz39_1 : w37.cell? ⟨gb626, 1, none⟩ = some (.slice none 0 0) := (blk_cell BK626.out 1).trans rfl; have hfz39_0 := blk_frozen BK626.out 0; have hfz39_1 := blk_frozen BK626.out 1; obtain ⟨Ao40, co40, eo40⟩ := Kd.R_slice HO622.out; subst eo40) | ((with_reducible refine gate_callee (f := 91) rfl ?_); refine goesL_ (some 35) rfl rfl Try.func91 (by kernel_rfl) rfl #[.agg #[.int .i64 t619, .slice Ao40 t620.length co40], .int .i64 a1, .int .i64 a2] rfl (by (try simp only [List.map_toArray, List.map_cons, List.map_nil]); first | done | rfl | (simp only [List.length_drop, List.length_take]; rfl)) ?_; (with_reducible refine (impl_Net_best.calls kj4 t619 _ _ t620 a1 a2 t627 false _ ?side1 ?side2 A22.out).mono ?_); (case side1 => refine (Kd.R_reads' (e := 100) (base := w.heap.size) (ok := fun k_ => True) (n := t620.length) (c := co40) ?_).2.2; exact (by (with_reducible repeat (first | apply Kd.R_alloc | apply Kd.R_drewN | apply Kd.R_drew)); exact (Kd.R_mono (Kd.R_far (p := ⟨gb626, 1, none⟩) (Kd.R_far (p := ⟨gb626, 0, none⟩) (Kd.R_types HO622.out BK626.out (by decide)) (fun _ hk => hk.2) (.int .i64 t619)) (fun _ hk => hk.2) (.slice Ao40 t620.length co40)) (fun _ h_ => h_.1)))); (case side2 => exact (Kd.R_reads' HO622.out).2.1); rintro e w41 ⟨v628, rfl, ho0, hb⟩; refine ⟨_, rfl, ?_⟩; replace HO622 := Aside0.mk (Kd.R_below (by (with_reducible repeat (first | apply Kd.R_alloc | apply Kd.R_drewN | apply Kd.R_drew)); exact (Kd.R_mono (Kd.R_far (p := ⟨gb626, 1, none⟩) (Kd.R_far (p := ⟨gb626, 0, none⟩) (Kd.R_types HO622.out BK626.out (by decide)) (fun _ hk => hk.2) (.int .i64 t619)) (fun _ hk => hk.2) (.slice Ao40 t620.length co40)) (fun _ h_ => h_.1))) hb); have HO629 := Aside0.mk (Kd.R_lower (Kd.R_new' ho0 (Kd.R_lt (by (with_reducible repeat (first | apply Kd.R_alloc | apply Kd.R_drewN | apply Kd.R_drew)); exact (Kd.R_mono (Kd.R_far (p := ⟨gb626, 1, none⟩) (Kd.R_far (p := ⟨gb626, 0, none⟩) (Kd.R_types HO625.out BK626.out (by decide)) (fun _ hk => hk.2) (.int .i64 t619)) (fun _ hk => hk.2) (.slice Ao40 t620.length co40)) (fun _ h_ => h_.1))))) (below_size (bl2 HB GE613 GE626))); replace HO625 := Aside0.mk (Kd.R_elder' (by (with_reducible repeat (first | apply Kd.R_alloc | apply Kd.R_drewN | apply Kd.R_drew)); exact (Kd.R_mono (Kd.R_far (p := ⟨gb626, 1, none⟩) (Kd.R_far (p := ⟨gb626, 0, none⟩) (Kd.R_types HO625.out BK626.out (by decide)) (fun _ hk => hk.2) (.int .i64 t619)) (fun _ hk => hk.2) (.slice Ao40 t620.length co40)) (fun _ h_ => h_.1))) (Kd.R_base ho0) hb); replace BK613 := Aside0.mk (blk_below (g := gb613) (o := .cells #[.int .i64 a0_0, .slice A0_1 l0_1.length c0_1] 30 (0, 0)) (by (with_reducible repeat (first | refine blk_drewN ?_ _ | refine blk_drew ?_ | refine blk_alloc ?_ _)); refine blk_far ?_ NB613_626.out _; refine blk_far ?_ NB613_626.out _; (with_reducible repeat (first | refine blk_drewN ?_ _ | refine blk_drew ?_ | refine blk_alloc ?_ _)); exact BK613.out) hb); replace BK626 := Aside0.mk (blk_below (g := gb626) (o := .cells #[.int .i64 t619, .slice Ao40 t620.length co40] 30 (0, 0)) (by (with_reducible repeat (first | refine blk_drewN ?_ _ | refine blk_drew ?_ | refine blk_alloc ?_ _)); refine blk_put (cs := #[.int .i64 t619, .slice none 0 0]) ?_ 1 _ rfl; refine blk_put (cs := #[.int .i64 0, .slice none 0 0]) ?_ 0 _ rfl; (with_reducible repeat (first | refine blk_drewN ?_ _ | refine blk_drew ?_ | refine blk_alloc ?_ _)); exact BK626.out) hb); replace HB := Aside0.mk (below_step (bl2 HB GE613 GE626) hb); (try clear hb); (try clear hb2); (try clear hk); (try clear hi); (try clear ho0)))
   go_ret2
   exact ⟨_, by first | rfl | (simp [errW_none, errW_some] <;> rfl) | (simp [*, errW_none, errW_some] <;> rfl), by first | exact Kd.R_nil _ _ _ _ _ | exact Kd.N_nil _ _ _ _ _ | exact Kd.V_nil _ _ _ _ _ | exact Kd.Q_nil _ _ _ _ _ | exact Kd.S_nil _ _ _ _ _, bl2 HB GE613 GE626⟩
  subst c23
  rw [if_pos rfl] at H
  replace H := Option.bind_eq_some_iff.mp H
  obtain ⟨t631, A240, H⟩ := H
  have A24 := Aside0.mk A240
  clear A240
  simp only [Option.some.injEq, Prod.mk.injEq] at H
  obtain ⟨rfl, rfl⟩ := H
  have hcz25_0 : wc.cell? ⟨gb613, 0, none⟩ = some (.int .i64 a0_0) := (blk_cell BK613.out 0).trans rfl
  have hcz25_1 : wc.cell? ⟨gb613, 1, none⟩ = some (.slice A0_1 l0_1.length c0_1) := (blk_cell BK613.out 1).trans rfl
  have hfz25_0 := blk_frozen BK613.out 0
  have hfz25_1 := blk_frozen BK613.out 1
  go_wp2_with (first | ((with_reducible refine gate_callee (f := 90) rfl ?_); refine goesL_ (some 28) rfl rfl Try.func90 (by kernel_rfl) rfl #[.agg #[.int .i64 a0_0, .slice A0_1 l0_1.length c0_1], .int .i64 a3] rfl (by (try simp only [List.map_toArray, List.map_cons, List.map_nil]); first | done | rfl | (simp only [List.length_drop, List.length_take]; rfl)) ?_; (with_reducible refine (impl_Net_loaded.calls kj4 a0_0 _ _ l0_1 a3 t619 t620 t623 _ ?side1 ?side2 A21.out).mono ?_); (case side1 => repeat (first | exact (Kd.C_below HR0_1.out HB.out) | (with_reducible refine Kd.C_alloc ?_ _) | (with_reducible refine Kd.C_drewN ?_ _) | (with_reducible refine Kd.C_drew ?_))); (case side2 => exact HC0_1.out); rintro e w26 ⟨v621, v624, rfl, ho0, ho1, hb⟩; refine ⟨_, rfl, ?_⟩; have HO622 := Aside0.mk (Kd.R_lower ho0 (below_size (bl1 HB GE613))); have HO625 := Aside0.mk (Kd.R_lower ho1 (below_size (bl1 HB GE613))); replace BK613 := Aside0.mk (blk_below (bk BK613) hb); replace HB := Aside0.mk (below_step (bl1 HB GE613) hb); (try clear hb); (try clear hb2); (try clear hk); (try clear hi); (try clear ho0); (try clear ho1)) | ((with_reducible refine gate_dst (N := 10) rfl ?_); refine box_event ?hg (N := 10) ?hd (cs := #[.int .i64 0, .slice none 0 0]) (t := 30) ?hr ?_; (case hd => rfl); (case hg => rfl); (case hr => first | (go_simp; done) | (go_simp; rfl)); intro gb626 hg w27 hbox hb; replace HO622 := Aside0.mk (Kd.R_below (rk HO622) hb); replace HO625 := Aside0.mk (Kd.R_below (rk HO625) hb); have BK626 := Aside0.mk (hbox); have GW626 := Aside0.mk ((by rw [hg]; exact (below_size (bl1 HB GE613)) : w.heap.size ≤ gb626)); have GE626 := Aside0.mk ((by rw [hg]; exact (below_size (bl1 HB GE613)) : w.heap.size ≤ gb626)); replace HB := Aside0.mk (below_step (bl1 HB GE613) hb); have NB613_626 := Aside0.mk ((by rw [hg]; exact Nat.ne_of_lt (blk_lt (bk BK613)) : gb613 ≠ gb626)); have NB626_613 := Aside0.mk ((by rw [hg]; exact Nat.ne_of_gt (blk_lt (bk BK613)) : gb626 ≠ gb613)); replace BK613 := Aside0.mk (blk_below (bk BK613) hb); clear hb hbox hg; have hnb28 := NB626_613.out; have hnc28 := NB613_626.out; have hcz29_0 : w27.cell? ⟨gb626, 0, none⟩ = some (.int .i64 0) := (blk_cell BK626.out 0).trans rfl; have hcz29_1 : w27.cell? ⟨gb626, 1, none⟩ = some (.slice none 0 0) := (blk_cell BK626.out 1).trans rfl; have hfz29_0 := blk_frozen BK626.out 0; have hfz29_1 := blk_frozen BK626.out 1; obtain ⟨Ao30, co30, eo30⟩ := Kd.R_slice HO622.out; subst eo30) | ((with_reducible refine gate_callee (f := 91) rfl ?_); refine goesL_ (some 35) rfl rfl Try.func91 (by kernel_rfl) rfl #[.agg #[.int .i64 t619, .slice Ao30 t620.length co30], .int .i64 a1, .int .i64 a2] rfl (by (try simp only [List.map_toArray, List.map_cons, List.map_nil]); first | done | rfl | (simp only [List.length_drop, List.length_take]; rfl)) ?_; (with_reducible refine (impl_Net_best.calls kj4 t619 _ _ t620 a1 a2 t627 true _ ?side1 ?side2 A22.out).mono ?_); (case side1 => refine (Kd.R_reads' (e := 100) (base := w.heap.size) (ok := fun k_ => True) (n := t620.length) (c := co30) ?_).2.2; exact (by (with_reducible repeat (first | apply Kd.R_alloc | apply Kd.R_drewN | apply Kd.R_drew)); exact (Kd.R_mono (Kd.R_far (p := ⟨gb626, 1, none⟩) (Kd.R_far (p := ⟨gb626, 0, none⟩) (Kd.R_types HO622.out BK626.out (by decide)) (fun _ hk => hk.2) (.int .i64 t619)) (fun _ hk => hk.2) (.slice Ao30 t620.length co30)) (fun _ h_ => h_.1)))); (case side2 => exact (Kd.R_reads' HO622.out).2.1); rintro e w31 ⟨v628, rfl, ho0, hb⟩; refine ⟨_, rfl, ?_⟩; replace HO622 := Aside0.mk (Kd.R_below (by (with_reducible repeat (first | apply Kd.R_alloc | apply Kd.R_drewN | apply Kd.R_drew)); exact (Kd.R_mono (Kd.R_far (p := ⟨gb626, 1, none⟩) (Kd.R_far (p := ⟨gb626, 0, none⟩) (Kd.R_types HO622.out BK626.out (by decide)) (fun _ hk => hk.2) (.int .i64 t619)) (fun _ hk => hk.2) (.slice Ao30 t620.length co30)) (fun _ h_ => h_.1))) hb); have HO629 := Aside0.mk (Kd.R_lower (Kd.R_new' ho0 (Kd.R_lt (by (with_reducible repeat (first | apply Kd.R_alloc | apply Kd.R_drewN | apply Kd.R_drew)); exact (Kd.R_mono (Kd.R_far (p := ⟨gb626, 1, none⟩) (Kd.R_far (p := ⟨gb626, 0, none⟩) (Kd.R_types HO625.out BK626.out (by decide)) (fun _ hk => hk.2) (.int .i64 t619)) (fun _ hk => hk.2) (.slice Ao30 t620.length co30)) (fun _ h_ => h_.1))))) (below_size (bl2 HB GE613 GE626))); replace HO625 := Aside0.mk (Kd.R_elder' (by (with_reducible repeat (first | apply Kd.R_alloc | apply Kd.R_drewN | apply Kd.R_drew)); exact (Kd.R_mono (Kd.R_far (p := ⟨gb626, 1, none⟩) (Kd.R_far (p := ⟨gb626, 0, none⟩) (Kd.R_types HO625.out BK626.out (by decide)) (fun _ hk => hk.2) (.int .i64 t619)) (fun _ hk => hk.2) (.slice Ao30 t620.length co30)) (fun _ h_ => h_.1))) (Kd.R_base ho0) hb); replace BK613 := Aside0.mk (blk_below (g := gb613) (o := .cells #[.int .i64 a0_0, .slice A0_1 l0_1.length c0_1] 30 (0, 0)) (by (with_reducible repeat (first | refine blk_drewN ?_ _ | refine blk_drew ?_ | refine blk_alloc ?_ _)); refine blk_far ?_ NB613_626.out _; refine blk_far ?_ NB613_626.out _; (with_reducible repeat (first | refine blk_drewN ?_ _ | refine blk_drew ?_ | refine blk_alloc ?_ _)); exact BK613.out) hb); replace BK626 := Aside0.mk (blk_below (g := gb626) (o := .cells #[.int .i64 t619, .slice Ao30 t620.length co30] 30 (0, 0)) (by (with_reducible repeat (first | refine blk_drewN ?_ _ | refine blk_drew ?_ | refine blk_alloc ?_ _)); refine blk_put (cs := #[.int .i64 t619, .slice none 0 0]) ?_ 1 _ rfl; refine blk_put (cs := #[.int .i64 0, .slice none 0 0]) ?_ 0 _ rfl; (with_reducible repeat (first | refine blk_drewN ?_ _ | refine blk_drew ?_ | refine blk_alloc ?_ _)); exact BK626.out) hb); replace HB := Aside0.mk (below_step (bl2 HB GE613 GE626) hb); (try clear hb); (try clear hb2); (try clear hk); (try clear hi); (try clear ho0); obtain ⟨Ao32, co32, eo32⟩ := Kd.R_slice HO625.out; subst eo32; obtain ⟨Ao33, co33, eo33⟩ := Kd.R_slice HO629.out; subst eo33) | ((with_reducible refine gate_callee (f := 92) rfl ?_); refine goesL_ (some 42) rfl rfl Try.func92 (by kernel_rfl) rfl #[.slice Ao32 t623.length co32, .slice Ao33 t627.length co33] rfl (by (try simp only [List.map_toArray, List.map_cons, List.map_nil]); first | done | rfl | (simp only [List.length_drop, List.length_take]; rfl)) ?_; (with_reducible refine (impl_chosen.calls kj4 _ _ t623 _ _ t627 t631 _ ?side1 ?side2 ?side3 ?side4 A24.out).mono ?_); (case side1 => repeat (first | exact (Kd.R_reads' HO625.out).2.2 | (with_reducible refine Kd.C_alloc ?_ _) | (with_reducible refine Kd.C_drewN ?_ _) | (with_reducible refine Kd.C_drew ?_))); (case side2 => exact (Kd.R_reads' HO625.out).2.1); (case side3 => repeat (first | exact (Kd.R_reads' HO629.out).2.2 | (with_reducible refine Kd.C_alloc ?_ _) | (with_reducible refine Kd.C_drewN ?_ _) | (with_reducible refine Kd.C_drew ?_))); (case side4 => exact (Kd.R_reads' HO629.out).2.1); rintro e w34 ⟨v632, rfl, ho0, hb⟩; refine ⟨_, rfl, ?_⟩; replace HO622 := Aside0.mk (Kd.R_below (rk HO622) hb); have HO633 := Aside0.mk (Kd.R_lower (Kd.R_new' (Kd.R_new' ho0 (Kd.R_lt (rk HO625))) (Kd.R_lt (rk HO629))) (below_size (bl2 HB GE613 GE626))); replace HO625 := Aside0.mk (Kd.R_elder' (rk HO625) (Kd.R_base ho0) hb); replace HO629 := Aside0.mk (Kd.R_elder' (rk HO629) (Kd.R_base ho0) hb); replace BK613 := Aside0.mk (blk_below (bk BK613) hb); replace BK626 := Aside0.mk (blk_below (bk BK626) hb); replace HB := Aside0.mk (below_step (bl2 HB GE613 GE626) hb); (try clear hb); (try clear hb2); (try clear hk); (try clear hi); (try clear ho0)))
  go_ret2
  exact ⟨_, by first | rfl | (simp [errW_none, errW_some] <;> rfl) | (simp [*, errW_none, errW_some] <;> rfl), by (with_reducible repeat (first | apply Kd.R_alloc | apply Kd.R_drewN | apply Kd.R_drew)); exact Kd.R_mono HO633.out (fun _ hk => trivial), bl2 HB GE613 GE626⟩

end Go.Proofs.Ytbappbbljncdeaa.F
