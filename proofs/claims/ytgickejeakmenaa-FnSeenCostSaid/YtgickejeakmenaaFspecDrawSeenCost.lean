-- Printed by wip/px/px.py of this claim's repository (the kit's printer, extended there). Lean checks it.
import Derived.Test.YtgickejeakmenaaFKinds
import Derived.Test.YtgickejeakmenaaFspecl30Open
import Derived.Test.YtgickejeakmenaaFspecl30AnyNet
import Derived.Test.YtgickejeakmenaaFspecl30Seen
import Derived.Test.YtgickejeakmenaaFspecl30Node
namespace Go.Proofs.Ytgickejeakmenaa.F
open Go.RowKit Go.Proofs.YtgickejeakmenaaW.PrintWords Go.Proofs.YtgickejeakmenaaW.PrintLast Go.Proofs.YtgickejeakmenaaW.PrintMore
attribute [local go_sem] max2_int min2_int max_two min_two max_three min_three max_four min_four   -- for this text's walks alone
set_option linter.unusedVariables false
set_option linter.unusedSimpArgs false

/-! ### spec_DrawSeenCost: function 39 -/
def spec_DrawSeenCost.l0 : Nat → List (List Int) → List Int → Int → List Int → Int → Int → List (S41) → Option (Int × (List (S41)) × (List (List Int)) × List Int)
 | 0, _, _, _, _, _, _, _ => none
 | k + 1, x7, x8, x9, x467000, x467001, x473000, x473001 => if x9 < (x7.length : Int) then ((spec_l30Node.f k x467000 x467001 x473000 x473001).bind fun bt480 => (if x8.length < 17592186044416 then (spec_DrawSeenCost.l0 k x7 (x8 ++ [bt480.1]) (wrap64 (x9 + 1)) x467000 bt480.2 x473000 x473001) else (none))) else (some (x473000, x473001, x7, x8))
def spec_DrawSeenCost.f (k : Nat) (l0 : List Int) : Option (Int × (List (S41)) × (List (List Int)) × List Int) := (spec_l30Open.f l0).bind fun bt464 => ((spec_l30AnyNet.f k bt464.1 bt464.2).bind fun bt467 => ((spec_l30Seen.f k bt464.1 bt467.2.2 bt467.1 bt467.2.1).bind fun bt473 => (spec_DrawSeenCost.l0 k bt473.1 (([] : List Int)) 0 bt464.1 bt473.2 bt467.1 bt467.2.1)))
theorem spec_DrawSeenCost.mono_l : ∀ k, (∀ y0 y1 y2 y3 y4 y5 y6, LeO (spec_DrawSeenCost.l0 k y0 y1 y2 y3 y4 y5 y6) (spec_DrawSeenCost.l0 (k + 1) y0 y1 y2 y3 y4 y5 y6))
 | 0 => fun _ _ _ _ _ _ _ r h => by simp [spec_DrawSeenCost.l0] at h
 | k + 1 => by
  have ih0 := spec_DrawSeenCost.mono_l k
  ·intro y0 y1 y2 y3 y4 y5 y6
   unfold spec_DrawSeenCost.l0
   repeat' first
   | (with_reducible exact ih0 _ _ _ _ _ _ _)
   | (with_reducible exact spec_l30AnyNet.mono _ _ _)
   | (with_reducible exact spec_l30Node.mono _ _ _ _ _)
   | (with_reducible exact spec_l30Seen.mono _ _ _ _ _)
   | (with_reducible exact LeO.refl _)
   | (with_reducible exact LeO.none _)
   | (with_reducible refine LeO.ite ?_ ?_)
   | (with_reducible refine LeO.bind ?_ (fun _ => ?_))
   | exact ih0 _ _ _ _ _ _ _
   | exact spec_l30AnyNet.mono _ _ _
   | exact spec_l30Node.mono _ _ _ _ _
   | exact spec_l30Seen.mono _ _ _ _ _
   | exact LeO.none _
   | refine LeO.ite ?_ ?_
   | refine LeO.bind ?_ (fun _ => ?_)
theorem spec_DrawSeenCost.mono : ∀ a0 k, LeO (spec_DrawSeenCost.f k a0) (spec_DrawSeenCost.f (k + 1) a0) := by
 intro a0 k
 have ih0 := spec_DrawSeenCost.mono_l k
 unfold spec_DrawSeenCost.f
 repeat' first
   | (with_reducible exact ih0 _ _ _ _ _ _ _)
   | (with_reducible exact spec_l30AnyNet.mono _ _ _)
   | (with_reducible exact spec_l30Node.mono _ _ _ _ _)
   | (with_reducible exact spec_l30Seen.mono _ _ _ _ _)
   | (with_reducible exact LeO.refl _)
   | (with_reducible exact LeO.none _)
   | (with_reducible refine LeO.ite ?_ ?_)
   | (with_reducible refine LeO.bind ?_ (fun _ => ?_))
   | exact ih0 _ _ _ _ _ _ _
   | exact spec_l30AnyNet.mono _ _ _
   | exact spec_l30Node.mono _ _ _ _ _
   | exact spec_l30Seen.mono _ _ _ _ _
   | exact LeO.none _
   | refine LeO.ite ?_ ?_
   | refine LeO.bind ?_ (fun _ => ?_)
set_option maxHeartbeats 8000000 in
set_option maxRecDepth 100000 in
theorem spec_DrawSeenCost.calls (k : Nat) (A0 : Option Addr) (c0 : Nat) (l0 : List Int) (r1 : Int) (r2 : List (S41)) (r3 : List (List Int)) (r4 : List Int) (w : World) (hr0 : Kd.C (Kd.int .u8) w A0 l0.length l0) (hc0 : l0.length ≤ c0) (h : spec_DrawSeenCost.f k l0 = some (r1, r2, r3, r4)) :
  Calls Try.prog 39 #[.slice A0 l0.length c0] w fun e w' => ∃ v1_ v2_ v3_ : Value, e = .returned (.tuple #[.agg #[.int .i64 r1, v1_], v2_, v3_]) ∧ Kd.R k41 41 w' w.heap.size (fun _ => True) v1_ r2 ∧ Kd.S (Kd.slice 3 (Kd.int .i64)) 26 w' w.heap.size (fun k_ => some k_ ≠ (v3_ : Value).ownBlock) v2_ r3 ∧ Kd.R (Kd.int .i64) 3 w' w.heap.size (fun _ => True) v3_ r4 ∧ Below w.heap.size w w' := by
 have hu25 := Try.underlying25
 have HR0 := ak hr0
 have HC0 := ak hc0
 clear hr0 hc0
 have HB := ak (Below.refl w.heap.size w)
 have H : ((spec_l30Open.f l0).bind fun bt464 => ((spec_l30AnyNet.f k bt464.1 bt464.2).bind fun bt467 => ((spec_l30Seen.f k bt464.1 bt467.2.2 bt467.1 bt467.2.1).bind fun bt473 => (spec_DrawSeenCost.l0 k bt473.1 (([] : List Int)) 0 bt464.1 bt473.2 bt467.1 bt467.2.1)))) = some (r1, r2, r3, r4) := h
 clear h
 replace H := Option.bind_eq_some_iff.mp H
 obtain ⟨⟨t464, t465⟩, A20, H⟩ := H
 have A2 := ak A20
 clear A20
 replace H := Option.bind_eq_some_iff.mp H
 obtain ⟨⟨t467, t468, t471⟩, A30, H⟩ := H
 have A3 := ak A30
 clear A30
 replace H := Option.bind_eq_some_iff.mp H
 obtain ⟨⟨t473, t476⟩, A40, H⟩ := H
 have A4 := ak A40
 clear A40
 obtain ⟨y477, hy477⟩ : ∃ y_ : List Int, y_ = (([] : List Int)) := ⟨_, rfl⟩
 replace H : (spec_DrawSeenCost.l0 k t473 y477 0 t464 t476 t467 t468) = some (r1, r2, r3, r4) := by first | (rw [hy477]; with_reducible exact H) | (have H2_ := (Option.bind_some _ _).symm.trans H; rw [hy477]; with_reducible exact H2_) | (have H2_ := (Option.bind_some _ _).symm.trans H; with_reducible exact H2_) | with_reducible exact H | (rw [hy477]; exact H) | exact H
 have Ny477 := ak hy477
 clear hy477
 have H' := ak H
 clear H
 go_enter Try.func39, Try.ntmps39
 go_wp2_with (first | ((with_reducible refine gate_dst (N := 2) rfl ?_); refine box_event ?hg (N := 2) ?hd (cs := #[.int .i64 0, .slice none 0 0]) (t := 25) ?hr ?_; (case hd => rfl); (case hg => rfl); (case hr => first | (go_simp; done) | (go_simp; rfl)); intro gb463 hg w5 hbox hb; have BK463 := ak (hbox); have GW463 := ak ((by rw [hg]; exact (below_size (bl HB)) : w.heap.size ≤ gb463)); have GE463 := ak ((by rw [hg]; exact (below_size (bl HB)) : w.heap.size ≤ gb463)); replace HB := ak (below_step (bl HB) hb); clear hb hbox hg) | ((with_reducible refine gate_callee (f := 49) rfl ?_); refine goesL_ (some 11) rfl rfl Try.func49 (by kernel_rfl) rfl #[.slice A0 l0.length c0] rfl (by (try simp only [List.map_toArray, List.map_cons, List.map_nil]); first | done | rfl | (simp only [List.length_drop, List.length_take]; rfl)) ?_; (with_reducible refine (spec_l30Open.calls _ _ l0 t464 t465 w _ ?side1 ?side2 ?side3 A2.out).mono ?_); (case side1 => repeat (first | (with_reducible first | exact HB.out | apply below_alloc | apply pw_below_drewN | apply below_drew1 | refine below_set ?_ GE463.out) | exact HB.out)); (case side2 => exact HR0.out); (case side3 => exact HC0.out); rintro e w6 ⟨g466, rfl, hi, hb, hb2⟩; refine ⟨_, rfl, ?_⟩; replace HB := ak (hb); have HI466 := ak (hi); have NB466_463 := ak (IsS99.ne_blk hi (blk_below (bk BK463) hb2) (by decide)); have NB463_466 := ak (Ne.symm (IsS99.ne_blk hi (blk_below (bk BK463) hb2) (by decide))); replace BK463 := ak (blk_below (bk BK463) hb2); (try clear hb); (try clear hb2); (try clear hk); (try clear hi)) | ((with_reducible refine gate_callee (f := 50) rfl ?_); refine goesL_ (some 13) rfl rfl Try.func50 (by kernel_rfl) rfl #[.pointer (some ⟨g466, 0, none⟩)] rfl (by (try simp only [List.map_toArray, List.map_cons, List.map_nil]); first | done | rfl | (simp only [List.length_drop, List.length_take]; rfl)) ?_; (with_reducible refine (spec_l30AnyNet.calls k g466 t464 t465 t467 t468 t471 w _ ?side1 ?side2 A3.out).mono ?_); (case side1 => repeat (first | (with_reducible first | exact HI466.out | apply IsS99.alloc | apply IsS99.drewN | apply IsS99.drew | apply IsS99.set_1 | refine IsS99.far ?_ NB466_463.out _) | exact HI466.out)); (case side2 => repeat (first | (with_reducible first | exact HB.out | apply below_alloc | apply pw_below_drewN | apply below_drew1 | refine below_set ?_ (IsS99.ge HI466.out) | refine below_set ?_ GE463.out) | exact HB.out)); rintro e w7 ⟨v469, rfl, ho0, hi, hb, hk⟩; refine ⟨_, rfl, ?_⟩; replace BK463 := ak (KeepBut.blk hk (g' := gb463) (o := .cells #[.int .i64 0, .slice none 0 0] 25 (0, 0)) (bk BK463) NB463_466.out (by simp)); have HO470 := ak (Kd.R_lower ho0 (below_size (by repeat (first | (with_reducible first | exact HB.out | apply below_alloc | apply pw_below_drewN | apply below_drew1 | refine below_set ?_ (IsS99.ge HI466.out) | refine below_set ?_ GE463.out) | exact HB.out)))); replace HB := ak (hb); replace HI466 := ak (hi); (try clear hb); (try clear hb2); (try clear hk); (try clear hi); (try clear ho0)) | ((with_reducible refine gate_dst (N := 6) rfl ?_); refine box_event ?hg (N := 6) ?hd (cs := #[.int .i64 0, .slice none 0 0]) (t := 25) ?hr ?_; (case hd => rfl); (case hg => rfl); (case hr => first | (go_simp; done) | (go_simp; rfl)); intro gb472 hg w8 hbox hb; replace HO470 := ak (Kd.R_below (rk HO470) hb); have BK472 := ak (hbox); have GW472 := ak ((by rw [hg]; exact (below_size (by repeat (first | (with_reducible first | exact HB.out | apply below_alloc | apply pw_below_drewN | apply below_drew1 | refine below_set ?_ (IsS99.ge HI466.out) | refine below_set ?_ GE463.out) | exact HB.out))) : w.heap.size ≤ gb472)); have GE472 := ak ((by rw [hg]; exact (below_size (by repeat (first | (with_reducible first | exact HB.out | apply below_alloc | apply pw_below_drewN | apply below_drew1 | refine below_set ?_ (IsS99.ge HI466.out) | refine below_set ?_ GE463.out) | exact HB.out))) : w.heap.size ≤ gb472)); replace HB := ak (below_step (by repeat (first | (with_reducible first | exact HB.out | apply below_alloc | apply pw_below_drewN | apply below_drew1 | refine below_set ?_ (IsS99.ge HI466.out) | refine below_set ?_ GE463.out) | exact HB.out)) hb); have NB463_472 := ak ((by rw [hg]; exact Nat.ne_of_lt (blk_lt (bk BK463)) : gb463 ≠ gb472)); have NB472_463 := ak ((by rw [hg]; exact Nat.ne_of_gt (blk_lt (bk BK463)) : gb472 ≠ gb463)); replace BK463 := ak (blk_below (bk BK463) hb); have NB466_472 := ak ((by rw [hg]; exact Nat.ne_of_lt (IsS99.lt (show IsS99 w _ g466 t464 t471 from by repeat (first | (with_reducible first | exact HI466.out | apply IsS99.alloc | apply IsS99.drewN | apply IsS99.drew | apply IsS99.set_1 | refine IsS99.far ?_ NB466_463.out _) | exact HI466.out))) : g466 ≠ gb472)); have NB472_466 := ak ((by rw [hg]; exact Nat.ne_of_gt (IsS99.lt (show IsS99 w _ g466 t464 t471 from by repeat (first | (with_reducible first | exact HI466.out | apply IsS99.alloc | apply IsS99.drewN | apply IsS99.drew | apply IsS99.set_1 | refine IsS99.far ?_ NB466_463.out _) | exact HI466.out))) : gb472 ≠ g466)); replace HI466 := ak (IsS99.below (by repeat (first | (with_reducible first | exact HI466.out | apply IsS99.alloc | apply IsS99.drewN | apply IsS99.drew | apply IsS99.set_1 | refine IsS99.far ?_ NB466_463.out _) | exact HI466.out)) hb); clear hb hbox hg; have hnb9 := NB472_463.out; have hnc9 := NB463_472.out; have hnb10 := NB472_466.out; have hnc10 := NB466_472.out; have hcz11_0 := bc w8 BK472 0 (.int .i64 0) rfl; have hcz11_1 := bc w8 BK472 1 (.slice none 0 0) rfl; have hfz11_0 := fz BK472 0; have hfz11_1 := fz BK472 1; obtain ⟨Ao12, co12, eo12⟩ := Kd.R_slice HO470.out; subst eo12) | ((with_reducible refine gate_callee (f := 85) rfl ?_); refine goesL_ (some 16) rfl rfl Try.func85 (by kernel_rfl) rfl #[.pointer (some ⟨g466, 0, none⟩), .agg #[.int .i64 t467, .slice Ao12 t468.length co12]] rfl (by (try simp only [List.map_toArray, List.map_cons, List.map_nil]); first | done | rfl | (simp only [List.length_drop, List.length_take]; rfl)) ?_; (with_reducible refine (spec_l30Seen.calls k g466 t464 t471 t467 _ _ t468 t473 t476 w _ ?side1 ?side2 ?side3 ?side4 A4.out).mono ?_); (case side1 => repeat (first | (with_reducible first | exact HI466.out | apply IsS99.alloc | apply IsS99.drewN | apply IsS99.drew | apply IsS99.set_1 | refine IsS99.far ?_ NB466_463.out _ | refine IsS99.far ?_ NB466_472.out _) | exact HI466.out)); (case side2 => repeat (first | (with_reducible first | exact HB.out | apply below_alloc | apply pw_below_drewN | apply below_drew1 | refine below_set ?_ (IsS99.ge HI466.out) | refine below_set ?_ GE463.out | refine below_set ?_ GE472.out) | exact HB.out)); (case side3 => exact Kd.C_foot_own (IsS99.apart (show IsS99 w _ g466 t464 t471 from by repeat (first | (with_reducible first | exact HI466.out | apply IsS99.alloc | apply IsS99.drewN | apply IsS99.drew | apply IsS99.set_1 | refine IsS99.far ?_ NB466_463.out _ | refine IsS99.far ?_ NB466_472.out _) | exact HI466.out)) (by (with_reducible repeat (first | apply Kd.R_alloc | apply Kd.R_drewN | apply Kd.R_drew)); exact (Kd.R_mono (Kd.R_far (p := ⟨gb472, 1, none⟩) (Kd.R_far (p := ⟨gb472, 0, none⟩) (Kd.R_types HO470.out BK472.out (by decide)) (fun _ hk => hk.2) (.int .i64 t467)) (fun _ hk => hk.2) (.slice Ao12 t468.length co12)) (fun _ h_ => h_.1))) (by decide)) (fun _ h_ => h_.2)); (case side4 => exact (Kd.R_reads' HO470.out).2.1); rintro e w13 ⟨v474, rfl, ho0, hi, hb, hk⟩; refine ⟨_, rfl, ?_⟩; replace BK463 := ak (KeepBut.blk hk (g' := gb463) (o := .cells #[.int .i64 0, .slice none 0 0] 25 (0, 0)) (by (with_reducible repeat (first | refine blk_drewN ?_ _ | refine blk_drew ?_ | refine blk_alloc ?_ _)); refine blk_far ?_ NB463_472.out _; refine blk_far ?_ NB463_472.out _; (with_reducible repeat (first | refine blk_drewN ?_ _ | refine blk_drew ?_ | refine blk_alloc ?_ _)); exact BK463.out) NB463_466.out (by simp)); replace HO470 := ak (Kd.R_mono (Kd.R_keep (IsS99.apart (show IsS99 w _ g466 t464 t471 from by repeat (first | (with_reducible first | exact HI466.out | apply IsS99.alloc | apply IsS99.drewN | apply IsS99.drew | apply IsS99.set_1 | refine IsS99.far ?_ NB466_463.out _ | refine IsS99.far ?_ NB466_472.out _) | exact HI466.out)) (by (with_reducible repeat (first | apply Kd.R_alloc | apply Kd.R_drewN | apply Kd.R_drew)); exact (Kd.R_mono (Kd.R_far (p := ⟨gb472, 1, none⟩) (Kd.R_far (p := ⟨gb472, 0, none⟩) (Kd.R_types HO470.out BK472.out (by decide)) (fun _ hk => hk.2) (.int .i64 t467)) (fun _ hk => hk.2) (.slice Ao12 t468.length co12)) (fun _ h_ => h_.1))) (by decide)) hk (fun _ h => h.2)) (fun _ h => h.1)); replace BK472 := ak (KeepBut.blk hk (g' := gb472) (o := .cells #[.int .i64 t467, .slice Ao12 t468.length co12] 25 (0, 0)) (by (with_reducible repeat (first | refine blk_drewN ?_ _ | refine blk_drew ?_ | refine blk_alloc ?_ _)); refine blk_put (cs := #[.int .i64 t467, .slice none 0 0]) ?_ 1 _ rfl; refine blk_put (cs := #[.int .i64 0, .slice none 0 0]) ?_ 0 _ rfl; (with_reducible repeat (first | refine blk_drewN ?_ _ | refine blk_drew ?_ | refine blk_alloc ?_ _)); exact BK472.out) NB472_466.out (by simp)); have HO475 := ak (Kd.S_lower ho0 (below_size (by repeat (first | (with_reducible first | exact HB.out | apply below_alloc | apply pw_below_drewN | apply below_drew1 | refine below_set ?_ (IsS99.ge HI466.out) | refine below_set ?_ GE463.out | refine below_set ?_ GE472.out) | exact HB.out)))); replace HB := ak (hb); replace HI466 := ak (hi); (try clear hb); (try clear hb2); (try clear hk); (try clear hi); (try clear ho0)) | ((with_reducible refine gate_dst (N := 17) rfl ?_); refine Kd.R_lit (Kd.int .i64) _ 3 ?hg (N := 17) ?hd (xs := ([] : List Int)) (inner := []) (ok := fun _ => True) (okp := fun _ => True) ?hr ?hp (fun _ hk => hk) trivial (Below.refl _ _) (Nat.le_refl _) (by simp) ?_; (case hd => rfl); (case hg => rfl); (case hr => first | (go_simp; done) | (go_simp; rfl)); (case hp => exact (Reps.none _ _)); intro v478 w14 ho15 hb hg_ hnew_; clear hg_ hnew_; (first | rw [← Ny477.out] at ho15 | (simp only [Int.reduceToNat] at ho15; rw [← Ny477.out] at ho15)); replace HO470 := ak (Kd.R_below (rk HO470) hb); replace HO475 := ak (Kd.S_elder' (by (with_reducible repeat (first | apply Kd.S_alloc | apply Kd.S_drewN | apply Kd.S_drew)); exact HO475.out) (Kd.R_base ho15) hb); have HO479 := ak (Kd.R_lower ho15 (below_size (by repeat (first | (with_reducible first | exact HB.out | apply below_alloc | apply pw_below_drewN | apply below_drew1 | refine below_set ?_ (IsS99.ge HI466.out) | refine below_set ?_ GE463.out | refine below_set ?_ GE472.out) | exact HB.out)))); replace BK463 := ak (blk_below (bk BK463) hb); replace BK472 := ak (blk_below (bk BK472) hb); replace HB := ak (below_step (by repeat (first | (with_reducible first | exact HB.out | apply below_alloc | apply pw_below_drewN | apply below_drew1 | refine below_set ?_ (IsS99.ge HI466.out) | refine below_set ?_ GE463.out | refine below_set ?_ GE472.out) | exact HB.out)) hb); replace HI466 := ak (IsS99.below (by repeat (first | (with_reducible first | exact HI466.out | apply IsS99.alloc | apply IsS99.drewN | apply IsS99.drew | apply IsS99.set_1 | refine IsS99.far ?_ NB466_463.out _ | refine IsS99.far ?_ NB466_472.out _) | exact HI466.out)) hb); clear hb ho15))
 go_loopg [8, 9] k (fun kq v8 v9 w' => ∃ (x8_1 : List Int) (x9_1 : Int) (x467001_1 : Int), v9 = .int .i64 x9_1 ∧ Aside0 (spec_DrawSeenCost.l0 kq t473 x8_1 x9_1 t464 x467001_1 t467 t468 = some (r1, r2, r3, r4)) ∧ Aside0 (kq ≤ k) ∧ Aside0 (Kd.S (Kd.slice 3 (Kd.int .i64)) 26 w' w.heap.size (fun k_ => some k_ ≠ (v8 : Value).ownBlock) v474 t473) ∧ Aside0 (Kd.R (Kd.int .i64) 3 w' w.heap.size (fun _ => True) v8 x8_1) ∧ Aside0 (Kd.R k41 41 w' w.heap.size (fun _ => True) (.slice Ao12 t468.length co12) t468) ∧ Aside0 (w'.heap[gb463]? = some (.cells #[.int .i64 0, (.slice none 0 0)] 25 (0, 0))) ∧ Aside0 (w'.heap[gb472]? = some (.cells #[.int .i64 t467, (.slice Ao12 t468.length co12)] 25 (0, 0))) ∧ Aside0 (IsS99 w w' g466 t464 x467001_1) ∧ Aside0 (Below w.heap.size w w'))
 case atStart => exact ⟨(y477), (0), (t476), (by first | rfl | (simp; done) | (simp [*]; done)), H', ⟨Nat.le_refl _⟩, ⟨by (with_reducible repeat (first | apply Kd.S_alloc | apply Kd.S_drewN | apply Kd.S_drew)); exact Kd.S_mono HO475.out (fun _ hk => hk.2)⟩, ⟨rk HO479⟩, ⟨rk HO470⟩, ⟨bk BK463⟩, ⟨bk BK472⟩, ⟨by repeat (first | (with_reducible first | exact HI466.out | apply IsS99.alloc | apply IsS99.drewN | apply IsS99.drew | apply IsS99.set_1 | refine IsS99.far ?_ NB466_463.out _ | refine IsS99.far ?_ NB466_472.out _) | exact HI466.out)⟩, ⟨by repeat (first | (with_reducible first | exact HB.out | apply below_alloc | apply pw_below_drewN | apply below_drew1 | refine below_set ?_ (IsS99.ge HI466.out) | refine below_set ?_ GE463.out | refine below_set ?_ GE472.out) | exact HB.out)⟩⟩
 clear H'
 try clear c1
 try clear p2
 try clear c3
 try clear c4
 try clear c5
 try clear c8
 try clear c9
 try clear c10
 try clear hcz11_0
 try clear hcz11_1
 try clear hfz11_0
 try clear hfz11_1
 obtain ⟨x8_1, x9_1, x467001_1, rfl, HA, HK1, HO_7, HO_8, HO_473001, BK463, BK472, HI466, HB⟩ := hrel
 cases gk with
 | zero => exact absurd HA.out (by simp [spec_DrawSeenCost.l0])
 | succ k1 =>
  have H := HA.out
  clear HA
  simp only [spec_DrawSeenCost.l0] at H
  by_cases c16 : x9_1 < (t473.length : Int)
  rotate_left
  ·rw [if_neg c16] at H
   have c16b0 : decide (x9_1 < (t473.length : Int)) = false := decide_eq_false c16
   clear c16
   simp only [Option.some.injEq, Prod.mk.injEq] at H
   obtain ⟨rfl, rfl, rfl, rfl⟩ := H
   obtain ⟨Ao25, co25, eo25⟩ := Kd.S_slice HO_7.out
   subst eo25
   have hnb26 := NB472_463.out
   have hnc26 := NB463_472.out
   have hnb27 := NB472_466.out
   have hnc27 := NB466_472.out
   have hcz28_0 := bc wr BK472 0 (.int .i64 t467) rfl
   have hcz28_1 := bc wr BK472 1 (.slice Ao12 t468.length co12) rfl
   have hfz28_0 := fz BK472 0
   have hfz28_1 := fz BK472 1
   have hnb29 := NB463_466.out
   have hnc29 := NB466_463.out
   have hcz30_0 := bc wr BK463 0 (.int .i64 0) rfl
   have hcz30_1 := bc wr BK463 1 (.slice none 0 0) rfl
   have hfz30_0 := fz BK463 0
   have hfz30_1 := fz BK463 1
   go_wp2
   refine bodyPost_ret (results_ctt rfl _ _ gb463 25 #[.int .i64 t467, .slice Ao12 t468.length co12] (0, 0) _ rfl (by (with_reducible repeat (first | refine blk_drewN ?_ _ | refine blk_drew ?_ | refine blk_alloc ?_ _)); refine blk_put (cs := #[.int .i64 t467, .slice none 0 0]) ?_ 1 _ rfl; refine blk_put (cs := #[.int .i64 0, .slice none 0 0]) ?_ 0 _ rfl; (with_reducible repeat (first | refine blk_drewN ?_ _ | refine blk_drew ?_ | refine blk_alloc ?_ _)); exact BK463.out) Try.underlying25 rfl (by kernel_rfl)) rfl ?_
   exact ⟨_, _, _, by first | rfl | (simp [errW_none, errW_some] <;> rfl) | (simp [*, errW_none, errW_some] <;> rfl), by (with_reducible repeat (first | apply Kd.R_alloc | apply Kd.R_drewN | apply Kd.R_drew)); exact Kd.R_mono (Kd.R_far (p := ⟨gb463, 1, none⟩) (Kd.R_far (p := ⟨gb463, 0, none⟩) (Kd.R_types HO_473001.out BK463.out (by decide)) (fun _ hk => hk.2) (.int .i64 t467)) (fun _ hk => hk.2) (.slice Ao12 t468.length co12)) (fun _ hk => trivial), by (with_reducible repeat (first | apply Kd.S_alloc | apply Kd.S_drewN | apply Kd.S_drew)); exact Kd.S_mono (Kd.S_far (p := ⟨gb463, 1, none⟩) (Kd.S_far (p := ⟨gb463, 0, none⟩) (Kd.S_types HO_7.out BK463.out (by decide)) (fun _ hk => hk.2) (.int .i64 t467)) (fun _ hk => hk.2) (.slice Ao12 t468.length co12)) (fun _ hk => hk.1), by (with_reducible repeat (first | apply Kd.R_alloc | apply Kd.R_drewN | apply Kd.R_drew)); exact Kd.R_mono (Kd.R_far (p := ⟨gb463, 1, none⟩) (Kd.R_far (p := ⟨gb463, 0, none⟩) (Kd.R_types HO_8.out BK463.out (by decide)) (fun _ hk => hk.2) (.int .i64 t467)) (fun _ hk => hk.2) (.slice Ao12 t468.length co12)) (fun _ hk => trivial), by repeat (first | (with_reducible first | exact HB.out | apply below_alloc | apply pw_below_drewN | apply below_drew1 | refine below_set ?_ (IsS99.ge HI466.out) | refine below_set ?_ GE463.out | refine below_set ?_ GE472.out) | exact HB.out)⟩
  rw [if_pos c16] at H
  have c16b0 : decide (x9_1 < (t473.length : Int)) = true := decide_eq_true c16
  clear c16
  replace H := Option.bind_eq_some_iff.mp H
  obtain ⟨⟨t480, t481⟩, A170, H⟩ := H
  have A17 := ak A170
  clear A170
  by_cases c18 : x8_1.length < 17592186044416
  rotate_left
  ·rw [if_neg c18] at H
   exact absurd H (by simp)
  rw [if_pos c18] at H
  have LMc18 := ak c18
  clear c18
  obtain ⟨y482, hy482⟩ : ∃ y_ : List Int, y_ = (x8_1 ++ [t480]) := ⟨_, rfl⟩
  replace H : (spec_DrawSeenCost.l0 k1 t473 y482 (wrap64 (x9_1 + 1)) t464 t481 t467 t468) = some (r1, r2, r3, r4) := by first | (rw [hy482]; with_reducible exact H) | (have H2_ := (Option.bind_some _ _).symm.trans H; rw [hy482]; with_reducible exact H2_) | (have H2_ := (Option.bind_some _ _).symm.trans H; with_reducible exact H2_) | with_reducible exact H | (rw [hy482]; exact H) | exact H
  have Ny482 := ak hy482
  clear hy482
  have H' := ak H
  clear H
  obtain ⟨Ao19, co19, eo19⟩ := Kd.S_slice HO_7.out
  subst eo19
  have hnb20 := NB472_463.out
  have hnc20 := NB463_472.out
  have hnb21 := NB472_466.out
  have hnc21 := NB466_472.out
  have hcz22_0 := bc wr BK472 0 (.int .i64 t467) rfl
  have hcz22_1 := bc wr BK472 1 (.slice Ao12 t468.length co12) rfl
  have hfz22_0 := fz BK472 0
  have hfz22_1 := fz BK472 1
  go_wp2_with (first | ((with_reducible refine gate_callee (f := 71) rfl ?_); refine goesL_ (some 27) rfl rfl Try.func71 (by kernel_rfl) rfl #[.pointer (some ⟨g466, 0, none⟩), .agg #[.int .i64 t467, .slice Ao12 t468.length co12]] rfl (by (try simp only [List.map_toArray, List.map_cons, List.map_nil]); first | done | rfl | (simp only [List.length_drop, List.length_take]; rfl)) ?_; (with_reducible refine (spec_l30Node.calls k1 g466 t464 x467001_1 t467 _ _ t468 t480 t481 w _ ?side1 ?side2 ?side3 ?side4 A17.out).mono ?_); (case side1 => repeat (first | (with_reducible first | exact HI466.out | apply IsS99.alloc | apply IsS99.drewN | apply IsS99.drew | apply IsS99.set_1 | refine IsS99.far ?_ NB466_463.out _ | refine IsS99.far ?_ NB466_472.out _) | exact HI466.out)); (case side2 => repeat (first | (with_reducible first | exact HB.out | apply below_alloc | apply pw_below_drewN | apply below_drew1 | refine below_set ?_ (IsS99.ge HI466.out) | refine below_set ?_ GE463.out | refine below_set ?_ GE472.out) | exact HB.out)); (case side3 => exact Kd.C_foot_own (IsS99.apart (show IsS99 w _ g466 t464 x467001_1 from by repeat (first | (with_reducible first | exact HI466.out | apply IsS99.alloc | apply IsS99.drewN | apply IsS99.drew | apply IsS99.set_1 | refine IsS99.far ?_ NB466_463.out _ | refine IsS99.far ?_ NB466_472.out _) | exact HI466.out)) (rk HO_473001) (by decide)) (fun _ h_ => h_.2)); (case side4 => exact (Kd.R_reads' HO_473001.out).2.1); rintro e w23 ⟨rfl, hi, hb, hk⟩; refine ⟨_, rfl, ?_⟩; replace HO_7 := ak (Kd.S_mono (Kd.S_keep (IsS99.apartS (show IsS99 w _ g466 t464 x467001_1 from by repeat (first | (with_reducible first | exact HI466.out | apply IsS99.alloc | apply IsS99.drewN | apply IsS99.drew | apply IsS99.set_1 | refine IsS99.far ?_ NB466_463.out _ | refine IsS99.far ?_ NB466_472.out _) | exact HI466.out)) (by (with_reducible repeat (first | apply Kd.S_alloc | apply Kd.S_drewN | apply Kd.S_drew)); exact HO_7.out) (by decide)) hk (fun _ h => h.2)) (fun _ h => h.1)); replace HO_8 := ak (Kd.R_mono (Kd.R_keep (IsS99.apart (show IsS99 w _ g466 t464 x467001_1 from by repeat (first | (with_reducible first | exact HI466.out | apply IsS99.alloc | apply IsS99.drewN | apply IsS99.drew | apply IsS99.set_1 | refine IsS99.far ?_ NB466_463.out _ | refine IsS99.far ?_ NB466_472.out _) | exact HI466.out)) (rk HO_8) (by decide)) hk (fun _ h => h.2)) (fun _ h => h.1)); replace HO_473001 := ak (Kd.R_mono (Kd.R_keep (IsS99.apart (show IsS99 w _ g466 t464 x467001_1 from by repeat (first | (with_reducible first | exact HI466.out | apply IsS99.alloc | apply IsS99.drewN | apply IsS99.drew | apply IsS99.set_1 | refine IsS99.far ?_ NB466_463.out _ | refine IsS99.far ?_ NB466_472.out _) | exact HI466.out)) (rk HO_473001) (by decide)) hk (fun _ h => h.2)) (fun _ h => h.1)); replace BK463 := ak (KeepBut.blk hk (g' := gb463) (o := .cells #[.int .i64 0, .slice none 0 0] 25 (0, 0)) (bk BK463) NB463_466.out (by simp)); replace BK472 := ak (KeepBut.blk hk (g' := gb472) (o := .cells #[.int .i64 t467, .slice Ao12 t468.length co12] 25 (0, 0)) (bk BK472) NB472_466.out (by simp)); replace HB := ak (hb); replace HI466 := ak (hi); (try clear hb); (try clear hb2); (try clear hk); (try clear hi)) | ((with_reducible refine gate_builtin (b := .append) (xs := #[.tmp 24, .tmp 28]) rfl ?_); at_builtin; refine Kd.R_append (Kd.int .i64) (w0 := w) w.heap.size rfl (.tmp 24) (.tmp 28) 26 3 (.int .i64 0) 8 rfl Try.underlying26 info3 rfl (by decide) (by omega) u8 x8_1 t480 [.int .i64 t480] (fun _ => True) (fun _ => False) rfl rfl ?aP (fun _ hk => hk.elim) ?aF ?aO ?aB ?aS ?aL ?_; (case aP => exact rfl); (case aB => exact (by repeat (first | (with_reducible first | exact HB.out | apply below_alloc | apply pw_below_drewN | apply below_drew1 | refine below_set ?_ (IsS99.ge HI466.out) | refine below_set ?_ GE463.out | refine below_set ?_ GE472.out) | exact HB.out))); (case aF => exact (fun _ _ => trivial)); (case aO => exact (rk HO_8)); (case aS => exact (below_size (by repeat (first | (with_reducible first | exact HB.out | apply below_alloc | apply pw_below_drewN | apply below_drew1 | refine below_set ?_ (IsS99.ge HI466.out) | refine below_set ?_ GE463.out | refine below_set ?_ GE472.out) | exact HB.out)))); (case aL => have := LMc18.out; omega); intro v483 w24 ho hb hg hat; rw [← Ny482.out] at ho; have n0_ := ak (Kd.S_after (ok := (fun _ => True)) (by (with_reducible repeat (first | apply Kd.S_alloc | apply Kd.S_drewN | apply Kd.S_drew)); exact Kd.S_mono HO_7.out (fun _ hk => ⟨trivial, hk⟩)) hg hat); have n1_ := ak (Kd.R_over' (rk HO_473001) (Kd.R_typed (rk HO_8)) (by decide) hg); have n2_ := ak (blk_grown (bk BK463) hg (Kd.R_ne HO_8.out BK463.out (by decide))); have n3_ := ak (blk_grown (bk BK472) hg (Kd.R_ne HO_8.out BK472.out (by decide))); have n4_ := ak (IsS99.grown (by repeat (first | (with_reducible first | exact HI466.out | apply IsS99.alloc | apply IsS99.drewN | apply IsS99.drew | apply IsS99.set_1 | refine IsS99.far ?_ NB466_463.out _ | refine IsS99.far ?_ NB466_472.out _) | exact HI466.out)) hg (IsS99.own_ne HI466.out HO_8.out (by decide))); have n5_ := ak (hb); have n6_ := ak (ho); clear HO_7; clear HO_473001; clear BK463; clear BK472; clear HI466; clear HB; clear HO_8; have HO_7 := n0_; have HO_473001 := n1_; have BK463 := n2_; have BK472 := n3_; have HI466 := n4_; have HB := n5_; have HO484 := n6_; clear n0_ n1_ n2_ n3_ n4_ n5_ n6_; clear ho hb hg hat))
  go_roundg k1
  case measure => have := HK1.out; omega
  case rel => exact ⟨(y482), (wrap64 (x9_1 + 1)), (t481), (by first | rfl | (simp; done) | (simp [*]; done)), H', ⟨by have := HK1.out; omega⟩, ⟨by (with_reducible repeat (first | apply Kd.S_alloc | apply Kd.S_drewN | apply Kd.S_drew)); exact Kd.S_mono HO_7.out (fun _ hk => hk.2)⟩, ⟨rk HO484⟩, ⟨rk HO_473001⟩, ⟨bk BK463⟩, ⟨bk BK472⟩, ⟨by repeat (first | (with_reducible first | exact HI466.out | apply IsS99.alloc | apply IsS99.drewN | apply IsS99.drew | apply IsS99.set_1 | refine IsS99.far ?_ NB466_463.out _ | refine IsS99.far ?_ NB466_472.out _) | exact HI466.out)⟩, ⟨by repeat (first | (with_reducible first | exact HB.out | apply below_alloc | apply pw_below_drewN | apply below_drew1 | refine below_set ?_ (IsS99.ge HI466.out) | refine below_set ?_ GE463.out | refine below_set ?_ GE472.out) | exact HB.out)⟩⟩

end Go.Proofs.Ytgickejeakmenaa.F
