-- Printed by wip/px/px.py of this claim's repository (the kit's printer, extended there). Lean checks it.
import Derived.Test.YtgickejeakmenaaFKinds
import Derived.Test.YtgickejeakmenaaFspecl30Open
import Derived.Test.YtgickejeakmenaaFspecl30AnyNet
import Derived.Test.YtgickejeakmenaaFspecl30Node
namespace Go.Proofs.Ytgickejeakmenaa.F
open Go.RowKit Go.Proofs.YtgickejeakmenaaW.PrintWords Go.Proofs.YtgickejeakmenaaW.PrintLast Go.Proofs.YtgickejeakmenaaW.PrintMore
attribute [local go_sem] max2_int min2_int max_two min_two max_three min_three max_four min_four   -- for this text's walks alone
set_option linter.unusedVariables false
set_option linter.unusedSimpArgs false

/-! ### spec_DrawNetOut: function 60 -/
def spec_DrawNetOut.f (k : Nat) (l0 : List Int) : Option (Int × (List (S41)) × Int) := (spec_l30Open.f l0).bind fun bt377 => ((spec_l30AnyNet.f k bt377.1 bt377.2).bind fun bt380 => ((spec_l30Node.f k bt377.1 bt380.2.2 bt380.1 bt380.2.1).bind fun bt386 => (some (bt380.1, bt380.2.1, bt386.1))))
theorem spec_DrawNetOut.mono : ∀ a0 k, LeO (spec_DrawNetOut.f k a0) (spec_DrawNetOut.f (k + 1) a0) := by
 intro a0 k
 unfold spec_DrawNetOut.f
 repeat' first
   | (with_reducible exact spec_l30AnyNet.mono _ _ _)
   | (with_reducible exact spec_l30Node.mono _ _ _ _ _)
   | (with_reducible exact LeO.refl _)
   | (with_reducible exact LeO.none _)
   | (with_reducible refine LeO.ite ?_ ?_)
   | (with_reducible refine LeO.bind ?_ (fun _ => ?_))
   | exact spec_l30AnyNet.mono _ _ _
   | exact spec_l30Node.mono _ _ _ _ _
   | exact LeO.none _
   | refine LeO.ite ?_ ?_
   | refine LeO.bind ?_ (fun _ => ?_)
set_option maxHeartbeats 8000000 in
set_option maxRecDepth 100000 in
theorem spec_DrawNetOut.calls (k : Nat) (A0 : Option Addr) (c0 : Nat) (l0 : List Int) (r1 : Int) (r2 : List (S41)) (r3 : Int) (w : World) (hr0 : Kd.C (Kd.int .u8) w A0 l0.length l0) (hc0 : l0.length ≤ c0) (h : spec_DrawNetOut.f k l0 = some (r1, r2, r3)) :
  Calls Try.prog 60 #[.slice A0 l0.length c0] w fun e w' => ∃ v1_ : Value, e = .returned (.tuple #[.agg #[.int .i64 r1, v1_], .int .i64 r3]) ∧ Kd.R k41 41 w' w.heap.size (fun _ => True) v1_ r2 ∧ Below w.heap.size w w' := by
 have hu25 := Try.underlying25
 have HR0 := Aside0.mk hr0
 have HC0 := Aside0.mk hc0
 clear hr0 hc0
 have HB := Aside0.mk (Below.refl w.heap.size w)
 have H : ((spec_l30Open.f l0).bind fun bt377 => ((spec_l30AnyNet.f k bt377.1 bt377.2).bind fun bt380 => ((spec_l30Node.f k bt377.1 bt380.2.2 bt380.1 bt380.2.1).bind fun bt386 => (some (bt380.1, bt380.2.1, bt386.1))))) = some (r1, r2, r3) := h
 clear h
 replace H := Option.bind_eq_some_iff.mp H
 obtain ⟨⟨t377, t378⟩, A20, H⟩ := H
 have A2 := Aside0.mk A20
 clear A20
 replace H := Option.bind_eq_some_iff.mp H
 obtain ⟨⟨t380, t381, t384⟩, A30, H⟩ := H
 have A3 := Aside0.mk A30
 clear A30
 replace H := Option.bind_eq_some_iff.mp H
 obtain ⟨⟨t386, t387⟩, A40, H⟩ := H
 have A4 := Aside0.mk A40
 clear A40
 simp only [Option.some.injEq, Prod.mk.injEq] at H
 obtain ⟨rfl, rfl, rfl⟩ := H
 go_enter Try.func60, Try.ntmps60
 try go_wp2_with (first | ((with_reducible refine gate_dst (N := 2) rfl ?_); refine box_event ?hg (N := 2) ?hd (cs := #[.int .i64 0, .slice none 0 0]) (t := 25) ?hr ?_; (case hd => rfl); (case hg => rfl); (case hr => first | (go_simp; done) | (go_simp; rfl)); intro gb376 hg w5 hbox hb; have n0_ := Aside0.mk (below_step (bl HB) hb); have n1_ := Aside0.mk (hbox); have n2_ := Aside0.mk ((by rw [hg]; exact (below_size (bl HB)) : w.heap.size ≤ gb376)); have n3_ := Aside0.mk ((by rw [hg]; exact (below_size (bl HB)) : w.heap.size ≤ gb376)); clear HB; have HB := n0_; have BK376 := n1_; have GW376 := n2_; have GE376 := n3_; clear n0_ n1_ n2_ n3_; clear hb hbox hg) | ((with_reducible refine gate_callee (f := 49) rfl ?_); refine goesL_ (some 7) rfl rfl Try.func49 (by kernel_rfl) rfl #[.slice A0 l0.length c0] rfl (by (try simp only [List.map_toArray, List.map_cons, List.map_nil]); first | done | rfl | (simp only [List.length_drop, List.length_take]; rfl)) ?_; (with_reducible refine (spec_l30Open.calls _ _ l0 t377 t378 w _ ?side1 ?side2 ?side3 A2.out).mono ?_); (case side1 => repeat (first | (with_reducible first | exact HB.out | apply below_alloc | apply pw_below_drewN | apply below_drew1 | refine below_set ?_ GE376.out) | exact HB.out)); (case side2 => exact HR0.out); (case side3 => exact HC0.out); rintro e w6 ⟨g379, rfl, hi, hb, hb2⟩; refine ⟨_, rfl, ?_⟩; have n0_ := Aside0.mk (blk_below (bk BK376) hb2); have n1_ := Aside0.mk (hb); have n2_ := Aside0.mk (hi); have n3_ := Aside0.mk (IsS99.ne_blk hi (blk_below (bk BK376) hb2) (by decide)); have n4_ := Aside0.mk (Ne.symm (IsS99.ne_blk hi (blk_below (bk BK376) hb2) (by decide))); clear BK376; clear HB; have BK376 := n0_; have HB := n1_; have HI379 := n2_; have NB379_376 := n3_; have NB376_379 := n4_; clear n0_ n1_ n2_ n3_ n4_; (try clear hb); (try clear hb2); (try clear hk); (try clear hi)) | ((with_reducible refine gate_callee (f := 50) rfl ?_); refine goesL_ (some 9) rfl rfl Try.func50 (by kernel_rfl) rfl #[.pointer (some ⟨g379, 0, none⟩)] rfl (by (try simp only [List.map_toArray, List.map_cons, List.map_nil]); first | done | rfl | (simp only [List.length_drop, List.length_take]; rfl)) ?_; (with_reducible refine (spec_l30AnyNet.calls k g379 t377 t378 t380 t381 t384 w _ ?side1 ?side2 A3.out).mono ?_); (case side1 => repeat (first | (with_reducible first | exact HI379.out | apply IsS99.alloc | apply IsS99.drewN | apply IsS99.drew | apply IsS99.set_1 | refine IsS99.far ?_ NB379_376.out _) | exact HI379.out)); (case side2 => repeat (first | (with_reducible first | exact HB.out | apply below_alloc | apply pw_below_drewN | apply below_drew1 | refine below_set ?_ (IsS99.ge HI379.out) | refine below_set ?_ GE376.out) | exact HB.out)); rintro e w7 ⟨v382, rfl, ho0, hi, hb, hk⟩; refine ⟨_, rfl, ?_⟩; have n0_ := Aside0.mk (KeepBut.blk hk (g' := gb376) (o := .cells #[.int .i64 0, .slice none 0 0] 25 (0, 0)) (bk BK376) NB376_379.out (by simp)); have n1_ := Aside0.mk (Kd.R_lower ho0 (below_size (by repeat (first | (with_reducible first | exact HB.out | apply below_alloc | apply pw_below_drewN | apply below_drew1 | refine below_set ?_ (IsS99.ge HI379.out) | refine below_set ?_ GE376.out) | exact HB.out)))); have n2_ := Aside0.mk (hb); have n3_ := Aside0.mk (hi); clear BK376; clear HB; clear HI379; have BK376 := n0_; have HO383 := n1_; have HB := n2_; have HI379 := n3_; clear n0_ n1_ n2_ n3_; (try clear hb); (try clear hb2); (try clear hk); (try clear hi); (try clear ho0)) | ((with_reducible refine gate_dst (N := 5) rfl ?_); refine box_event ?hg (N := 5) ?hd (cs := #[.int .i64 0, .slice none 0 0]) (t := 25) ?hr ?_; (case hd => rfl); (case hg => rfl); (case hr => first | (go_simp; done) | (go_simp; rfl)); intro gb385 hg w8 hbox hb; have n0_ := Aside0.mk (Kd.R_below (rk HO383) hb); have n1_ := Aside0.mk (blk_below (bk BK376) hb); have n2_ := Aside0.mk (IsS99.below (by repeat (first | (with_reducible first | exact HI379.out | apply IsS99.alloc | apply IsS99.drewN | apply IsS99.drew | apply IsS99.set_1 | refine IsS99.far ?_ NB379_376.out _) | exact HI379.out)) hb); have n3_ := Aside0.mk (below_step (by repeat (first | (with_reducible first | exact HB.out | apply below_alloc | apply pw_below_drewN | apply below_drew1 | refine below_set ?_ (IsS99.ge HI379.out) | refine below_set ?_ GE376.out) | exact HB.out)) hb); have n4_ := Aside0.mk (hbox); have n5_ := Aside0.mk ((by rw [hg]; exact (below_size (by repeat (first | (with_reducible first | exact HB.out | apply below_alloc | apply pw_below_drewN | apply below_drew1 | refine below_set ?_ (IsS99.ge HI379.out) | refine below_set ?_ GE376.out) | exact HB.out))) : w.heap.size ≤ gb385)); have n6_ := Aside0.mk ((by rw [hg]; exact (below_size (by repeat (first | (with_reducible first | exact HB.out | apply below_alloc | apply pw_below_drewN | apply below_drew1 | refine below_set ?_ (IsS99.ge HI379.out) | refine below_set ?_ GE376.out) | exact HB.out))) : w.heap.size ≤ gb385)); have n7_ := Aside0.mk ((by rw [hg]; exact Nat.ne_of_lt (blk_lt (bk BK376)) : gb376 ≠ gb385)); have n8_ := Aside0.mk ((by rw [hg]; exact Nat.ne_of_gt (blk_lt (bk BK376)) : gb385 ≠ gb376)); have n9_ := Aside0.mk ((by rw [hg]; exact Nat.ne_of_lt (IsS99.lt (show IsS99 w _ g379 t377 t384 from by repeat (first | (with_reducible first | exact HI379.out | apply IsS99.alloc | apply IsS99.drewN | apply IsS99.drew | apply IsS99.set_1 | refine IsS99.far ?_ NB379_376.out _) | exact HI379.out))) : g379 ≠ gb385)); have n10_ := Aside0.mk ((by rw [hg]; exact Nat.ne_of_gt (IsS99.lt (show IsS99 w _ g379 t377 t384 from by repeat (first | (with_reducible first | exact HI379.out | apply IsS99.alloc | apply IsS99.drewN | apply IsS99.drew | apply IsS99.set_1 | refine IsS99.far ?_ NB379_376.out _) | exact HI379.out))) : gb385 ≠ g379)); clear HO383; clear BK376; clear HI379; clear HB; have HO383 := n0_; have BK376 := n1_; have HI379 := n2_; have HB := n3_; have BK385 := n4_; have GW385 := n5_; have GE385 := n6_; have NB376_385 := n7_; have NB385_376 := n8_; have NB379_385 := n9_; have NB385_379 := n10_; clear n0_ n1_ n2_ n3_ n4_ n5_ n6_ n7_ n8_ n9_ n10_; clear hb hbox hg; have hnb9 := NB385_376.out; have hnc9 := NB376_385.out; have hnb10 := NB385_379.out; have hnc10 := NB379_385.out; have hcz11_0 : w8.cell? ⟨gb385, 0, none⟩ = some (.int .i64 0) := (blk_cell BK385.out 0).trans rfl; have hcz11_1 : w8.cell? ⟨gb385, 1, none⟩ = some (.slice none 0 0) := (blk_cell BK385.out 1).trans rfl; have hfz11_0 := blk_frozen BK385.out 0; have hfz11_1 := blk_frozen BK385.out 1; obtain ⟨Ao12, co12, eo12⟩ := Kd.R_slice HO383.out; subst eo12))
 have n0_ : Aside0 (Kd.R k41 41 ((w8.setCell ⟨gb385, 0, none⟩ (.int .i64 t380)).setCell ⟨gb385, 1, none⟩ (.slice Ao12 t381.length co12)) w.heap.size (fun _ => True) (.slice Ao12 t381.length co12) t381) := ⟨by (with_reducible repeat (first | apply Kd.R_alloc | apply Kd.R_drewN | apply Kd.R_drew)); exact Kd.R_mono (Kd.R_far (p := ⟨gb385, 1, none⟩) (Kd.R_far (p := ⟨gb385, 0, none⟩) (Kd.R_types HO383.out BK385.out (by decide)) (fun _ hk => hk.2) (.int .i64 t380)) (fun _ hk => hk.2) (.slice Ao12 t381.length co12)) (fun _ hk => trivial)⟩
 have n1_ : Aside0 (((w8.setCell ⟨gb385, 0, none⟩ (.int .i64 t380)).setCell ⟨gb385, 1, none⟩ (.slice Ao12 t381.length co12)).heap[gb376]? = some (.cells #[.int .i64 0, .slice none 0 0] 25 (0, 0))) := ⟨by (with_reducible repeat (first | refine blk_drewN ?_ _ | refine blk_drew ?_ | refine blk_alloc ?_ _)); refine blk_far ?_ NB376_385.out _; (with_reducible repeat (first | refine blk_drewN ?_ _ | refine blk_drew ?_ | refine blk_alloc ?_ _)); refine blk_far ?_ NB376_385.out _; (with_reducible repeat (first | refine blk_drewN ?_ _ | refine blk_drew ?_ | refine blk_alloc ?_ _)); exact BK376.out⟩
 have n2_ : Aside0 (((w8.setCell ⟨gb385, 0, none⟩ (.int .i64 t380)).setCell ⟨gb385, 1, none⟩ (.slice Ao12 t381.length co12)).heap[gb385]? = some (.cells #[.int .i64 t380, .slice Ao12 t381.length co12] 25 (0, 0))) := ⟨by (with_reducible repeat (first | refine blk_drewN ?_ _ | refine blk_drew ?_ | refine blk_alloc ?_ _)); refine blk_put (cs := #[.int .i64 t380, .slice none 0 0]) ?_ 1 _ rfl; (with_reducible repeat (first | refine blk_drewN ?_ _ | refine blk_drew ?_ | refine blk_alloc ?_ _)); refine blk_put (cs := #[.int .i64 0, .slice none 0 0]) ?_ 0 _ rfl; (with_reducible repeat (first | refine blk_drewN ?_ _ | refine blk_drew ?_ | refine blk_alloc ?_ _)); exact BK385.out⟩
 have n3_ : Aside0 (IsS99 w ((w8.setCell ⟨gb385, 0, none⟩ (.int .i64 t380)).setCell ⟨gb385, 1, none⟩ (.slice Ao12 t381.length co12)) g379 t377 t384) := ⟨by repeat (first | (with_reducible first | exact HI379.out | apply IsS99.alloc | apply IsS99.drewN | apply IsS99.drew | apply IsS99.set_1 | refine IsS99.far ?_ NB379_376.out _ | refine IsS99.far ?_ NB379_385.out _) | exact HI379.out)⟩
 have n4_ : Aside0 (Below w.heap.size w ((w8.setCell ⟨gb385, 0, none⟩ (.int .i64 t380)).setCell ⟨gb385, 1, none⟩ (.slice Ao12 t381.length co12))) := ⟨by repeat (first | (with_reducible first | exact HB.out | apply below_alloc | apply pw_below_drewN | apply below_drew1 | refine below_set ?_ (IsS99.ge HI379.out) | refine below_set ?_ GE376.out | refine below_set ?_ GE385.out) | exact HB.out)⟩
 (try clear HO383)
 (try clear BK376)
 (try clear BK385)
 (try clear HI379)
 (try clear HB)
 generalize ((w8.setCell ⟨gb385, 0, none⟩ (.int .i64 t380)).setCell ⟨gb385, 1, none⟩ (.slice Ao12 t381.length co12)) = w13 at n0_ n1_ n2_ n3_ n4_ ⊢
 have HO383 := n0_
 have BK376 := n1_
 have BK385 := n2_
 have HI379 := n3_
 have HB := n4_
 clear n0_ n1_ n2_ n3_ n4_
 have n0_ := Aside0.mk (Kd.R_drew HO383.out)
 have n1_ := Aside0.mk (blk_drew BK376.out)
 have n2_ := Aside0.mk (blk_drew BK385.out)
 have n3_ := Aside0.mk (IsS99.drew HI379.out)
 have n4_ := Aside0.mk (below_drew1 HB.out)
 clear HO383
 clear BK376
 clear BK385
 clear HI379
 clear HB
 have HO383 := n0_
 have BK376 := n1_
 have BK385 := n2_
 have HI379 := n3_
 have HB := n4_
 clear n0_ n1_ n2_ n3_ n4_
 refine start_ (n := 6) (S := fun w' => w'.cell? ⟨gb385, 0, none⟩ = some (.int .i64 t380) ∧ w'.cell? ⟨gb385, 1, none⟩ = some (.slice Ao12 t381.length co12)) (ds := []) #[false, false, false, false, false, false] (by kernel_rfl) rfl (by kernel_rfl) ⟨(blk_cell BK385.out 0).trans rfl, (blk_cell BK385.out 1).trans rfl⟩ (fun hHeld => ?_)
 generalize w13.drew = w14 at HO383 BK376 BK385 HI379 HB hHeld ⊢
 refine pure_ (i := 1) (N := some 11) (v := ?_) (a' := ?_) #[false, true, false, false, false, false] rfl rfl (by kernel_rfl) (fun _ _ _ h => h) (Or.inl ⟨by rfl, ?_⟩) ?_ ?_
 rotate_left
 ·intro w'
  go_simp
  with_reducible rfl
 rotate_left
 ·simp only [Act.put, sA, sB, sC, i64_w, i32_w]
  rfl
 refine take_ (i := 0) (N := some 10) (v := ?_) (a' := ?_) #[true, true, false, false, false, false] rfl rfl (by kernel_rfl) (fun _ _ _ h => h) (Or.inl ⟨by rfl, ?_⟩) hHeld ?_ ?_
 rotate_left
 ·rintro w' ⟨s0, s1⟩
  go_simp
  with_reducible rfl
 rotate_left
 ·simp only [Act.put, sA, sB, sC, i64_w, i32_w]
  rfl
 refine take_ (i := 2) (N := some 12) (v := ?_) (a' := ?_) #[true, true, true, false, false, false] rfl rfl (by kernel_rfl) (fun _ _ _ h => h) (Or.inl ⟨by rfl, ?_⟩) hHeld ?_ ?_
 rotate_left
 ·rintro w' ⟨s0, s1⟩
  go_simp
  with_reducible rfl
 rotate_left
 ·simp only [Act.put, sA, sB, sC, i64_w, i32_w]
  rfl
 refine one_ (i := 3) (N := some 13) #[true, true, true, true, false, false] rfl rfl (by kernel_rfl) (by decide) (fun K hK => ?_)
 refine goes_ Try.func71 (by kernel_rfl) rfl #[.pointer (some ⟨g379, 0, none⟩), .agg #[.int .i64 t380, .slice Ao12 t381.length co12]] (by rfl) rfl rfl (by (try simp only [List.map_toArray, List.map_cons, List.map_nil]); first | done | rfl | (simp only [List.length_drop, List.length_take]; rfl)) ?_
 with_reducible refine (spec_l30Node.calls k g379 t377 t384 t380 _ _ t381 t386 t387 w _ ?side1 ?side2 ?side3 ?side4 A4.out).mono ?_
 (case side1 => repeat (first | (with_reducible first | exact HI379.out | apply IsS99.alloc | apply IsS99.drewN | apply IsS99.drew | apply IsS99.set_1 | refine IsS99.far ?_ NB379_376.out _ | refine IsS99.far ?_ NB379_385.out _) | exact HI379.out))
 (case side2 => repeat (first | (with_reducible first | exact HB.out | apply below_alloc | apply pw_below_drewN | apply below_drew1 | refine below_set ?_ (IsS99.ge HI379.out) | refine below_set ?_ GE376.out | refine below_set ?_ GE385.out) | exact HB.out))
 (case side3 => exact Kd.C_foot_own (IsS99.apart (show IsS99 w _ g379 t377 t384 from by repeat (first | (with_reducible first | exact HI379.out | apply IsS99.alloc | apply IsS99.drewN | apply IsS99.drew | apply IsS99.set_1 | refine IsS99.far ?_ NB379_376.out _ | refine IsS99.far ?_ NB379_385.out _) | exact HI379.out)) (rk HO383) (by decide)) (fun _ h_ => h_.2))
 (case side4 => exact (Kd.R_reads' HO383.out).2.1)
 rintro e w15 ⟨rfl, hi, hb, hk⟩
 refine ⟨_, rfl, ?_⟩
 have n0_ := Aside0.mk (KeepBut.blk hk (g' := gb376) (o := .cells #[.int .i64 0, .slice none 0 0] 25 (0, 0)) (bk BK376) NB376_379.out (by simp))
 have n1_ := Aside0.mk (Kd.R_mono (Kd.R_keep (IsS99.apart (show IsS99 w _ g379 t377 t384 from by repeat (first | (with_reducible first | exact HI379.out | apply IsS99.alloc | apply IsS99.drewN | apply IsS99.drew | apply IsS99.set_1 | refine IsS99.far ?_ NB379_376.out _ | refine IsS99.far ?_ NB379_385.out _) | exact HI379.out)) (rk HO383) (by decide)) hk (fun _ h => h.2)) (fun _ h => h.1))
 have n2_ := Aside0.mk (KeepBut.blk hk (g' := gb385) (o := .cells #[.int .i64 t380, .slice Ao12 t381.length co12] 25 (0, 0)) (bk BK385) NB385_379.out (by simp))
 have n3_ := Aside0.mk (hb)
 have n4_ := Aside0.mk (hi)
 clear BK376
 clear HO383
 clear BK385
 clear HB
 clear HI379
 have BK376 := n0_
 have HO383 := n1_
 have BK385 := n2_
 have HB := n3_
 have HI379 := n4_
 clear n0_ n1_ n2_ n3_ n4_
 (try clear hb)
 (try clear hb2)
 (try clear hk)
 (try clear hi)
 refine hK.out _ _ ⟨(blk_cell BK385.out 0).trans rfl, (blk_cell BK385.out 1).trans rfl⟩ (fun hHeld => ?_)
 clear hK K
 refine norm_ (a' := ?_) ?_ ?_
 rotate_left
 ·show Act.put _ (some 13) _ = _
  simp only [Act.put, sA, sB, sC, i64_w, i32_w]
  rfl
 refine one_ (i := 4) (N := none) #[true, true, true, true, true, false] rfl rfl (by kernel_rfl) (by decide) (fun K hK => ?_)
 have hs16 : w15.cell? ⟨gb376, 0, none⟩ = some (.int .i64 0) := (blk_cell BK376.out 0).trans rfl
 have hfs16 := blk_frozen BK376.out 0
 have hns16_1 := NB385_376.out
 have hms16_1 := NB376_385.out
 have hs17 : w15.cell? ⟨gb376, 1, none⟩ = some (.slice none 0 0) := (blk_cell BK376.out 1).trans rfl
 have hfs17 := blk_frozen BK376.out 1
 have hns17_1 := NB385_376.out
 have hms17_1 := NB376_385.out
 refine skip_ (w1 := ?_) (by rfl) rfl ?_ ?_
 rotate_left
 ·go_simp
  rfl
 refine hK.out _ _ ⟨((cell_far (p := ⟨gb376, _, none⟩) NB385_376.out _).trans (((cell_far (p := ⟨gb376, _, none⟩) NB385_376.out _).trans (hHeld.1)))), ((cell_far (p := ⟨gb376, _, none⟩) NB385_376.out _).trans (((cell_far (p := ⟨gb376, _, none⟩) NB385_376.out _).trans (hHeld.2))))⟩ (fun hHeld => ?_)
 clear hK K
 refine pure_ (i := 5) (N := some 3) (v := ?_) (a' := ?_) #[true, true, true, true, true, true] rfl rfl (by kernel_rfl) (fun _ _ _ h => h) (Or.inl ⟨by rfl, ?_⟩) ?_ ?_
 rotate_left
 ·intro w'
  go_simp
  with_reducible rfl
 rotate_left
 ·simp only [Act.put, sA, sB, sC, i64_w, i32_w]
  rfl
 refine done_ (by kernel_rfl) ?_
 try go_wp2
 refine bodyPost_ret (results_ct rfl _ _ gb376 25 #[.int .i64 t380, .slice Ao12 t381.length co12] (0, 0) _ rfl (by (with_reducible repeat (first | refine blk_drewN ?_ _ | refine blk_drew ?_ | refine blk_alloc ?_ _)); refine blk_put (cs := #[.int .i64 t380, .slice none 0 0]) ?_ 1 _ rfl; (with_reducible repeat (first | refine blk_drewN ?_ _ | refine blk_drew ?_ | refine blk_alloc ?_ _)); refine blk_put (cs := #[.int .i64 0, .slice none 0 0]) ?_ 0 _ rfl; (with_reducible repeat (first | refine blk_drewN ?_ _ | refine blk_drew ?_ | refine blk_alloc ?_ _)); exact BK376.out) Try.underlying25 rfl (by kernel_rfl)) rfl ?_
 exact ⟨_, by first | rfl | (simp [errW_none, errW_some] <;> rfl) | (simp [*, errW_none, errW_some] <;> rfl), by (with_reducible repeat (first | apply Kd.R_alloc | apply Kd.R_drewN | apply Kd.R_drew)); exact Kd.R_mono (Kd.R_far (p := ⟨gb376, 1, none⟩) (Kd.R_far (p := ⟨gb376, 0, none⟩) (Kd.R_types HO383.out BK376.out (by decide)) (fun _ hk => hk.2) (.int .i64 t380)) (fun _ hk => hk.2) (.slice Ao12 t381.length co12)) (fun _ hk => trivial), by repeat (first | (with_reducible first | exact HB.out | apply below_alloc | apply pw_below_drewN | apply below_drew1 | refine below_set ?_ (IsS99.ge HI379.out) | refine below_set ?_ GE376.out | refine below_set ?_ GE385.out) | exact HB.out)⟩

end Go.Proofs.Ytgickejeakmenaa.F
