-- Printed by wip/px/px.py of this claim's repository (the kit's printer, extended there). Lean checks it.
import Derived.Test.YtgickejeakmenaaFKinds
import Derived.Test.YtgickejeakmenaaFspecl30Open
import Derived.Test.YtgickejeakmenaaFspecl30AnyNet
import Derived.Test.YtgickejeakmenaaFspecl30Seen
namespace Go.Proofs.Ytgickejeakmenaa.F
open Go.RowKit Go.Proofs.YtgickejeakmenaaW.PrintWords Go.Proofs.YtgickejeakmenaaW.PrintLast Go.Proofs.YtgickejeakmenaaW.PrintMore
attribute [local go_sem] max2_int min2_int max_two min_two max_three min_three max_four min_four   -- for this text's walks alone
set_option linter.unusedVariables false
set_option linter.unusedSimpArgs false

/-! ### spec_DrawSeenBest: function 36 -/
def spec_DrawSeenBest.f (k : Nat) (l0 : List Int) : Option (Int × (List (S41)) × (List (List Int))) := (spec_l30Open.f l0).bind fun bt201 => ((spec_l30AnyNet.f k bt201.1 bt201.2).bind fun bt204 => ((spec_l30Seen.f k bt201.1 bt204.2.2 bt204.1 bt204.2.1).bind fun bt210 => (some (bt204.1, bt204.2.1, bt210.1))))
theorem spec_DrawSeenBest.mono : ∀ a0 k, LeO (spec_DrawSeenBest.f k a0) (spec_DrawSeenBest.f (k + 1) a0) := by
 intro a0 k
 unfold spec_DrawSeenBest.f
 repeat' first
   | (with_reducible exact spec_l30AnyNet.mono _ _ _)
   | (with_reducible exact spec_l30Seen.mono _ _ _ _ _)
   | (with_reducible exact LeO.refl _)
   | (with_reducible exact LeO.none _)
   | (with_reducible refine LeO.ite ?_ ?_)
   | (with_reducible refine LeO.bind ?_ (fun _ => ?_))
   | exact spec_l30AnyNet.mono _ _ _
   | exact spec_l30Seen.mono _ _ _ _ _
   | exact LeO.none _
   | refine LeO.ite ?_ ?_
   | refine LeO.bind ?_ (fun _ => ?_)
set_option maxHeartbeats 8000000 in
set_option maxRecDepth 100000 in
theorem spec_DrawSeenBest.calls (k : Nat) (A0 : Option Addr) (c0 : Nat) (l0 : List Int) (r1 : Int) (r2 : List (S41)) (r3 : List (List Int)) (w : World) (hr0 : Kd.C (Kd.int .u8) w A0 l0.length l0) (hc0 : l0.length ≤ c0) (h : spec_DrawSeenBest.f k l0 = some (r1, r2, r3)) :
  Calls Try.prog 36 #[.slice A0 l0.length c0] w fun e w' => ∃ v1_ v2_ : Value, e = .returned (.tuple #[.agg #[.int .i64 r1, v1_], v2_]) ∧ Kd.R k41 41 w' w.heap.size (fun _ => True) v1_ r2 ∧ Kd.S (Kd.slice 3 (Kd.int .i64)) 26 w' w.heap.size (fun _ => True) v2_ r3 ∧ Below w.heap.size w w' := by
 have hu25 := Try.underlying25
 have HR0 := ak hr0
 have HC0 := ak hc0
 clear hr0 hc0
 have HB := ak (Below.refl w.heap.size w)
 have H : ((spec_l30Open.f l0).bind fun bt201 => ((spec_l30AnyNet.f k bt201.1 bt201.2).bind fun bt204 => ((spec_l30Seen.f k bt201.1 bt204.2.2 bt204.1 bt204.2.1).bind fun bt210 => (some (bt204.1, bt204.2.1, bt210.1))))) = some (r1, r2, r3) := h
 clear h
 replace H := Option.bind_eq_some_iff.mp H
 obtain ⟨⟨t201, t202⟩, A20, H⟩ := H
 have A2 := ak A20
 clear A20
 replace H := Option.bind_eq_some_iff.mp H
 obtain ⟨⟨t204, t205, t208⟩, A30, H⟩ := H
 have A3 := ak A30
 clear A30
 replace H := Option.bind_eq_some_iff.mp H
 obtain ⟨⟨t210, t213⟩, A40, H⟩ := H
 have A4 := ak A40
 clear A40
 simp only [Option.some.injEq, Prod.mk.injEq] at H
 obtain ⟨rfl, rfl, rfl⟩ := H
 go_enter Try.func36, Try.ntmps36
 try go_wp2_with (first | ((with_reducible refine gate_dst (N := 2) rfl ?_); refine box_event ?hg (N := 2) ?hd (cs := #[.int .i64 0, .slice none 0 0]) (t := 25) ?hr ?_; (case hd => rfl); (case hg => rfl); (case hr => first | (go_simp; done) | (go_simp; rfl)); intro gb200 hg w5 hbox hb; have BK200 := ak (hbox); have GW200 := ak ((by rw [hg]; exact (below_size (bl HB)) : w.heap.size ≤ gb200)); have GE200 := ak ((by rw [hg]; exact (below_size (bl HB)) : w.heap.size ≤ gb200)); replace HB := ak (below_step (bl HB) hb); clear hb hbox hg) | ((with_reducible refine gate_callee (f := 49) rfl ?_); refine goesL_ (some 7) rfl rfl Try.func49 (by kernel_rfl) rfl #[.slice A0 l0.length c0] rfl (by (try simp only [List.map_toArray, List.map_cons, List.map_nil]); first | done | rfl | (simp only [List.length_drop, List.length_take]; rfl)) ?_; (with_reducible refine (spec_l30Open.calls _ _ l0 t201 t202 w _ ?side1 ?side2 ?side3 A2.out).mono ?_); (case side1 => repeat (first | (with_reducible first | exact HB.out | apply below_alloc | apply pw_below_drewN | apply below_drew1 | refine below_set ?_ GE200.out) | exact HB.out)); (case side2 => exact HR0.out); (case side3 => exact HC0.out); rintro e w6 ⟨g203, rfl, hi, hb, hb2⟩; refine ⟨_, rfl, ?_⟩; replace HB := ak (hb); have HI203 := ak (hi); have NB203_200 := ak (IsS99.ne_blk hi (blk_below (bk BK200) hb2) (by decide)); have NB200_203 := ak (Ne.symm (IsS99.ne_blk hi (blk_below (bk BK200) hb2) (by decide))); replace BK200 := ak (blk_below (bk BK200) hb2); (try clear hb); (try clear hb2); (try clear hk); (try clear hi)) | ((with_reducible refine gate_callee (f := 50) rfl ?_); refine goesL_ (some 9) rfl rfl Try.func50 (by kernel_rfl) rfl #[.pointer (some ⟨g203, 0, none⟩)] rfl (by (try simp only [List.map_toArray, List.map_cons, List.map_nil]); first | done | rfl | (simp only [List.length_drop, List.length_take]; rfl)) ?_; (with_reducible refine (spec_l30AnyNet.calls k g203 t201 t202 t204 t205 t208 w _ ?side1 ?side2 A3.out).mono ?_); (case side1 => repeat (first | (with_reducible first | exact HI203.out | apply IsS99.alloc | apply IsS99.drewN | apply IsS99.drew | apply IsS99.set_1 | refine IsS99.far ?_ NB203_200.out _) | exact HI203.out)); (case side2 => repeat (first | (with_reducible first | exact HB.out | apply below_alloc | apply pw_below_drewN | apply below_drew1 | refine below_set ?_ (IsS99.ge HI203.out) | refine below_set ?_ GE200.out) | exact HB.out)); rintro e w7 ⟨v206, rfl, ho0, hi, hb, hk⟩; refine ⟨_, rfl, ?_⟩; replace BK200 := ak (KeepBut.blk hk (g' := gb200) (o := .cells #[.int .i64 0, .slice none 0 0] 25 (0, 0)) (bk BK200) NB200_203.out (by simp)); have HO207 := ak (Kd.R_lower ho0 (below_size (by repeat (first | (with_reducible first | exact HB.out | apply below_alloc | apply pw_below_drewN | apply below_drew1 | refine below_set ?_ (IsS99.ge HI203.out) | refine below_set ?_ GE200.out) | exact HB.out)))); replace HB := ak (hb); replace HI203 := ak (hi); (try clear hb); (try clear hb2); (try clear hk); (try clear hi); (try clear ho0)) | ((with_reducible refine gate_dst (N := 5) rfl ?_); refine box_event ?hg (N := 5) ?hd (cs := #[.int .i64 0, .slice none 0 0]) (t := 25) ?hr ?_; (case hd => rfl); (case hg => rfl); (case hr => first | (go_simp; done) | (go_simp; rfl)); intro gb209 hg w8 hbox hb; replace HO207 := ak (Kd.R_below (rk HO207) hb); have BK209 := ak (hbox); have GW209 := ak ((by rw [hg]; exact (below_size (by repeat (first | (with_reducible first | exact HB.out | apply below_alloc | apply pw_below_drewN | apply below_drew1 | refine below_set ?_ (IsS99.ge HI203.out) | refine below_set ?_ GE200.out) | exact HB.out))) : w.heap.size ≤ gb209)); have GE209 := ak ((by rw [hg]; exact (below_size (by repeat (first | (with_reducible first | exact HB.out | apply below_alloc | apply pw_below_drewN | apply below_drew1 | refine below_set ?_ (IsS99.ge HI203.out) | refine below_set ?_ GE200.out) | exact HB.out))) : w.heap.size ≤ gb209)); replace HB := ak (below_step (by repeat (first | (with_reducible first | exact HB.out | apply below_alloc | apply pw_below_drewN | apply below_drew1 | refine below_set ?_ (IsS99.ge HI203.out) | refine below_set ?_ GE200.out) | exact HB.out)) hb); have NB200_209 := ak ((by rw [hg]; exact Nat.ne_of_lt (blk_lt (bk BK200)) : gb200 ≠ gb209)); have NB209_200 := ak ((by rw [hg]; exact Nat.ne_of_gt (blk_lt (bk BK200)) : gb209 ≠ gb200)); replace BK200 := ak (blk_below (bk BK200) hb); have NB203_209 := ak ((by rw [hg]; exact Nat.ne_of_lt (IsS99.lt (show IsS99 w _ g203 t201 t208 from by repeat (first | (with_reducible first | exact HI203.out | apply IsS99.alloc | apply IsS99.drewN | apply IsS99.drew | apply IsS99.set_1 | refine IsS99.far ?_ NB203_200.out _) | exact HI203.out))) : g203 ≠ gb209)); have NB209_203 := ak ((by rw [hg]; exact Nat.ne_of_gt (IsS99.lt (show IsS99 w _ g203 t201 t208 from by repeat (first | (with_reducible first | exact HI203.out | apply IsS99.alloc | apply IsS99.drewN | apply IsS99.drew | apply IsS99.set_1 | refine IsS99.far ?_ NB203_200.out _) | exact HI203.out))) : gb209 ≠ g203)); replace HI203 := ak (IsS99.below (by repeat (first | (with_reducible first | exact HI203.out | apply IsS99.alloc | apply IsS99.drewN | apply IsS99.drew | apply IsS99.set_1 | refine IsS99.far ?_ NB203_200.out _) | exact HI203.out)) hb); clear hb hbox hg; have hnb9 := NB209_200.out; have hnc9 := NB200_209.out; have hnb10 := NB209_203.out; have hnc10 := NB203_209.out; have hcz11_0 := bc w8 BK209 0 (.int .i64 0) rfl; have hcz11_1 := bc w8 BK209 1 (.slice none 0 0) rfl; have hfz11_0 := fz BK209 0; have hfz11_1 := fz BK209 1; obtain ⟨Ao12, co12, eo12⟩ := Kd.R_slice HO207.out; subst eo12))
 have n0_ : Aside0 (Kd.R k41 41 ((w8.setCell ⟨gb209, 0, none⟩ (.int .i64 t204)).setCell ⟨gb209, 1, none⟩ (.slice Ao12 t205.length co12)) w.heap.size (fun _ => True) (.slice Ao12 t205.length co12) t205) := ⟨by (with_reducible repeat (first | apply Kd.R_alloc | apply Kd.R_drewN | apply Kd.R_drew)); exact Kd.R_mono (Kd.R_far (p := ⟨gb209, 1, none⟩) (Kd.R_far (p := ⟨gb209, 0, none⟩) (Kd.R_types HO207.out BK209.out (by decide)) (fun _ hk => hk.2) (.int .i64 t204)) (fun _ hk => hk.2) (.slice Ao12 t205.length co12)) (fun _ hk => trivial)⟩
 have n1_ : Aside0 (((w8.setCell ⟨gb209, 0, none⟩ (.int .i64 t204)).setCell ⟨gb209, 1, none⟩ (.slice Ao12 t205.length co12)).heap[gb200]? = some (.cells #[.int .i64 0, .slice none 0 0] 25 (0, 0))) := ⟨by (with_reducible repeat (first | refine blk_drewN ?_ _ | refine blk_drew ?_ | refine blk_alloc ?_ _)); refine blk_far ?_ NB200_209.out _; refine blk_far ?_ NB200_209.out _; (with_reducible repeat (first | refine blk_drewN ?_ _ | refine blk_drew ?_ | refine blk_alloc ?_ _)); exact BK200.out⟩
 have n2_ : Aside0 (((w8.setCell ⟨gb209, 0, none⟩ (.int .i64 t204)).setCell ⟨gb209, 1, none⟩ (.slice Ao12 t205.length co12)).heap[gb209]? = some (.cells #[.int .i64 t204, .slice Ao12 t205.length co12] 25 (0, 0))) := ⟨by (with_reducible repeat (first | refine blk_drewN ?_ _ | refine blk_drew ?_ | refine blk_alloc ?_ _)); refine blk_put (cs := #[.int .i64 t204, .slice none 0 0]) ?_ 1 _ rfl; refine blk_put (cs := #[.int .i64 0, .slice none 0 0]) ?_ 0 _ rfl; (with_reducible repeat (first | refine blk_drewN ?_ _ | refine blk_drew ?_ | refine blk_alloc ?_ _)); exact BK209.out⟩
 have n3_ : Aside0 (IsS99 w ((w8.setCell ⟨gb209, 0, none⟩ (.int .i64 t204)).setCell ⟨gb209, 1, none⟩ (.slice Ao12 t205.length co12)) g203 t201 t208) := ⟨by repeat (first | (with_reducible first | exact HI203.out | apply IsS99.alloc | apply IsS99.drewN | apply IsS99.drew | apply IsS99.set_1 | refine IsS99.far ?_ NB203_200.out _ | refine IsS99.far ?_ NB203_209.out _) | exact HI203.out)⟩
 have n4_ : Aside0 (Below w.heap.size w ((w8.setCell ⟨gb209, 0, none⟩ (.int .i64 t204)).setCell ⟨gb209, 1, none⟩ (.slice Ao12 t205.length co12))) := ⟨by repeat (first | (with_reducible first | exact HB.out | apply below_alloc | apply pw_below_drewN | apply below_drew1 | refine below_set ?_ (IsS99.ge HI203.out) | refine below_set ?_ GE200.out | refine below_set ?_ GE209.out) | exact HB.out)⟩
 (try clear HO207)
 (try clear BK200)
 (try clear BK209)
 (try clear HI203)
 (try clear HB)
 generalize ((w8.setCell ⟨gb209, 0, none⟩ (.int .i64 t204)).setCell ⟨gb209, 1, none⟩ (.slice Ao12 t205.length co12)) = w13 at n0_ n1_ n2_ n3_ n4_ ⊢
 have HO207 := n0_
 have BK200 := n1_
 have BK209 := n2_
 have HI203 := n3_
 have HB := n4_
 clear n0_ n1_ n2_ n3_ n4_
 replace HO207 := ak (Kd.R_drew HO207.out)
 replace BK200 := ak (blk_drew BK200.out)
 replace BK209 := ak (blk_drew BK209.out)
 replace HI203 := ak (IsS99.drew HI203.out)
 replace HB := ak (below_drew1 HB.out)
 refine start_ (n := 6) (S := fun w' => w'.cell? ⟨gb209, 0, none⟩ = some (.int .i64 t204) ∧ w'.cell? ⟨gb209, 1, none⟩ = some (.slice Ao12 t205.length co12)) (ds := []) #[false, false, false, false, false, false] (by kernel_rfl) rfl (by kernel_rfl) ⟨(blk_cell BK209.out 0).trans rfl, (blk_cell BK209.out 1).trans rfl⟩ (fun hHeld => ?_)
 generalize w13.drew = w14 at HO207 BK200 BK209 HI203 HB hHeld ⊢
 refine pure_ (i := 1) (N := some 11) (v := ?_) (a' := ?_) #[false, true, false, false, false, false] rfl rfl (by kernel_rfl) (fun _ _ _ h => h) (Or.inl ⟨by rfl, ?_⟩) ?_ ?_
 rotate_left
 ·intro w'
  go_simp
  with_reducible rfl
 rotate_left
 ·simp only [SX]
  rfl
 refine take_ (i := 0) (N := some 10) (v := ?_) (a' := ?_) #[true, true, false, false, false, false] rfl rfl (by kernel_rfl) (fun _ _ _ h => h) (Or.inl ⟨by rfl, ?_⟩) hHeld ?_ ?_
 rotate_left
 ·rintro w' ⟨s0, s1⟩
  go_simp
  with_reducible rfl
 rotate_left
 ·simp only [SX]
  rfl
 refine take_ (i := 2) (N := some 12) (v := ?_) (a' := ?_) #[true, true, true, false, false, false] rfl rfl (by kernel_rfl) (fun _ _ _ h => h) (Or.inl ⟨by rfl, ?_⟩) hHeld ?_ ?_
 rotate_left
 ·rintro w' ⟨s0, s1⟩
  go_simp
  with_reducible rfl
 rotate_left
 ·simp only [SX]
  rfl
 refine one_ (i := 3) (N := some 13) #[true, true, true, true, false, false] rfl rfl (by kernel_rfl) (by decide) (fun K hK => ?_)
 refine goes_ Try.func85 (by kernel_rfl) rfl #[.pointer (some ⟨g203, 0, none⟩), .agg #[.int .i64 t204, .slice Ao12 t205.length co12]] (by rfl) rfl rfl (by (try simp only [List.map_toArray, List.map_cons, List.map_nil]); first | done | rfl | (simp only [List.length_drop, List.length_take]; rfl)) ?_
 with_reducible refine (spec_l30Seen.calls k g203 t201 t208 t204 _ _ t205 t210 t213 w _ ?side1 ?side2 ?side3 ?side4 A4.out).mono ?_
 (case side1 => repeat (first | (with_reducible first | exact HI203.out | apply IsS99.alloc | apply IsS99.drewN | apply IsS99.drew | apply IsS99.set_1 | refine IsS99.far ?_ NB203_200.out _ | refine IsS99.far ?_ NB203_209.out _) | exact HI203.out))
 (case side2 => repeat (first | (with_reducible first | exact HB.out | apply below_alloc | apply pw_below_drewN | apply below_drew1 | refine below_set ?_ (IsS99.ge HI203.out) | refine below_set ?_ GE200.out | refine below_set ?_ GE209.out) | exact HB.out))
 (case side3 => exact Kd.C_foot_own (IsS99.apart (show IsS99 w _ g203 t201 t208 from by repeat (first | (with_reducible first | exact HI203.out | apply IsS99.alloc | apply IsS99.drewN | apply IsS99.drew | apply IsS99.set_1 | refine IsS99.far ?_ NB203_200.out _ | refine IsS99.far ?_ NB203_209.out _) | exact HI203.out)) (rk HO207) (by decide)) (fun _ h_ => h_.2))
 (case side4 => exact (Kd.R_reads' HO207.out).2.1)
 rintro e w15 ⟨v211, rfl, ho0, hi, hb, hk⟩
 refine ⟨_, rfl, ?_⟩
 replace BK200 := ak (KeepBut.blk hk (g' := gb200) (o := .cells #[.int .i64 0, .slice none 0 0] 25 (0, 0)) (bk BK200) NB200_203.out (by simp))
 replace HO207 := ak (Kd.R_mono (Kd.R_keep (IsS99.apart (show IsS99 w _ g203 t201 t208 from by repeat (first | (with_reducible first | exact HI203.out | apply IsS99.alloc | apply IsS99.drewN | apply IsS99.drew | apply IsS99.set_1 | refine IsS99.far ?_ NB203_200.out _ | refine IsS99.far ?_ NB203_209.out _) | exact HI203.out)) (rk HO207) (by decide)) hk (fun _ h => h.2)) (fun _ h => h.1))
 replace BK209 := ak (KeepBut.blk hk (g' := gb209) (o := .cells #[.int .i64 t204, .slice Ao12 t205.length co12] 25 (0, 0)) (bk BK209) NB209_203.out (by simp))
 have HO212 := ak (Kd.S_lower ho0 (below_size (by repeat (first | (with_reducible first | exact HB.out | apply below_alloc | apply pw_below_drewN | apply below_drew1 | refine below_set ?_ (IsS99.ge HI203.out) | refine below_set ?_ GE200.out | refine below_set ?_ GE209.out) | exact HB.out))))
 replace HB := ak (hb)
 replace HI203 := ak (hi)
 (try clear hb)
 (try clear hb2)
 (try clear hk)
 (try clear hi)
 (try clear ho0)
 refine hK.out _ _ ⟨(blk_cell BK209.out 0).trans rfl, (blk_cell BK209.out 1).trans rfl⟩ (fun hHeld => ?_)
 clear hK K
 refine norm_ (a' := ?_) ?_ ?_
 rotate_left
 ·show Act.put _ (some 13) _ = _
  simp only [SX]
  rfl
 refine one_ (i := 4) (N := none) #[true, true, true, true, true, false] rfl rfl (by kernel_rfl) (by decide) (fun K hK => ?_)
 have hs16 : w15.cell? ⟨gb200, 0, none⟩ = some (.int .i64 0) := (blk_cell BK200.out 0).trans rfl
 have hfs16 := blk_frozen BK200.out 0
 have hns16_1 := NB209_200.out
 have hms16_1 := NB200_209.out
 have hs17 : w15.cell? ⟨gb200, 1, none⟩ = some (.slice none 0 0) := (blk_cell BK200.out 1).trans rfl
 have hfs17 := blk_frozen BK200.out 1
 have hns17_1 := NB209_200.out
 have hms17_1 := NB200_209.out
 refine skip_ (w1 := ?_) (by rfl) rfl ?_ ?_
 rotate_left
 ·go_simp
  rfl
 refine hK.out _ _ ⟨((cell_far (p := ⟨gb200, _, none⟩) NB209_200.out _).trans (((cell_far (p := ⟨gb200, _, none⟩) NB209_200.out _).trans (hHeld.1)))), ((cell_far (p := ⟨gb200, _, none⟩) NB209_200.out _).trans (((cell_far (p := ⟨gb200, _, none⟩) NB209_200.out _).trans (hHeld.2))))⟩ (fun hHeld => ?_)
 clear hK K
 refine pure_ (i := 5) (N := some 3) (v := ?_) (a' := ?_) #[true, true, true, true, true, true] rfl rfl (by kernel_rfl) (fun _ _ _ h => h) (Or.inl ⟨by rfl, ?_⟩) ?_ ?_
 rotate_left
 ·intro w'
  go_simp
  with_reducible rfl
 rotate_left
 ·simp only [SX]
  rfl
 refine done_ (by kernel_rfl) ?_
 try go_wp2
 refine bodyPost_ret (results_ct rfl _ _ gb200 25 #[.int .i64 t204, .slice Ao12 t205.length co12] (0, 0) _ rfl (by (with_reducible repeat (first | refine blk_drewN ?_ _ | refine blk_drew ?_ | refine blk_alloc ?_ _)); refine blk_put (cs := #[.int .i64 t204, .slice none 0 0]) ?_ 1 _ rfl; refine blk_put (cs := #[.int .i64 0, .slice none 0 0]) ?_ 0 _ rfl; (with_reducible repeat (first | refine blk_drewN ?_ _ | refine blk_drew ?_ | refine blk_alloc ?_ _)); exact BK200.out) Try.underlying25 rfl (by kernel_rfl)) rfl ?_
 exact ⟨_, _, by first | rfl | (simp [errW_none, errW_some] <;> rfl) | (simp [*, errW_none, errW_some] <;> rfl), by (with_reducible repeat (first | apply Kd.R_alloc | apply Kd.R_drewN | apply Kd.R_drew)); exact Kd.R_mono (Kd.R_far (p := ⟨gb200, 1, none⟩) (Kd.R_far (p := ⟨gb200, 0, none⟩) (Kd.R_types HO207.out BK200.out (by decide)) (fun _ hk => hk.2) (.int .i64 t204)) (fun _ hk => hk.2) (.slice Ao12 t205.length co12)) (fun _ hk => trivial), by (with_reducible repeat (first | apply Kd.S_alloc | apply Kd.S_drewN | apply Kd.S_drew)); exact Kd.S_mono (Kd.S_far (p := ⟨gb200, 1, none⟩) (Kd.S_far (p := ⟨gb200, 0, none⟩) (Kd.S_types HO212.out BK200.out (by decide)) (fun _ hk => hk.2) (.int .i64 t204)) (fun _ hk => hk.2) (.slice Ao12 t205.length co12)) (fun _ hk => trivial), by repeat (first | (with_reducible first | exact HB.out | apply below_alloc | apply pw_below_drewN | apply below_drew1 | refine below_set ?_ (IsS99.ge HI203.out) | refine below_set ?_ GE200.out | refine below_set ?_ GE209.out) | exact HB.out)⟩

end Go.Proofs.Ytgickejeakmenaa.F
