-- Printed by wip/px/px.py of this claim's repository (the kit's printer, extended there). Lean checks it.
import Derived.Test.YtgickejeakmenaaFKinds
import Derived.Test.YtgickejeakmenaaFspecl30Open
import Derived.Test.YtgickejeakmenaaFspecl30AnyNet
import Derived.Test.YtgickejeakmenaaFspecl30Stops
namespace Go.Proofs.Ytgickejeakmenaa.F
open Go.RowKit Go.Proofs.YtgickejeakmenaaW.PrintWords Go.Proofs.YtgickejeakmenaaW.PrintLast Go.Proofs.YtgickejeakmenaaW.PrintMore
attribute [local go_sem] max2_int min2_int max_two min_two max_three min_three max_four min_four   -- for this text's walks alone
set_option linter.unusedVariables false
set_option linter.unusedSimpArgs false

/-! ### spec_DrawTourCost: function 15 -/
def spec_DrawTourCost.f (k : Nat) (l0 : List Int) : Option (Int × (List (S41)) × List Int) := (spec_l30Open.f l0).bind fun bt190 => ((spec_l30AnyNet.f k bt190.1 bt190.2).bind fun bt193 => ((spec_l30Stops.f k bt190.1 bt193.2.2 bt193.1 bt193.2.1).bind fun bt199 => (some (bt193.1, bt193.2.1, bt199.1))))
theorem spec_DrawTourCost.mono : ∀ a0 k, LeO (spec_DrawTourCost.f k a0) (spec_DrawTourCost.f (k + 1) a0) := by
 intro a0 k
 unfold spec_DrawTourCost.f
 repeat' first | (with_reducible exact spec_l30AnyNet.mono _ _ _) | (with_reducible exact spec_l30Stops.mono _ _ _ _ _) | (with_reducible exact LeO.refl _) | (with_reducible refine LeO.bind ?_ (fun _ => ?_))
set_option maxHeartbeats 8000000 in
set_option maxRecDepth 100000 in
theorem spec_DrawTourCost.calls (k : Nat) (A0 : Option Addr) (c0 : Nat) (l0 : List Int) (r1 : Int) (r2 : List (S41)) (r3 : List Int) (w : World) (hr0 : Kd.C (Kd.int .u8) w A0 l0.length l0) (hc0 : l0.length ≤ c0) (h : spec_DrawTourCost.f k l0 = some (r1, r2, r3)) :
  Calls Try.prog 15 #[.slice A0 l0.length c0] w fun e w' => ∃ v1_ v2_ : Value, e = .returned (.tuple #[.agg #[.int .i64 r1, v1_], v2_]) ∧ Kd.R k41 41 w' w.heap.size (fun _ => True) v1_ r2 ∧ Kd.R (Kd.int .i64) 3 w' w.heap.size (fun _ => True) v2_ r3 ∧ Below w.heap.size w w' := by
 have hu25 := Try.underlying25
 have HR0 := ak hr0
 have HC0 := ak hc0
 clear hr0 hc0
 have HB := ak (Below.refl w.heap.size w)
 have H : ((spec_l30Open.f l0).bind fun bt190 => ((spec_l30AnyNet.f k bt190.1 bt190.2).bind fun bt193 => ((spec_l30Stops.f k bt190.1 bt193.2.2 bt193.1 bt193.2.1).bind fun bt199 => (some (bt193.1, bt193.2.1, bt199.1))))) = some (r1, r2, r3) := h
 clear h
 replace H := Option.bind_eq_some_iff.mp H
 obtain ⟨⟨t190, t191⟩, A20, H⟩ := H
 have A2 := ak A20
 clear A20
 replace H := Option.bind_eq_some_iff.mp H
 obtain ⟨⟨t193, t194, t197⟩, A30, H⟩ := H
 have A3 := ak A30
 clear A30
 replace H := Option.bind_eq_some_iff.mp H
 obtain ⟨⟨t199, t202⟩, A40, H⟩ := H
 have A4 := ak A40
 clear A40
 simp only [Option.some.injEq, Prod.mk.injEq] at H
 obtain ⟨rfl, rfl, rfl⟩ := H
 go_enter Try.func15, Try.ntmps15
 try go_wp2_with (first | ((with_reducible refine gate_dst (N := 2) rfl ?_); refine box_event ?hg (N := 2) ?hd (cs := #[.int .i64 0, .slice none 0 0]) (t := 25) ?hr ?_; (case hd => rfl); (case hg => rfl); (case hr => (go_simp; done)); intro gb189 hg w5 hbox hb; have BK189 := ak (hbox); have GW189 := ak ((by rw [hg]; exact (below_size (bl HB)) : w.heap.size ≤ gb189)); have GE189 := ak ((by rw [hg]; exact (below_size (bl HB)) : w.heap.size ≤ gb189)); replace HB := ak (below_step (bl HB) hb); clear hb hbox hg) | ((with_reducible refine gate_callee (f := 49) rfl ?_); refine goesL_ (some 7) rfl rfl Try.func49 (by kernel_rfl) rfl #[.slice A0 l0.length c0] rfl (by (try simp only [List.map_toArray, List.map_cons, List.map_nil]); rfl) ?_; (with_reducible refine (spec_l30Open.calls _ _ l0 t190 t191 w _ ?side1 ?side2 ?side3 A2.out).mono ?_); (case side1 => repeat ((with_reducible exact HB.out))); (case side2 => exact HR0.out); (case side3 => exact HC0.out); rintro e w6 ⟨g192, rfl, hi, hb, hb2⟩; refine ⟨_, rfl, ?_⟩; replace HB := ak (hb); have HI192 := ak (hi); have NB192_189 := ak (IsS99.ne_blk hi (blk_below (bk BK189) hb2) (by decide)); have NB189_192 := ak (Ne.symm (IsS99.ne_blk hi (blk_below (bk BK189) hb2) (by decide))); replace BK189 := ak (blk_below (bk BK189) hb2); (try clear hb); (try clear hb2); (try clear hk); (try clear hi)) | ((with_reducible refine gate_callee (f := 50) rfl ?_); refine goesL_ (some 9) rfl rfl Try.func50 (by kernel_rfl) rfl #[.pointer (some ⟨g192, 0, none⟩)] rfl (by (try simp only [List.map_toArray, List.map_cons, List.map_nil]); rfl) ?_; (with_reducible refine (spec_l30AnyNet.calls k g192 t190 t191 t193 t194 t197 w _ ?side1 ?side2 A3.out).mono ?_); (case side1 => repeat ((with_reducible exact HI192.out))); (case side2 => repeat ((with_reducible exact HB.out))); rintro e w7 ⟨v195, rfl, ho0, hi, hb, hk⟩; refine ⟨_, rfl, ?_⟩; replace BK189 := ak (KeepBut.blk hk (g' := gb189) (o := .cells #[.int .i64 0, .slice none 0 0] 25 (0, 0)) (bk BK189) NB189_192.out (by simp)); have HO196 := ak (Kd.R_lower ho0 (below_size (by repeat ((with_reducible exact HB.out))))); replace HB := ak (hb); replace HI192 := ak (hi); (try clear hb); (try clear hb2); (try clear hk); (try clear hi); (try clear ho0)) | ((with_reducible refine gate_dst (N := 5) rfl ?_); refine box_event ?hg (N := 5) ?hd (cs := #[.int .i64 0, .slice none 0 0]) (t := 25) ?hr ?_; (case hd => rfl); (case hg => rfl); (case hr => (go_simp; done)); intro gb198 hg w8 hbox hb; replace HO196 := ak (Kd.R_below (rk HO196) hb); have BK198 := ak (hbox); have GW198 := ak ((by rw [hg]; exact (below_size (by repeat ((with_reducible exact HB.out)))) : w.heap.size ≤ gb198)); have GE198 := ak ((by rw [hg]; exact (below_size (by repeat ((with_reducible exact HB.out)))) : w.heap.size ≤ gb198)); replace HB := ak (below_step (by repeat ((with_reducible exact HB.out))) hb); have NB189_198 := ak ((by rw [hg]; exact Nat.ne_of_lt (blk_lt (bk BK189)) : gb189 ≠ gb198)); have NB198_189 := ak ((by rw [hg]; exact Nat.ne_of_gt (blk_lt (bk BK189)) : gb198 ≠ gb189)); replace BK189 := ak (blk_below (bk BK189) hb); have NB192_198 := ak ((by rw [hg]; exact Nat.ne_of_lt (IsS99.lt (show IsS99 w _ g192 t190 t197 from by repeat ((with_reducible exact HI192.out)))) : g192 ≠ gb198)); have NB198_192 := ak ((by rw [hg]; exact Nat.ne_of_gt (IsS99.lt (show IsS99 w _ g192 t190 t197 from by repeat ((with_reducible exact HI192.out)))) : gb198 ≠ g192)); replace HI192 := ak (IsS99.below (by repeat ((with_reducible exact HI192.out))) hb); clear hb hbox hg; have hnb9 := NB198_189.out; have hnc9 := NB189_198.out; have hnb10 := NB198_192.out; have hnc10 := NB192_198.out; have hcz11_0 := bc w8 BK198 0 (.int .i64 0) rfl; have hcz11_1 := bc w8 BK198 1 (.slice none 0 0) rfl; have hfz11_0 := fz BK198 0; have hfz11_1 := fz BK198 1; obtain ⟨Ao12, co12, eo12⟩ := Kd.R_slice HO196.out; subst eo12))
 have n0_ : Aside0 (Kd.R k41 41 ((w8.setCell ⟨gb198, 0, none⟩ (.int .i64 t193)).setCell ⟨gb198, 1, none⟩ (.slice Ao12 t194.length co12)) w.heap.size (fun _ => True) (.slice Ao12 t194.length co12) t194) := ⟨by exact Kd.R_mono (Kd.R_far (p := ⟨gb198, 1, none⟩) (Kd.R_far (p := ⟨gb198, 0, none⟩) (Kd.R_types HO196.out BK198.out (by decide)) (fun _ hk => hk.2) (.int .i64 t193)) (fun _ hk => hk.2) (.slice Ao12 t194.length co12)) (fun _ hk => trivial)⟩
 have n1_ : Aside0 (((w8.setCell ⟨gb198, 0, none⟩ (.int .i64 t193)).setCell ⟨gb198, 1, none⟩ (.slice Ao12 t194.length co12)).heap[gb189]? = some (.cells #[.int .i64 0, .slice none 0 0] 25 (0, 0))) := ⟨by refine blk_far ?_ NB189_198.out _; refine blk_far ?_ NB189_198.out _; exact BK189.out⟩
 have n2_ : Aside0 (((w8.setCell ⟨gb198, 0, none⟩ (.int .i64 t193)).setCell ⟨gb198, 1, none⟩ (.slice Ao12 t194.length co12)).heap[gb198]? = some (.cells #[.int .i64 t193, .slice Ao12 t194.length co12] 25 (0, 0))) := ⟨by refine blk_put (cs := #[.int .i64 t193, .slice none 0 0]) ?_ 1 _ rfl; refine blk_put (cs := #[.int .i64 0, .slice none 0 0]) ?_ 0 _ rfl; exact BK198.out⟩
 have n3_ : Aside0 (IsS99 w ((w8.setCell ⟨gb198, 0, none⟩ (.int .i64 t193)).setCell ⟨gb198, 1, none⟩ (.slice Ao12 t194.length co12)) g192 t190 t197) := ⟨by repeat ((with_reducible first | exact HI192.out | refine IsS99.far ?_ NB192_198.out _))⟩
 have n4_ : Aside0 (Below w.heap.size w ((w8.setCell ⟨gb198, 0, none⟩ (.int .i64 t193)).setCell ⟨gb198, 1, none⟩ (.slice Ao12 t194.length co12))) := ⟨by repeat ((with_reducible first | exact HB.out | refine below_set ?_ GE198.out))⟩
 (try clear HO196)
 (try clear BK189)
 (try clear BK198)
 (try clear HI192)
 (try clear HB)
 generalize ((w8.setCell ⟨gb198, 0, none⟩ (.int .i64 t193)).setCell ⟨gb198, 1, none⟩ (.slice Ao12 t194.length co12)) = w13 at n0_ n1_ n2_ n3_ n4_ ⊢
 have HO196 := n0_
 have BK189 := n1_
 have BK198 := n2_
 have HI192 := n3_
 have HB := n4_
 clear n0_ n1_ n2_ n3_ n4_
 replace HO196 := ak (Kd.R_drew HO196.out)
 replace BK189 := ak (blk_drew BK189.out)
 replace BK198 := ak (blk_drew BK198.out)
 replace HI192 := ak (IsS99.drew HI192.out)
 replace HB := ak (below_drew1 HB.out)
 refine start_ (n := 6) (S := fun w' => w'.cell? ⟨gb198, 0, none⟩ = some (.int .i64 t193) ∧ w'.cell? ⟨gb198, 1, none⟩ = some (.slice Ao12 t194.length co12)) (ds := []) #[false, false, false, false, false, false] (by kernel_rfl) rfl (by kernel_rfl) ⟨(blk_cell BK198.out 0).trans rfl, (blk_cell BK198.out 1).trans rfl⟩ (fun hHeld => ?_)
 generalize w13.drew = w14 at HO196 BK189 BK198 HI192 HB hHeld ⊢
 refine pure_ (i := 1) (N := some 11) (v := ?_) (a' := ?_) #[false, true, false, false, false, false] rfl rfl (by kernel_rfl) (fun _ _ _ h => h) (Or.inl ⟨by rfl, ?_⟩) ?_ ?_
 rotate_left
 ·intro w'
  go_simp
  with_reducible rfl
 rotate_left
 ·simp only [SX]
  rfl
 refine take_ (i := 0) (N := some 10) (v := ?_) (a' := ?_) #[true, true, false, false, false, false] rfl rfl (by kernel_rfl) (fun _ _ _ h => h) (Or.inl ⟨by rfl, ?_⟩) hHeld ?_ ?_
 rotate_left
 ·rintro w' ⟨s0, s1⟩
  go_simp
  with_reducible rfl
 rotate_left
 ·simp only [SX]
  rfl
 refine take_ (i := 2) (N := some 12) (v := ?_) (a' := ?_) #[true, true, true, false, false, false] rfl rfl (by kernel_rfl) (fun _ _ _ h => h) (Or.inl ⟨by rfl, ?_⟩) hHeld ?_ ?_
 rotate_left
 ·rintro w' ⟨s0, s1⟩
  go_simp
  with_reducible rfl
 rotate_left
 ·simp only [SX]
  rfl
 refine one_ (i := 3) (N := some 13) #[true, true, true, true, false, false] rfl rfl (by kernel_rfl) (by decide) (fun K hK => ?_)
 refine goes_ Try.func51 (by kernel_rfl) rfl #[.pointer (some ⟨g192, 0, none⟩), .agg #[.int .i64 t193, .slice Ao12 t194.length co12]] (by rfl) rfl rfl (by (try simp only [List.map_toArray, List.map_cons, List.map_nil]); rfl) ?_
 with_reducible refine (spec_l30Stops.calls k g192 t190 t197 t193 _ _ t194 t199 t202 w _ ?side1 ?side2 ?side3 ?side4 A4.out).mono ?_
 (case side1 => repeat ((with_reducible exact HI192.out)))
 (case side2 => repeat ((with_reducible exact HB.out)))
 (case side3 => exact Kd.C_foot_own (IsS99.apart (show IsS99 w _ g192 t190 t197 from by repeat ((with_reducible exact HI192.out))) (rk HO196) (by decide)) (fun _ h_ => h_.2))
 (case side4 => exact (Kd.R_reads' HO196.out).2.1)
 rintro e w15 ⟨v200, rfl, ho0, hi, hb, hk⟩
 refine ⟨_, rfl, ?_⟩
 replace BK189 := ak (KeepBut.blk hk (g' := gb189) (o := .cells #[.int .i64 0, .slice none 0 0] 25 (0, 0)) (bk BK189) NB189_192.out (by simp))
 replace HO196 := ak (Kd.R_mono (Kd.R_keep (IsS99.apart (show IsS99 w _ g192 t190 t197 from by repeat ((with_reducible exact HI192.out))) (rk HO196) (by decide)) hk (fun _ h => h.2)) (fun _ h => h.1))
 replace BK198 := ak (KeepBut.blk hk (g' := gb198) (o := .cells #[.int .i64 t193, .slice Ao12 t194.length co12] 25 (0, 0)) (bk BK198) NB198_192.out (by simp))
 have HO201 := ak (Kd.R_lower ho0 (below_size (by repeat ((with_reducible exact HB.out)))))
 replace HB := ak (hb)
 replace HI192 := ak (hi)
 (try clear hb)
 (try clear hb2)
 (try clear hk)
 (try clear hi)
 (try clear ho0)
 refine hK.out _ _ ⟨(blk_cell BK198.out 0).trans rfl, (blk_cell BK198.out 1).trans rfl⟩ (fun hHeld => ?_)
 clear hK K
 refine norm_ (a' := ?_) ?_ ?_
 rotate_left
 ·show Act.put _ (some 13) _ = _
  simp only [SX]
  rfl
 refine one_ (i := 4) (N := none) #[true, true, true, true, true, false] rfl rfl (by kernel_rfl) (by decide) (fun K hK => ?_)
 have hs16 : w15.cell? ⟨gb189, 0, none⟩ = some (.int .i64 0) := (blk_cell BK189.out 0).trans rfl
 have hfs16 := blk_frozen BK189.out 0
 have hns16_1 := NB198_189.out
 have hms16_1 := NB189_198.out
 have hs17 : w15.cell? ⟨gb189, 1, none⟩ = some (.slice none 0 0) := (blk_cell BK189.out 1).trans rfl
 have hfs17 := blk_frozen BK189.out 1
 have hns17_1 := NB198_189.out
 have hms17_1 := NB189_198.out
 refine skip_ (w1 := ?_) (by rfl) rfl ?_ ?_
 rotate_left
 ·go_simp
  rfl
 refine hK.out _ _ ⟨((cell_far (p := ⟨gb189, _, none⟩) NB198_189.out _).trans (((cell_far (p := ⟨gb189, _, none⟩) NB198_189.out _).trans (hHeld.1)))), ((cell_far (p := ⟨gb189, _, none⟩) NB198_189.out _).trans (((cell_far (p := ⟨gb189, _, none⟩) NB198_189.out _).trans (hHeld.2))))⟩ (fun hHeld => ?_)
 clear hK K
 refine pure_ (i := 5) (N := some 3) (v := ?_) (a' := ?_) #[true, true, true, true, true, true] rfl rfl (by kernel_rfl) (fun _ _ _ h => h) (Or.inl ⟨by rfl, ?_⟩) ?_ ?_
 rotate_left
 ·intro w'
  go_simp
  with_reducible rfl
 rotate_left
 ·simp only [SX]
  rfl
 refine done_ (by kernel_rfl) ?_
 try go_wp2
 refine bodyPost_ret (results_ct rfl _ _ gb189 25 #[.int .i64 t193, .slice Ao12 t194.length co12] (0, 0) _ rfl (by refine blk_put (cs := #[.int .i64 t193, .slice none 0 0]) ?_ 1 _ rfl; refine blk_put (cs := #[.int .i64 0, .slice none 0 0]) ?_ 0 _ rfl; exact BK189.out) Try.underlying25 rfl (by kernel_rfl)) rfl ?_
 exact ⟨_, _, by rfl, by exact Kd.R_mono (Kd.R_far (p := ⟨gb189, 1, none⟩) (Kd.R_far (p := ⟨gb189, 0, none⟩) (Kd.R_types HO196.out BK189.out (by decide)) (fun _ hk => hk.2) (.int .i64 t193)) (fun _ hk => hk.2) (.slice Ao12 t194.length co12)) (fun _ hk => trivial), by exact Kd.R_mono (Kd.R_far (p := ⟨gb189, 1, none⟩) (Kd.R_far (p := ⟨gb189, 0, none⟩) (Kd.R_types HO201.out BK189.out (by decide)) (fun _ hk => hk.2) (.int .i64 t193)) (fun _ hk => hk.2) (.slice Ao12 t194.length co12)) (fun _ hk => trivial), by repeat ((with_reducible first | exact HB.out | refine below_set ?_ GE189.out))⟩

end Go.Proofs.Ytgickejeakmenaa.F
