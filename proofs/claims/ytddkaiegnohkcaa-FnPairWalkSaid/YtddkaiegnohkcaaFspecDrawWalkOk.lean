-- Printed by wip/px/px.py of this claim's repository (the kit's printer, extended there). Lean checks it.
import Derived.Test.YtddkaiegnohkcaaFKinds
import Derived.Test.YtddkaiegnohkcaaFspecl30Open
import Derived.Test.YtddkaiegnohkcaaFspecl30AnyNet
import Derived.Test.YtddkaiegnohkcaaFspecl30AnyWalk
namespace Go.Proofs.Ytddkaiegnohkcaa.F
open Go.RowKit Go.Proofs.YtddkaiegnohkcaaW.PrintWords Go.Proofs.YtddkaiegnohkcaaW.PrintLast Go.Proofs.YtddkaiegnohkcaaW.PrintMore
attribute [local go_sem] max2_int min2_int max_two min_two max_three min_three max_four min_four   -- for this text's walks alone
set_option linter.unusedVariables false
set_option linter.unusedSimpArgs false

/-! ### spec_DrawWalkOk: function 11 -/
def spec_DrawWalkOk.f (k : Nat) (l0 : List Int) : Option (Int × (List (S33)) × List Int) := (spec_l30Open.f l0).bind fun bt487 => ((spec_l30AnyNet.f k bt487.1 bt487.2).bind fun bt490 => ((spec_l30AnyWalk.f k bt487.1 bt490.2.2 bt490.1 bt490.2.1).bind fun bt496 => (some (bt490.1, bt490.2.1, bt496.1))))
theorem spec_DrawWalkOk.mono : ∀ a0 k, LeO (spec_DrawWalkOk.f k a0) (spec_DrawWalkOk.f (k + 1) a0) := by
 intro a0 k
 unfold spec_DrawWalkOk.f
 repeat' first | (with_reducible exact spec_l30AnyNet.mono _ _ _) | (with_reducible exact spec_l30AnyWalk.mono _ _ _ _ _) | (with_reducible exact LeO.refl _) | (with_reducible refine LeO.bind ?_ (fun _ => ?_))
set_option maxHeartbeats 8000000 in
set_option maxRecDepth 100000 in
theorem spec_DrawWalkOk.calls (k : Nat) (A0 : Option Addr) (c0 : Nat) (l0 : List Int) (r1 : Int) (r2 : List (S33)) (r3 : List Int) (w : World) (hr0 : Kd.C (Kd.int .u8) w A0 l0.length l0) (hc0 : l0.length ≤ c0) (h : spec_DrawWalkOk.f k l0 = some (r1, r2, r3)) :
  Calls Try.prog 11 #[.slice A0 l0.length c0] w fun e w' => ∃ v1_ v2_ : Value, e = .returned (.tuple #[.agg #[.int .i64 r1, v1_], v2_]) ∧ Kd.R k33 33 w' w.heap.size (fun _ => True) v1_ r2 ∧ Kd.R (Kd.int .i64) 3 w' w.heap.size (fun _ => True) v2_ r3 ∧ Below w.heap.size w w' := by
 have hu25 := Try.underlying25
 have HR0 := ak hr0
 have HC0 := ak hc0
 clear hr0 hc0
 have HB := ak (Below.refl w.heap.size w)
 have H : ((spec_l30Open.f l0).bind fun bt487 => ((spec_l30AnyNet.f k bt487.1 bt487.2).bind fun bt490 => ((spec_l30AnyWalk.f k bt487.1 bt490.2.2 bt490.1 bt490.2.1).bind fun bt496 => (some (bt490.1, bt490.2.1, bt496.1))))) = some (r1, r2, r3) := h
 clear h
 replace H := Option.bind_eq_some_iff.mp H
 obtain ⟨⟨t487, t488⟩, A20, H⟩ := H
 have A2 := ak A20
 clear A20
 replace H := Option.bind_eq_some_iff.mp H
 obtain ⟨⟨t490, t491, t494⟩, A30, H⟩ := H
 have A3 := ak A30
 clear A30
 replace H := Option.bind_eq_some_iff.mp H
 obtain ⟨⟨t496, t499⟩, A40, H⟩ := H
 have A4 := ak A40
 clear A40
 simp only [Option.some.injEq, Prod.mk.injEq] at H
 obtain ⟨rfl, rfl, rfl⟩ := H
 go_enter Try.func11, Try.ntmps11
 try go_wp2_with (first | ((with_reducible refine gate_dst (N := 2) rfl ?_); refine box_event ?hg (N := 2) ?hd (cs := #[.int .i64 0, .slice none 0 0]) (t := 25) ?hr ?_; (case hd => rfl); (case hg => rfl); (case hr => (go_simp; done)); intro gb486 hg w5 hbox hb; have BK486 := ak (hbox); have GW486 := ak ((by rw [hg]; exact (below_size (bl HB)) : w.heap.size ≤ gb486)); have GE486 := ak ((by rw [hg]; exact (below_size (bl HB)) : w.heap.size ≤ gb486)); replace HB := ak (below_step (bl HB) hb); clear hb hbox hg) | ((with_reducible refine gate_callee (f := 38) rfl ?_); refine goesL_ (some 7) rfl rfl Try.func38 (by kernel_rfl) rfl #[.slice A0 l0.length c0] rfl (by (try simp only [List.map_toArray, List.map_cons, List.map_nil]); rfl) ?_; (with_reducible refine (spec_l30Open.calls _ _ l0 t487 t488 w _ ?side1 ?side2 ?side3 A2.out).mono ?_); (case side1 => repeat ((with_reducible exact HB.out))); (case side2 => exact HR0.out); (case side3 => exact HC0.out); rintro e w6 ⟨g489, rfl, hi, hb, hb2⟩; refine ⟨_, rfl, ?_⟩; replace HB := ak (hb); have HI489 := ak (hi); have NB489_486 := ak (IsS89.ne_blk hi (blk_below (bk BK486) hb2) (by decide)); have NB486_489 := ak (Ne.symm (IsS89.ne_blk hi (blk_below (bk BK486) hb2) (by decide))); replace BK486 := ak (blk_below (bk BK486) hb2); (try clear hb); (try clear hb2); (try clear hk); (try clear hi)) | ((with_reducible refine gate_callee (f := 39) rfl ?_); refine goesL_ (some 9) rfl rfl Try.func39 (by kernel_rfl) rfl #[.pointer (some ⟨g489, 0, none⟩)] rfl (by (try simp only [List.map_toArray, List.map_cons, List.map_nil]); rfl) ?_; (with_reducible refine (spec_l30AnyNet.calls k g489 t487 t488 t490 t491 t494 w _ ?side1 ?side2 A3.out).mono ?_); (case side1 => repeat ((with_reducible exact HI489.out))); (case side2 => repeat ((with_reducible exact HB.out))); rintro e w7 ⟨v492, rfl, ho0, hi, hb, hk⟩; refine ⟨_, rfl, ?_⟩; replace BK486 := ak (KeepBut.blk hk (g' := gb486) (o := .cells #[.int .i64 0, .slice none 0 0] 25 (0, 0)) (bk BK486) NB486_489.out (by simp)); have HO493 := ak (Kd.R_lower ho0 (below_size (by repeat ((with_reducible exact HB.out))))); replace HB := ak (hb); replace HI489 := ak (hi); (try clear hb); (try clear hb2); (try clear hk); (try clear hi); (try clear ho0)) | ((with_reducible refine gate_dst (N := 5) rfl ?_); refine box_event ?hg (N := 5) ?hd (cs := #[.int .i64 0, .slice none 0 0]) (t := 25) ?hr ?_; (case hd => rfl); (case hg => rfl); (case hr => (go_simp; done)); intro gb495 hg w8 hbox hb; replace HO493 := ak (Kd.R_below (rk HO493) hb); have BK495 := ak (hbox); have GW495 := ak ((by rw [hg]; exact (below_size (by repeat ((with_reducible exact HB.out)))) : w.heap.size ≤ gb495)); have GE495 := ak ((by rw [hg]; exact (below_size (by repeat ((with_reducible exact HB.out)))) : w.heap.size ≤ gb495)); replace HB := ak (below_step (by repeat ((with_reducible exact HB.out))) hb); have NB486_495 := ak ((by rw [hg]; exact Nat.ne_of_lt (blk_lt (bk BK486)) : gb486 ≠ gb495)); have NB495_486 := ak ((by rw [hg]; exact Nat.ne_of_gt (blk_lt (bk BK486)) : gb495 ≠ gb486)); replace BK486 := ak (blk_below (bk BK486) hb); have NB489_495 := ak ((by rw [hg]; exact Nat.ne_of_lt (IsS89.lt (show IsS89 w _ g489 t487 t494 from by repeat ((with_reducible exact HI489.out)))) : g489 ≠ gb495)); have NB495_489 := ak ((by rw [hg]; exact Nat.ne_of_gt (IsS89.lt (show IsS89 w _ g489 t487 t494 from by repeat ((with_reducible exact HI489.out)))) : gb495 ≠ g489)); replace HI489 := ak (IsS89.below (by repeat ((with_reducible exact HI489.out))) hb); clear hb hbox hg; have hnb9 := NB495_486.out; have hnc9 := NB486_495.out; have hnb10 := NB495_489.out; have hnc10 := NB489_495.out; have hcz11_0 := bc w8 BK495 0 (.int .i64 0) rfl; have hcz11_1 := bc w8 BK495 1 (.slice none 0 0) rfl; have hfz11_0 := fz BK495 0; have hfz11_1 := fz BK495 1; obtain ⟨Ao12, co12, eo12⟩ := Kd.R_slice HO493.out; subst eo12))
 have n0_ : Aside0 (Kd.R k33 33 ((w8.setCell ⟨gb495, 0, none⟩ (.int .i64 t490)).setCell ⟨gb495, 1, none⟩ (.slice Ao12 t491.length co12)) w.heap.size (fun _ => True) (.slice Ao12 t491.length co12) t491) := ⟨by exact Kd.R_mono (Kd.R_far (p := ⟨gb495, 1, none⟩) (Kd.R_far (p := ⟨gb495, 0, none⟩) (Kd.R_types HO493.out BK495.out (by decide)) (fun _ hk => hk.2) (.int .i64 t490)) (fun _ hk => hk.2) (.slice Ao12 t491.length co12)) (fun _ hk => trivial)⟩
 have n1_ : Aside0 (((w8.setCell ⟨gb495, 0, none⟩ (.int .i64 t490)).setCell ⟨gb495, 1, none⟩ (.slice Ao12 t491.length co12)).heap[gb486]? = some (.cells #[.int .i64 0, .slice none 0 0] 25 (0, 0))) := ⟨by refine blk_far ?_ NB486_495.out _; refine blk_far ?_ NB486_495.out _; exact BK486.out⟩
 have n2_ : Aside0 (((w8.setCell ⟨gb495, 0, none⟩ (.int .i64 t490)).setCell ⟨gb495, 1, none⟩ (.slice Ao12 t491.length co12)).heap[gb495]? = some (.cells #[.int .i64 t490, .slice Ao12 t491.length co12] 25 (0, 0))) := ⟨by refine blk_put (cs := #[.int .i64 t490, .slice none 0 0]) ?_ 1 _ rfl; refine blk_put (cs := #[.int .i64 0, .slice none 0 0]) ?_ 0 _ rfl; exact BK495.out⟩
 have n3_ : Aside0 (IsS89 w ((w8.setCell ⟨gb495, 0, none⟩ (.int .i64 t490)).setCell ⟨gb495, 1, none⟩ (.slice Ao12 t491.length co12)) g489 t487 t494) := ⟨by repeat ((with_reducible first | exact HI489.out | refine IsS89.far ?_ NB489_495.out _))⟩
 have n4_ : Aside0 (Below w.heap.size w ((w8.setCell ⟨gb495, 0, none⟩ (.int .i64 t490)).setCell ⟨gb495, 1, none⟩ (.slice Ao12 t491.length co12))) := ⟨by repeat ((with_reducible first | exact HB.out | refine below_set ?_ GE495.out))⟩
 (try clear HO493)
 (try clear BK486)
 (try clear BK495)
 (try clear HI489)
 (try clear HB)
 generalize ((w8.setCell ⟨gb495, 0, none⟩ (.int .i64 t490)).setCell ⟨gb495, 1, none⟩ (.slice Ao12 t491.length co12)) = w13 at n0_ n1_ n2_ n3_ n4_ ⊢
 have HO493 := n0_
 have BK486 := n1_
 have BK495 := n2_
 have HI489 := n3_
 have HB := n4_
 clear n0_ n1_ n2_ n3_ n4_
 replace HO493 := ak (Kd.R_drew HO493.out)
 replace BK486 := ak (blk_drew BK486.out)
 replace BK495 := ak (blk_drew BK495.out)
 replace HI489 := ak (IsS89.drew HI489.out)
 replace HB := ak (below_drew1 HB.out)
 refine start_ (n := 6) (S := fun w' => w'.cell? ⟨gb495, 0, none⟩ = some (.int .i64 t490) ∧ w'.cell? ⟨gb495, 1, none⟩ = some (.slice Ao12 t491.length co12)) (ds := []) #[false, false, false, false, false, false] (by kernel_rfl) rfl (by kernel_rfl) ⟨(blk_cell BK495.out 0).trans rfl, (blk_cell BK495.out 1).trans rfl⟩ (fun hHeld => ?_)
 generalize w13.drew = w14 at HO493 BK486 BK495 HI489 HB hHeld ⊢
 refine pure_ (i := 1) (N := some 11) (v := ?_) (a' := ?_) #[false, true, false, false, false, false] rfl rfl (by kernel_rfl) (fun _ _ _ h => h) (Or.inl ⟨by rfl, ?_⟩) ?_ ?_
 rotate_left
 ·intro w'
  go_simp
  with_reducible rfl
 rotate_left
 ·simp only [SX]
  rfl
 refine take_ (i := 0) (N := some 10) (v := ?_) (a' := ?_) #[true, true, false, false, false, false] rfl rfl (by kernel_rfl) (fun _ _ _ h => h) (Or.inl ⟨by rfl, ?_⟩) hHeld ?_ ?_
 rotate_left
 ·rintro w' ⟨s0, s1⟩
  go_simp
  with_reducible rfl
 rotate_left
 ·simp only [SX]
  rfl
 refine take_ (i := 2) (N := some 12) (v := ?_) (a' := ?_) #[true, true, true, false, false, false] rfl rfl (by kernel_rfl) (fun _ _ _ h => h) (Or.inl ⟨by rfl, ?_⟩) hHeld ?_ ?_
 rotate_left
 ·rintro w' ⟨s0, s1⟩
  go_simp
  with_reducible rfl
 rotate_left
 ·simp only [SX]
  rfl
 refine one_ (i := 3) (N := some 13) #[true, true, true, true, false, false] rfl rfl (by kernel_rfl) (by decide) (fun K hK => ?_)
 refine goes_ Try.func40 (by kernel_rfl) rfl #[.pointer (some ⟨g489, 0, none⟩), .agg #[.int .i64 t490, .slice Ao12 t491.length co12]] (by rfl) rfl rfl (by (try simp only [List.map_toArray, List.map_cons, List.map_nil]); rfl) ?_
 with_reducible refine (spec_l30AnyWalk.calls k g489 t487 t494 t490 _ _ t491 t496 t499 w _ ?side1 ?side2 ?side3 ?side4 A4.out).mono ?_
 (case side1 => repeat ((with_reducible exact HI489.out)))
 (case side2 => repeat ((with_reducible exact HB.out)))
 (case side3 => exact Kd.C_foot_own (IsS89.apart (show IsS89 w _ g489 t487 t494 from by repeat ((with_reducible exact HI489.out))) (rk HO493) (by decide)) (fun _ h_ => h_.2))
 (case side4 => exact (Kd.R_reads' HO493.out).2.1)
 rintro e w15 ⟨v497, rfl, ho0, hi, hb, hk⟩
 refine ⟨_, rfl, ?_⟩
 replace BK486 := ak (KeepBut.blk hk (g' := gb486) (o := .cells #[.int .i64 0, .slice none 0 0] 25 (0, 0)) (bk BK486) NB486_489.out (by simp))
 replace HO493 := ak (Kd.R_mono (Kd.R_keep (IsS89.apart (show IsS89 w _ g489 t487 t494 from by repeat ((with_reducible exact HI489.out))) (rk HO493) (by decide)) hk (fun _ h => h.2)) (fun _ h => h.1))
 replace BK495 := ak (KeepBut.blk hk (g' := gb495) (o := .cells #[.int .i64 t490, .slice Ao12 t491.length co12] 25 (0, 0)) (bk BK495) NB495_489.out (by simp))
 have HO498 := ak (Kd.R_lower ho0 (below_size (by repeat ((with_reducible exact HB.out)))))
 replace HB := ak (hb)
 replace HI489 := ak (hi)
 (try clear hb)
 (try clear hb2)
 (try clear hk)
 (try clear hi)
 (try clear ho0)
 refine hK.out _ _ ⟨(blk_cell BK495.out 0).trans rfl, (blk_cell BK495.out 1).trans rfl⟩ (fun hHeld => ?_)
 clear hK K
 refine norm_ (a' := ?_) ?_ ?_
 rotate_left
 ·show Act.put _ (some 13) _ = _
  simp only [SX]
  rfl
 refine one_ (i := 4) (N := none) #[true, true, true, true, true, false] rfl rfl (by kernel_rfl) (by decide) (fun K hK => ?_)
 have hs16 : w15.cell? ⟨gb486, 0, none⟩ = some (.int .i64 0) := (blk_cell BK486.out 0).trans rfl
 have hfs16 := blk_frozen BK486.out 0
 have hns16_1 := NB495_486.out
 have hms16_1 := NB486_495.out
 have hs17 : w15.cell? ⟨gb486, 1, none⟩ = some (.slice none 0 0) := (blk_cell BK486.out 1).trans rfl
 have hfs17 := blk_frozen BK486.out 1
 have hns17_1 := NB495_486.out
 have hms17_1 := NB486_495.out
 refine skip_ (w1 := ?_) (by rfl) rfl ?_ ?_
 rotate_left
 ·go_simp
  rfl
 refine hK.out _ _ ⟨((cell_far (p := ⟨gb486, _, none⟩) NB495_486.out _).trans (((cell_far (p := ⟨gb486, _, none⟩) NB495_486.out _).trans (hHeld.1)))), ((cell_far (p := ⟨gb486, _, none⟩) NB495_486.out _).trans (((cell_far (p := ⟨gb486, _, none⟩) NB495_486.out _).trans (hHeld.2))))⟩ (fun hHeld => ?_)
 clear hK K
 refine pure_ (i := 5) (N := some 3) (v := ?_) (a' := ?_) #[true, true, true, true, true, true] rfl rfl (by kernel_rfl) (fun _ _ _ h => h) (Or.inl ⟨by rfl, ?_⟩) ?_ ?_
 rotate_left
 ·intro w'
  go_simp
  with_reducible rfl
 rotate_left
 ·simp only [SX]
  rfl
 refine done_ (by kernel_rfl) ?_
 try go_wp2
 refine bodyPost_ret (results_ct rfl _ _ gb486 25 #[.int .i64 t490, .slice Ao12 t491.length co12] (0, 0) _ rfl (by refine blk_put (cs := #[.int .i64 t490, .slice none 0 0]) ?_ 1 _ rfl; refine blk_put (cs := #[.int .i64 0, .slice none 0 0]) ?_ 0 _ rfl; exact BK486.out) Try.underlying25 rfl (by kernel_rfl)) rfl ?_
 exact ⟨_, _, by rfl, by exact Kd.R_mono (Kd.R_far (p := ⟨gb486, 1, none⟩) (Kd.R_far (p := ⟨gb486, 0, none⟩) (Kd.R_types HO493.out BK486.out (by decide)) (fun _ hk => hk.2) (.int .i64 t490)) (fun _ hk => hk.2) (.slice Ao12 t491.length co12)) (fun _ hk => trivial), by exact Kd.R_mono (Kd.R_far (p := ⟨gb486, 1, none⟩) (Kd.R_far (p := ⟨gb486, 0, none⟩) (Kd.R_types HO498.out BK486.out (by decide)) (fun _ hk => hk.2) (.int .i64 t490)) (fun _ hk => hk.2) (.slice Ao12 t491.length co12)) (fun _ hk => trivial), by repeat ((with_reducible first | exact HB.out | refine below_set ?_ GE486.out))⟩

end Go.Proofs.Ytddkaiegnohkcaa.F
