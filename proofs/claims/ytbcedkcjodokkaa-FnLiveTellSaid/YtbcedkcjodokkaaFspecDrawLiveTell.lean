-- Printed by wip/px/px.py of this claim's repository (the kit's printer, extended there). Lean checks it.
import Derived.Test.YtbcedkcjodokkaaFKinds
import Derived.Test.YtbcedkcjodokkaaFspecl30Open
import Derived.Test.YtbcedkcjodokkaaFspecl30News
import Derived.Test.YtbcedkcjodokkaaFspecl30Live
namespace Go.Proofs.Ytbcedkcjodokkaa.F
open Go.RowKit Go.Proofs.YtbcedkcjodokkaaW.PrintWords Go.Proofs.YtbcedkcjodokkaaW.PrintLast Go.Proofs.YtbcedkcjodokkaaW.PrintMore
attribute [local go_sem] max2_int min2_int max_two min_two max_three min_three max_four min_four   -- for this text's walks alone
set_option linter.unusedVariables false
set_option linter.unusedSimpArgs false

/-! ### spec_DrawLiveTell: function 6 -/
def spec_DrawLiveTell.f (k : Nat) (l0 : List Int) : Option (Int × (List (S65)) × (List (S30)) × Int × Int × Int) := (spec_l30Open.f l0).bind fun bt297 => ((spec_l30Live.f k bt297.1 bt297.2).bind fun bt300 => ((spec_l30News.f k bt297.1 bt300.2.2.2 bt300.1 bt300.2.1).bind fun bt309 => (some (bt300.1, bt300.2.1, bt300.2.2.1, bt309.1, bt309.2.1, bt309.2.2.1))))
theorem spec_DrawLiveTell.mono : ∀ a0 k, LeO (spec_DrawLiveTell.f k a0) (spec_DrawLiveTell.f (k + 1) a0) := by
 intro a0 k
 unfold spec_DrawLiveTell.f
 repeat' first | (with_reducible exact spec_l30Live.mono _ _ _) | (with_reducible exact spec_l30News.mono _ _ _ _ _) | (with_reducible exact LeO.refl _) | (with_reducible refine LeO.bind ?_ (fun _ => ?_))
set_option maxHeartbeats 8000000 in
set_option maxRecDepth 100000 in
theorem spec_DrawLiveTell.calls (k : Nat) (A0 : Option Addr) (c0 : Nat) (l0 : List Int) (r1 : Int) (r2 : List (S65)) (r3 : List (S30)) (r4 : Int) (r5 : Int) (r6 : Int) (w : World) (hr0 : Kd.C (Kd.int .u8) w A0 l0.length l0) (hc0 : l0.length ≤ c0) (h : spec_DrawLiveTell.f k l0 = some (r1, r2, r3, r4, r5, r6)) :
  Calls Try.prog 6 #[.slice A0 l0.length c0] w fun e w' => ∃ v1_ v2_ : Value, e = .returned (.tuple #[.agg #[.int .i64 r1, v1_, v2_], .agg #[.int .i64 r4, .int .i64 r5, .int .i64 r6]]) ∧ Kd.R k65 65 w' w.heap.size (fun _ => True) v1_ r2 ∧ Kd.R k30 30 w' w.heap.size (fun _ => True) v2_ r3 ∧ Below w.heap.size w w' := by
 have hu28 := Try.underlying28
 have hu30 := Try.underlying30
 have hu25 := Try.underlying25
 have HR0 := ak hr0
 have HC0 := ak hc0
 clear hr0 hc0
 have HB := ak (Below.refl w.heap.size w)
 have H : ((spec_l30Open.f l0).bind fun bt297 => ((spec_l30Live.f k bt297.1 bt297.2).bind fun bt300 => ((spec_l30News.f k bt297.1 bt300.2.2.2 bt300.1 bt300.2.1).bind fun bt309 => (some (bt300.1, bt300.2.1, bt300.2.2.1, bt309.1, bt309.2.1, bt309.2.2.1))))) = some (r1, r2, r3, r4, r5, r6) := h
 clear h
 replace H := Option.bind_eq_some_iff.mp H
 obtain ⟨⟨t297, t298⟩, A20, H⟩ := H
 have A2 := ak A20
 clear A20
 replace H := Option.bind_eq_some_iff.mp H
 obtain ⟨⟨t300, t301, t304, t307⟩, A30, H⟩ := H
 have A3 := ak A30
 clear A30
 replace H := Option.bind_eq_some_iff.mp H
 obtain ⟨⟨t309, t310, t311, t312⟩, A40, H⟩ := H
 have A4 := ak A40
 clear A40
 simp only [Option.some.injEq, Prod.mk.injEq] at H
 obtain ⟨rfl, rfl, rfl, rfl, rfl, rfl⟩ := H
 go_enter Try.func6, Try.ntmps6
 try go_wp2_with (first | ((with_reducible refine gate_dst (N := 2) rfl ?_); refine box_event ?hg (N := 2) ?hd (cs := #[.int .i64 0, .slice none 0 0, .slice none 0 0]) (t := 28) ?hr ?_; (case hd => rfl); (case hg => rfl); (case hr => (go_simp; done)); intro gb295 hg w5 hbox hb; have BK295 := ak (hbox); have GW295 := ak ((by rw [hg]; exact (below_size (bl HB)) : w.heap.size ≤ gb295)); have GE295 := ak ((by rw [hg]; exact (below_size (bl HB)) : w.heap.size ≤ gb295)); replace HB := ak (below_step (bl HB) hb); clear hb hbox hg) | ((with_reducible refine gate_dst (N := 3) rfl ?_); refine box_event ?hg (N := 3) ?hd (cs := #[.int .i64 0, .int .i64 0, .int .i64 0]) (t := 30) ?hr ?_; (case hd => rfl); (case hg => rfl); (case hr => (go_simp; done)); intro gb296 hg w6 hbox hb; have BK296 := ak (hbox); have GW296 := ak ((by rw [hg]; exact (below_size (bl1 HB GE295)) : w.heap.size ≤ gb296)); have GE296 := ak ((by rw [hg]; exact (below_size (bl1 HB GE295)) : w.heap.size ≤ gb296)); replace HB := ak (below_step (bl1 HB GE295) hb); have NB295_296 := ak ((by rw [hg]; exact Nat.ne_of_lt (blk_lt (bk BK295)) : gb295 ≠ gb296)); have NB296_295 := ak ((by rw [hg]; exact Nat.ne_of_gt (blk_lt (bk BK295)) : gb296 ≠ gb295)); replace BK295 := ak (blk_below (bk BK295) hb); clear hb hbox hg) | ((with_reducible refine gate_callee (f := 14) rfl ?_); refine goesL_ (some 7) rfl rfl Try.func14 (by kernel_rfl) rfl #[.slice A0 l0.length c0] rfl (by (try simp only [List.map_toArray, List.map_cons, List.map_nil]); rfl) ?_; (with_reducible refine (spec_l30Open.calls _ _ l0 t297 t298 w _ ?side1 ?side2 ?side3 A2.out).mono ?_); (case side1 => repeat ((with_reducible exact HB.out))); (case side2 => exact HR0.out); (case side3 => exact HC0.out); rintro e w7 ⟨g299, rfl, hi, hb, hb2⟩; refine ⟨_, rfl, ?_⟩; replace HB := ak (hb); have HI299 := ak (hi); have NB299_295 := ak (IsS59.ne_blk hi (blk_below (bk BK295) hb2) (by decide)); have NB295_299 := ak (Ne.symm (IsS59.ne_blk hi (blk_below (bk BK295) hb2) (by decide))); replace BK295 := ak (blk_below (bk BK295) hb2); have NB299_296 := ak (IsS59.ne_blk hi (blk_below (bk BK296) hb2) (by decide)); have NB296_299 := ak (Ne.symm (IsS59.ne_blk hi (blk_below (bk BK296) hb2) (by decide))); replace BK296 := ak (blk_below (bk BK296) hb2); (try clear hb); (try clear hb2); (try clear hk); (try clear hi)) | ((with_reducible refine gate_callee (f := 15) rfl ?_); refine goesL_ (some 9) rfl rfl Try.func15 (by kernel_rfl) rfl #[.pointer (some ⟨g299, 0, none⟩)] rfl (by (try simp only [List.map_toArray, List.map_cons, List.map_nil]); rfl) ?_; (with_reducible refine (spec_l30Live.calls k g299 t297 t298 t300 t301 t304 t307 w _ ?side1 ?side2 A3.out).mono ?_); (case side1 => repeat ((with_reducible exact HI299.out))); (case side2 => repeat ((with_reducible exact HB.out))); rintro e w8 ⟨v302, v305, rfl, ho0, ho1, hi, hb, hk⟩; refine ⟨_, rfl, ?_⟩; replace BK295 := ak (KeepBut.blk hk (g' := gb295) (o := .cells #[.int .i64 0, .slice none 0 0, .slice none 0 0] 28 (0, 0)) (bk BK295) NB295_299.out (by simp)); have HO303 := ak (Kd.R_lower ho0 (below_size (by repeat ((with_reducible exact HB.out))))); have HO306 := ak (Kd.R_lower (Kd.R_newB ho1 (bk BK296)) (below_size (by repeat ((with_reducible exact HB.out))))); replace BK296 := ak (KeepBut.blk hk (g' := gb296) (o := .cells #[.int .i64 0, .int .i64 0, .int .i64 0] 30 (0, 0)) (bk BK296) NB296_299.out (by simp)); replace HB := ak (hb); replace HI299 := ak (hi); (try clear hb); (try clear hb2); (try clear hk); (try clear hi); (try clear ho0); (try clear ho1)) | ((with_reducible refine gate_dst (N := 5) rfl ?_); refine box_event ?hg (N := 5) ?hd (cs := #[.int .i64 0, .slice none 0 0, .slice none 0 0]) (t := 28) ?hr ?_; (case hd => rfl); (case hg => rfl); (case hr => (go_simp; done)); intro gb308 hg w9 hbox hb; replace HO303 := ak (Kd.R_below (rk HO303) hb); replace HO306 := ak (Kd.R_below (rk HO306) hb); have BK308 := ak (hbox); have GW308 := ak ((by rw [hg]; exact (below_size (by repeat ((with_reducible exact HB.out)))) : w.heap.size ≤ gb308)); have GE308 := ak ((by rw [hg]; exact (below_size (by repeat ((with_reducible exact HB.out)))) : w.heap.size ≤ gb308)); replace HB := ak (below_step (by repeat ((with_reducible exact HB.out))) hb); have NB295_308 := ak ((by rw [hg]; exact Nat.ne_of_lt (blk_lt (bk BK295)) : gb295 ≠ gb308)); have NB308_295 := ak ((by rw [hg]; exact Nat.ne_of_gt (blk_lt (bk BK295)) : gb308 ≠ gb295)); replace BK295 := ak (blk_below (bk BK295) hb); have NB296_308 := ak ((by rw [hg]; exact Nat.ne_of_lt (blk_lt (bk BK296)) : gb296 ≠ gb308)); have NB308_296 := ak ((by rw [hg]; exact Nat.ne_of_gt (blk_lt (bk BK296)) : gb308 ≠ gb296)); replace BK296 := ak (blk_below (bk BK296) hb); have NB299_308 := ak ((by rw [hg]; exact Nat.ne_of_lt (IsS59.lt (show IsS59 w _ g299 t297 t307 from by repeat ((with_reducible exact HI299.out)))) : g299 ≠ gb308)); have NB308_299 := ak ((by rw [hg]; exact Nat.ne_of_gt (IsS59.lt (show IsS59 w _ g299 t297 t307 from by repeat ((with_reducible exact HI299.out)))) : gb308 ≠ g299)); replace HI299 := ak (IsS59.below (by repeat ((with_reducible exact HI299.out))) hb); clear hb hbox hg; have hnb10 := NB308_295.out; have hnc10 := NB295_308.out; have hnb11 := NB308_296.out; have hnc11 := NB296_308.out; have hnb12 := NB308_299.out; have hnc12 := NB299_308.out; have hcz13_0 := bc w9 BK308 0 (.int .i64 0) rfl; have hcz13_1 := bc w9 BK308 1 (.slice none 0 0) rfl; have hcz13_2 := bc w9 BK308 2 (.slice none 0 0) rfl; have hfz13_0 := fz BK308 0; have hfz13_1 := fz BK308 1; have hfz13_2 := fz BK308 2; obtain ⟨Ao14, co14, eo14⟩ := Kd.R_slice HO303.out; subst eo14; obtain ⟨Ao15, co15, eo15⟩ := Kd.R_slice HO306.out; subst eo15))
 have n0_ : Aside0 (Kd.R k65 65 (((w9.setCell ⟨gb308, 0, none⟩ (.int .i64 t300)).setCell ⟨gb308, 1, none⟩ (.slice Ao14 t301.length co14)).setCell ⟨gb308, 2, none⟩ (.slice Ao15 t304.length co15)) w.heap.size (fun _ => True) (.slice Ao14 t301.length co14) t301) := ⟨by exact Kd.R_mono (Kd.R_far (p := ⟨gb308, 2, none⟩) (Kd.R_far (p := ⟨gb308, 1, none⟩) (Kd.R_far (p := ⟨gb308, 0, none⟩) (Kd.R_types HO303.out BK308.out (by decide)) (fun _ hk => hk.2) (.int .i64 t300)) (fun _ hk => hk.2) (.slice Ao14 t301.length co14)) (fun _ hk => hk.2) (.slice Ao15 t304.length co15)) (fun _ hk => trivial)⟩
 have n1_ : Aside0 (Kd.R k30 30 (((w9.setCell ⟨gb308, 0, none⟩ (.int .i64 t300)).setCell ⟨gb308, 1, none⟩ (.slice Ao14 t301.length co14)).setCell ⟨gb308, 2, none⟩ (.slice Ao15 t304.length co15)) w.heap.size (fun k_ => k_ ≠ gb296) (.slice Ao15 t304.length co15) t304) := ⟨by exact Kd.R_mono (Kd.R_far (p := ⟨gb308, 2, none⟩) (Kd.R_far (p := ⟨gb308, 1, none⟩) (Kd.R_far (p := ⟨gb308, 0, none⟩) (Kd.R_types HO306.out BK308.out (by decide)) (fun _ hk => hk.2) (.int .i64 t300)) (fun _ hk => hk.2) (.slice Ao14 t301.length co14)) (fun _ hk => hk.2) (.slice Ao15 t304.length co15)) (fun _ hk => hk.1.2)⟩
 have n2_ : Aside0 ((((w9.setCell ⟨gb308, 0, none⟩ (.int .i64 t300)).setCell ⟨gb308, 1, none⟩ (.slice Ao14 t301.length co14)).setCell ⟨gb308, 2, none⟩ (.slice Ao15 t304.length co15)).heap[gb295]? = some (.cells #[.int .i64 0, .slice none 0 0, .slice none 0 0] 28 (0, 0))) := ⟨by refine blk_far ?_ NB295_308.out _; refine blk_far ?_ NB295_308.out _; refine blk_far ?_ NB295_308.out _; exact BK295.out⟩
 have n3_ : Aside0 ((((w9.setCell ⟨gb308, 0, none⟩ (.int .i64 t300)).setCell ⟨gb308, 1, none⟩ (.slice Ao14 t301.length co14)).setCell ⟨gb308, 2, none⟩ (.slice Ao15 t304.length co15)).heap[gb296]? = some (.cells #[.int .i64 0, .int .i64 0, .int .i64 0] 30 (0, 0))) := ⟨by refine blk_far ?_ NB296_308.out _; refine blk_far ?_ NB296_308.out _; refine blk_far ?_ NB296_308.out _; exact BK296.out⟩
 have n4_ : Aside0 ((((w9.setCell ⟨gb308, 0, none⟩ (.int .i64 t300)).setCell ⟨gb308, 1, none⟩ (.slice Ao14 t301.length co14)).setCell ⟨gb308, 2, none⟩ (.slice Ao15 t304.length co15)).heap[gb308]? = some (.cells #[.int .i64 t300, .slice Ao14 t301.length co14, .slice Ao15 t304.length co15] 28 (0, 0))) := ⟨by refine blk_put (cs := #[.int .i64 t300, .slice Ao14 t301.length co14, .slice none 0 0]) ?_ 2 _ rfl; refine blk_put (cs := #[.int .i64 t300, .slice none 0 0, .slice none 0 0]) ?_ 1 _ rfl; refine blk_put (cs := #[.int .i64 0, .slice none 0 0, .slice none 0 0]) ?_ 0 _ rfl; exact BK308.out⟩
 have n5_ : Aside0 (IsS59 w (((w9.setCell ⟨gb308, 0, none⟩ (.int .i64 t300)).setCell ⟨gb308, 1, none⟩ (.slice Ao14 t301.length co14)).setCell ⟨gb308, 2, none⟩ (.slice Ao15 t304.length co15)) g299 t297 t307) := ⟨by repeat ((with_reducible first | exact HI299.out | refine IsS59.far ?_ NB299_308.out _))⟩
 have n6_ : Aside0 (Below w.heap.size w (((w9.setCell ⟨gb308, 0, none⟩ (.int .i64 t300)).setCell ⟨gb308, 1, none⟩ (.slice Ao14 t301.length co14)).setCell ⟨gb308, 2, none⟩ (.slice Ao15 t304.length co15))) := ⟨by repeat ((with_reducible first | exact HB.out | refine below_set ?_ GE308.out))⟩
 (try clear HO303)
 (try clear HO306)
 (try clear BK295)
 (try clear BK296)
 (try clear BK308)
 (try clear HI299)
 (try clear HB)
 generalize (((w9.setCell ⟨gb308, 0, none⟩ (.int .i64 t300)).setCell ⟨gb308, 1, none⟩ (.slice Ao14 t301.length co14)).setCell ⟨gb308, 2, none⟩ (.slice Ao15 t304.length co15)) = w16 at n0_ n1_ n2_ n3_ n4_ n5_ n6_ ⊢
 have HO303 := n0_
 have HO306 := n1_
 have BK295 := n2_
 have BK296 := n3_
 have BK308 := n4_
 have HI299 := n5_
 have HB := n6_
 clear n0_ n1_ n2_ n3_ n4_ n5_ n6_
 replace HO303 := ak (Kd.R_drew HO303.out)
 replace HO306 := ak (Kd.R_drew HO306.out)
 replace BK295 := ak (blk_drew BK295.out)
 replace BK296 := ak (blk_drew BK296.out)
 replace BK308 := ak (blk_drew BK308.out)
 replace HI299 := ak (IsS59.drew HI299.out)
 replace HB := ak (below_drew1 HB.out)
 refine start_ (n := 7) (S := fun w' => w'.cell? ⟨gb308, 0, none⟩ = some (.int .i64 t300) ∧ w'.cell? ⟨gb308, 1, none⟩ = some (.slice Ao14 t301.length co14) ∧ w'.cell? ⟨gb308, 2, none⟩ = some (.slice Ao15 t304.length co15)) (ds := []) #[false, false, false, false, false, false, false] (by kernel_rfl) rfl (by kernel_rfl) ⟨(blk_cell BK308.out 0).trans rfl, (blk_cell BK308.out 1).trans rfl, (blk_cell BK308.out 2).trans rfl⟩ (fun hHeld => ?_)
 generalize w16.drew = w17 at HO303 HO306 BK295 BK296 BK308 HI299 HB hHeld ⊢
 refine pure_ (i := 1) (N := some 11) (v := ?_) (a' := ?_) #[false, true, false, false, false, false, false] rfl rfl (by kernel_rfl) (fun _ _ _ h => h) (Or.inl ⟨by rfl, ?_⟩) ?_ ?_
 rotate_left
 ·intro w'
  go_simp
  with_reducible rfl
 rotate_left
 ·simp only [SX]
  rfl
 refine pure_ (i := 2) (N := some 12) (v := ?_) (a' := ?_) #[false, true, true, false, false, false, false] rfl rfl (by kernel_rfl) (fun _ _ _ h => h) (Or.inl ⟨by rfl, ?_⟩) ?_ ?_
 rotate_left
 ·intro w'
  go_simp
  with_reducible rfl
 rotate_left
 ·simp only [SX]
  rfl
 refine take_ (i := 0) (N := some 10) (v := ?_) (a' := ?_) #[true, true, true, false, false, false, false] rfl rfl (by kernel_rfl) (fun _ _ _ h => h) (Or.inl ⟨by rfl, ?_⟩) hHeld ?_ ?_
 rotate_left
 ·rintro w' ⟨s0, s1, s2⟩
  go_simp
  with_reducible rfl
 rotate_left
 ·simp only [SX]
  rfl
 refine take_ (i := 3) (N := some 13) (v := ?_) (a' := ?_) #[true, true, true, true, false, false, false] rfl rfl (by kernel_rfl) (fun _ _ _ h => h) (Or.inl ⟨by rfl, ?_⟩) hHeld ?_ ?_
 rotate_left
 ·rintro w' ⟨s0, s1, s2⟩
  go_simp
  with_reducible rfl
 rotate_left
 ·simp only [SX]
  rfl
 refine one_ (i := 4) (N := some 14) #[true, true, true, true, true, false, false] rfl rfl (by kernel_rfl) (by decide) (fun K hK => ?_)
 refine goes_ Try.func16 (by kernel_rfl) rfl #[.pointer (some ⟨g299, 0, none⟩), .agg #[.int .i64 t300, .slice Ao14 t301.length co14]] (by rfl) rfl rfl (by (try simp only [List.map_toArray, List.map_cons, List.map_nil]); rfl) ?_
 with_reducible refine (spec_l30News.calls k g299 t297 t307 t300 _ _ t301 t309 t310 t311 t312 w _ ?side1 ?side2 ?side3 ?side4 A4.out).mono ?_
 (case side1 => repeat ((with_reducible exact HI299.out)))
 (case side2 => repeat ((with_reducible exact HB.out)))
 (case side3 => exact Kd.C_foot_own (IsS59.apart (show IsS59 w _ g299 t297 t307 from by repeat ((with_reducible exact HI299.out))) (rk HO303) (by decide)) (fun _ h_ => h_.2))
 (case side4 => exact (Kd.R_reads' HO303.out).2.1)
 rintro e w18 ⟨rfl, hi, hb, hk⟩
 refine ⟨_, rfl, ?_⟩
 replace BK295 := ak (KeepBut.blk hk (g' := gb295) (o := .cells #[.int .i64 0, .slice none 0 0, .slice none 0 0] 28 (0, 0)) (bk BK295) NB295_299.out (by simp))
 replace BK296 := ak (KeepBut.blk hk (g' := gb296) (o := .cells #[.int .i64 0, .int .i64 0, .int .i64 0] 30 (0, 0)) (bk BK296) NB296_299.out (by simp))
 replace HO303 := ak (Kd.R_mono (Kd.R_keep (IsS59.apart (show IsS59 w _ g299 t297 t307 from by repeat ((with_reducible exact HI299.out))) (rk HO303) (by decide)) hk (fun _ h => h.2)) (fun _ h => h.1))
 replace HO306 := ak (Kd.R_mono (Kd.R_keep (IsS59.apart (show IsS59 w _ g299 t297 t307 from by repeat ((with_reducible exact HI299.out))) (rk HO306) (by decide)) hk (fun _ h => h.2)) (fun _ h => h.1))
 replace BK308 := ak (KeepBut.blk hk (g' := gb308) (o := .cells #[.int .i64 t300, .slice Ao14 t301.length co14, .slice Ao15 t304.length co15] 28 (0, 0)) (bk BK308) NB308_299.out (by simp))
 replace HB := ak (hb)
 replace HI299 := ak (hi)
 (try clear hb)
 (try clear hb2)
 (try clear hk)
 (try clear hi)
 refine hK.out _ _ ⟨(blk_cell BK308.out 0).trans rfl, (blk_cell BK308.out 1).trans rfl, (blk_cell BK308.out 2).trans rfl⟩ (fun hHeld => ?_)
 clear hK K
 refine norm_ (a' := ?_) ?_ ?_
 rotate_left
 ·show Act.put _ (some 14) _ = _
  simp only [SX]
  rfl
 refine one_ (i := 5) (N := none) #[true, true, true, true, true, true, false] rfl rfl (by kernel_rfl) (by decide) (fun K hK => ?_)
 have hs19 : w18.cell? ⟨gb295, 0, none⟩ = some (.int .i64 0) := (blk_cell BK295.out 0).trans rfl
 have hfs19 := blk_frozen BK295.out 0
 have hns19_1 := NB296_295.out
 have hns19_2 := NB308_295.out
 have hms19_1 := NB295_296.out
 have hms19_2 := NB295_308.out
 have hs20 : w18.cell? ⟨gb295, 1, none⟩ = some (.slice none 0 0) := (blk_cell BK295.out 1).trans rfl
 have hfs20 := blk_frozen BK295.out 1
 have hns20_1 := NB296_295.out
 have hns20_2 := NB308_295.out
 have hms20_1 := NB295_296.out
 have hms20_2 := NB295_308.out
 have hs21 : w18.cell? ⟨gb295, 2, none⟩ = some (.slice none 0 0) := (blk_cell BK295.out 2).trans rfl
 have hfs21 := blk_frozen BK295.out 2
 have hns21_1 := NB296_295.out
 have hns21_2 := NB308_295.out
 have hms21_1 := NB295_296.out
 have hms21_2 := NB295_308.out
 refine skip_ (w1 := ?_) (by rfl) rfl ?_ ?_
 rotate_left
 ·go_simp
  rfl
 refine hK.out _ _ ⟨((cell_far (p := ⟨gb295, _, none⟩) NB308_295.out _).trans (((cell_far (p := ⟨gb295, _, none⟩) NB308_295.out _).trans (((cell_far (p := ⟨gb295, _, none⟩) NB308_295.out _).trans (hHeld.1)))))), ((cell_far (p := ⟨gb295, _, none⟩) NB308_295.out _).trans (((cell_far (p := ⟨gb295, _, none⟩) NB308_295.out _).trans (((cell_far (p := ⟨gb295, _, none⟩) NB308_295.out _).trans (hHeld.2.1)))))), ((cell_far (p := ⟨gb295, _, none⟩) NB308_295.out _).trans (((cell_far (p := ⟨gb295, _, none⟩) NB308_295.out _).trans (((cell_far (p := ⟨gb295, _, none⟩) NB308_295.out _).trans (hHeld.2.2))))))⟩ (fun hHeld => ?_)
 clear hK K
 refine one_ (i := 6) (N := none) #[true, true, true, true, true, true, true] rfl rfl (by kernel_rfl) (by decide) (fun K hK => ?_)
 have hs22 : w18.cell? ⟨gb296, 0, none⟩ = some (.int .i64 0) := (blk_cell BK296.out 0).trans rfl
 have hfs22 := blk_frozen BK296.out 0
 have hns22_0 := NB295_296.out
 have hns22_2 := NB308_296.out
 have hms22_0 := NB296_295.out
 have hms22_2 := NB296_308.out
 have hs23 : w18.cell? ⟨gb296, 1, none⟩ = some (.int .i64 0) := (blk_cell BK296.out 1).trans rfl
 have hfs23 := blk_frozen BK296.out 1
 have hns23_0 := NB295_296.out
 have hns23_2 := NB308_296.out
 have hms23_0 := NB296_295.out
 have hms23_2 := NB296_308.out
 have hs24 : w18.cell? ⟨gb296, 2, none⟩ = some (.int .i64 0) := (blk_cell BK296.out 2).trans rfl
 have hfs24 := blk_frozen BK296.out 2
 have hns24_0 := NB295_296.out
 have hns24_2 := NB308_296.out
 have hms24_0 := NB296_295.out
 have hms24_2 := NB296_308.out
 refine skip_ (w1 := ?_) (by rfl) rfl ?_ ?_
 rotate_left
 ·go_simp
  rfl
 refine hK.out _ _ ⟨((cell_far (p := ⟨gb296, _, none⟩) NB308_296.out _).trans (((cell_far (p := ⟨gb296, _, none⟩) NB308_296.out _).trans (((cell_far (p := ⟨gb296, _, none⟩) NB308_296.out _).trans (hHeld.1)))))), ((cell_far (p := ⟨gb296, _, none⟩) NB308_296.out _).trans (((cell_far (p := ⟨gb296, _, none⟩) NB308_296.out _).trans (((cell_far (p := ⟨gb296, _, none⟩) NB308_296.out _).trans (hHeld.2.1)))))), ((cell_far (p := ⟨gb296, _, none⟩) NB308_296.out _).trans (((cell_far (p := ⟨gb296, _, none⟩) NB308_296.out _).trans (((cell_far (p := ⟨gb296, _, none⟩) NB308_296.out _).trans (hHeld.2.2))))))⟩ (fun hHeld => ?_)
 clear hK K
 refine done_ (by kernel_rfl) ?_
 try go_wp2
 refine bodyPost_ret (results_cc rfl _ _ gb295 gb296 28 30 #[.int .i64 t300, .slice Ao14 t301.length co14, .slice Ao15 t304.length co15] #[.int .i64 t309, .int .i64 t310, .int .i64 t311] (0, 0) (0, 0) _ _ rfl (by refine blk_far ?_ NB295_296.out _; refine blk_far ?_ NB295_296.out _; refine blk_far ?_ NB295_296.out _; refine blk_put (cs := #[.int .i64 t300, .slice Ao14 t301.length co14, .slice none 0 0]) ?_ 2 _ rfl; refine blk_put (cs := #[.int .i64 t300, .slice none 0 0, .slice none 0 0]) ?_ 1 _ rfl; refine blk_put (cs := #[.int .i64 0, .slice none 0 0, .slice none 0 0]) ?_ 0 _ rfl; exact BK295.out) Try.underlying28 rfl (by kernel_rfl) rfl (by refine blk_put (cs := #[.int .i64 t309, .int .i64 t310, .int .i64 0]) ?_ 2 _ rfl; refine blk_put (cs := #[.int .i64 t309, .int .i64 0, .int .i64 0]) ?_ 1 _ rfl; refine blk_put (cs := #[.int .i64 0, .int .i64 0, .int .i64 0]) ?_ 0 _ rfl; refine blk_far ?_ NB296_295.out _; refine blk_far ?_ NB296_295.out _; refine blk_far ?_ NB296_295.out _; exact BK296.out) Try.underlying30 rfl (by kernel_rfl)) rfl ?_
 exact ⟨_, _, by rfl, by exact Kd.R_mono (Kd.R_far (p := ⟨gb296, 2, none⟩) (Kd.R_far (p := ⟨gb296, 1, none⟩) (Kd.R_far (p := ⟨gb296, 0, none⟩) (Kd.R_far (p := ⟨gb295, 2, none⟩) (Kd.R_far (p := ⟨gb295, 1, none⟩) (Kd.R_far (p := ⟨gb295, 0, none⟩) (Kd.R_types (Kd.R_types HO303.out BK295.out (by decide)) BK296.out (by decide)) (fun _ hk => hk.1.2) (.int .i64 t300)) (fun _ hk => hk.1.2) (.slice Ao14 t301.length co14)) (fun _ hk => hk.1.2) (.slice Ao15 t304.length co15)) (fun _ hk => hk.2) (.int .i64 t309)) (fun _ hk => hk.2) (.int .i64 t310)) (fun _ hk => hk.2) (.int .i64 t311)) (fun _ hk => trivial), by exact Kd.R_mono (Kd.R_far (p := ⟨gb296, 2, none⟩) (Kd.R_far (p := ⟨gb296, 1, none⟩) (Kd.R_far (p := ⟨gb296, 0, none⟩) (Kd.R_far (p := ⟨gb295, 2, none⟩) (Kd.R_far (p := ⟨gb295, 1, none⟩) (Kd.R_far (p := ⟨gb295, 0, none⟩) (Kd.R_mono (Kd.R_types HO306.out BK295.out (by decide)) (fun k_ hk => (⟨hk, hk.1⟩ : _ ∧ k_ ≠ gb296))) (fun _ hk => hk.1.2) (.int .i64 t300)) (fun _ hk => hk.1.2) (.slice Ao14 t301.length co14)) (fun _ hk => hk.1.2) (.slice Ao15 t304.length co15)) (fun _ hk => hk.2) (.int .i64 t309)) (fun _ hk => hk.2) (.int .i64 t310)) (fun _ hk => hk.2) (.int .i64 t311)) (fun _ hk => trivial), by repeat ((with_reducible first | exact HB.out | refine below_set ?_ GE295.out | refine below_set ?_ GE296.out))⟩

end Go.Proofs.Ytbcedkcjodokkaa.F
