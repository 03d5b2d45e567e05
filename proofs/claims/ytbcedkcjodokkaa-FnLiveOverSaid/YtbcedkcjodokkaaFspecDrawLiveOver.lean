-- Printed by wip/px/px.py of this claim's repository (the kit's printer, extended there). Lean checks it.
import Derived.Test.YtbcedkcjodokkaaFKinds
import Derived.Test.YtbcedkcjodokkaaFspecl30Open
import Derived.Test.YtbcedkcjodokkaaFspecl30Rdpick
import Derived.Test.YtbcedkcjodokkaaFspecl30Live
namespace Go.Proofs.Ytbcedkcjodokkaa.F
open Go.RowKit Go.Proofs.YtbcedkcjodokkaaW.PrintWords Go.Proofs.YtbcedkcjodokkaaW.PrintLast Go.Proofs.YtbcedkcjodokkaaW.PrintMore
attribute [local go_sem] max2_int min2_int max_two min_two max_three min_three max_four min_four   -- for this text's walks alone
set_option linter.unusedVariables false
set_option linter.unusedSimpArgs false

/-! ### spec_DrawLiveOver: function 11 -/
def spec_DrawLiveOver.f (k : Nat) (l0 : List Int) : Option (Int × (List (S65)) × (List (S30)) × Int) := (spec_l30Open.f l0).bind fun bt514 => ((spec_l30Live.f k bt514.1 bt514.2).bind fun bt517 => ((spec_l30Rd_pick.f k bt514.1 bt517.2.2.2 8).bind fun bt526 => (some (bt517.1, bt517.2.1, bt517.2.2.1, bt526.1))))
theorem spec_DrawLiveOver.mono : ∀ a0 k, LeO (spec_DrawLiveOver.f k a0) (spec_DrawLiveOver.f (k + 1) a0) := by
 intro a0 k
 unfold spec_DrawLiveOver.f
 repeat' first | (with_reducible exact spec_l30Live.mono _ _ _) | (with_reducible exact spec_l30Rd_pick.mono _ _ _ _) | (with_reducible exact LeO.refl _) | (with_reducible refine LeO.bind ?_ (fun _ => ?_))
set_option maxHeartbeats 8000000 in
set_option maxRecDepth 100000 in
theorem spec_DrawLiveOver.calls (k : Nat) (A0 : Option Addr) (c0 : Nat) (l0 : List Int) (r1 : Int) (r2 : List (S65)) (r3 : List (S30)) (r4 : Int) (w : World) (hr0 : Kd.C (Kd.int .u8) w A0 l0.length l0) (hc0 : l0.length ≤ c0) (h : spec_DrawLiveOver.f k l0 = some (r1, r2, r3, r4)) :
  Calls Try.prog 11 #[.slice A0 l0.length c0] w fun e w' => ∃ v1_ v2_ : Value, e = .returned (.tuple #[.agg #[.int .i64 r1, v1_, v2_], .int .i64 r4]) ∧ Kd.R k65 65 w' w.heap.size (fun _ => True) v1_ r2 ∧ Kd.R k30 30 w' w.heap.size (fun _ => True) v2_ r3 ∧ Below w.heap.size w w' := by
 have hu28 := Try.underlying28
 have HR0 := ak hr0
 have HC0 := ak hc0
 clear hr0 hc0
 have HB := ak (Below.refl w.heap.size w)
 have H : ((spec_l30Open.f l0).bind fun bt514 => ((spec_l30Live.f k bt514.1 bt514.2).bind fun bt517 => ((spec_l30Rd_pick.f k bt514.1 bt517.2.2.2 8).bind fun bt526 => (some (bt517.1, bt517.2.1, bt517.2.2.1, bt526.1))))) = some (r1, r2, r3, r4) := h
 clear h
 replace H := Option.bind_eq_some_iff.mp H
 obtain ⟨⟨t514, t515⟩, A20, H⟩ := H
 have A2 := ak A20
 clear A20
 replace H := Option.bind_eq_some_iff.mp H
 obtain ⟨⟨t517, t518, t521, t524⟩, A30, H⟩ := H
 have A3 := ak A30
 clear A30
 replace H := Option.bind_eq_some_iff.mp H
 obtain ⟨⟨t526, t527⟩, A40, H⟩ := H
 have A4 := ak A40
 clear A40
 simp only [Option.some.injEq, Prod.mk.injEq] at H
 obtain ⟨rfl, rfl, rfl, rfl⟩ := H
 go_enter Try.func11, Try.ntmps11
 try go_wp2_with (first | ((with_reducible refine gate_dst (N := 2) rfl ?_); refine box_event ?hg (N := 2) ?hd (cs := #[.int .i64 0, .slice none 0 0, .slice none 0 0]) (t := 28) ?hr ?_; (case hd => rfl); (case hg => rfl); (case hr => (go_simp; done)); intro gb513 hg w5 hbox hb; have BK513 := ak (hbox); have GW513 := ak ((by rw [hg]; exact (below_size (bl HB)) : w.heap.size ≤ gb513)); have GE513 := ak ((by rw [hg]; exact (below_size (bl HB)) : w.heap.size ≤ gb513)); replace HB := ak (below_step (bl HB) hb); clear hb hbox hg) | ((with_reducible refine gate_callee (f := 14) rfl ?_); refine goesL_ (some 7) rfl rfl Try.func14 (by kernel_rfl) rfl #[.slice A0 l0.length c0] rfl (by (try simp only [List.map_toArray, List.map_cons, List.map_nil]); rfl) ?_; (with_reducible refine (spec_l30Open.calls _ _ l0 t514 t515 w _ ?side1 ?side2 ?side3 A2.out).mono ?_); (case side1 => repeat ((with_reducible exact HB.out))); (case side2 => exact HR0.out); (case side3 => exact HC0.out); rintro e w6 ⟨g516, rfl, hi, hb, hb2⟩; refine ⟨_, rfl, ?_⟩; replace HB := ak (hb); have HI516 := ak (hi); have NB516_513 := ak (IsS59.ne_blk hi (blk_below (bk BK513) hb2) (by decide)); have NB513_516 := ak (Ne.symm (IsS59.ne_blk hi (blk_below (bk BK513) hb2) (by decide))); replace BK513 := ak (blk_below (bk BK513) hb2); (try clear hb); (try clear hb2); (try clear hk); (try clear hi)) | ((with_reducible refine gate_callee (f := 15) rfl ?_); refine goesL_ (some 9) rfl rfl Try.func15 (by kernel_rfl) rfl #[.pointer (some ⟨g516, 0, none⟩)] rfl (by (try simp only [List.map_toArray, List.map_cons, List.map_nil]); rfl) ?_; (with_reducible refine (spec_l30Live.calls k g516 t514 t515 t517 t518 t521 t524 w _ ?side1 ?side2 A3.out).mono ?_); (case side1 => repeat ((with_reducible exact HI516.out))); (case side2 => repeat ((with_reducible exact HB.out))); rintro e w7 ⟨v519, v522, rfl, ho0, ho1, hi, hb, hk⟩; refine ⟨_, rfl, ?_⟩; replace BK513 := ak (KeepBut.blk hk (g' := gb513) (o := .cells #[.int .i64 0, .slice none 0 0, .slice none 0 0] 28 (0, 0)) (bk BK513) NB513_516.out (by simp)); have HO520 := ak (Kd.R_lower ho0 (below_size (by repeat ((with_reducible exact HB.out))))); have HO523 := ak (Kd.R_lower ho1 (below_size (by repeat ((with_reducible exact HB.out))))); replace HB := ak (hb); replace HI516 := ak (hi); (try clear hb); (try clear hb2); (try clear hk); (try clear hi); (try clear ho0); (try clear ho1)) | ((with_reducible refine gate_dst (N := 5) rfl ?_); refine box_event ?hg (N := 5) ?hd (cs := #[.int .i64 0, .slice none 0 0, .slice none 0 0]) (t := 28) ?hr ?_; (case hd => rfl); (case hg => rfl); (case hr => (go_simp; done)); intro gb525 hg w8 hbox hb; replace HO520 := ak (Kd.R_below (rk HO520) hb); replace HO523 := ak (Kd.R_below (rk HO523) hb); have BK525 := ak (hbox); have GW525 := ak ((by rw [hg]; exact (below_size (by repeat ((with_reducible exact HB.out)))) : w.heap.size ≤ gb525)); have GE525 := ak ((by rw [hg]; exact (below_size (by repeat ((with_reducible exact HB.out)))) : w.heap.size ≤ gb525)); replace HB := ak (below_step (by repeat ((with_reducible exact HB.out))) hb); have NB513_525 := ak ((by rw [hg]; exact Nat.ne_of_lt (blk_lt (bk BK513)) : gb513 ≠ gb525)); have NB525_513 := ak ((by rw [hg]; exact Nat.ne_of_gt (blk_lt (bk BK513)) : gb525 ≠ gb513)); replace BK513 := ak (blk_below (bk BK513) hb); have NB516_525 := ak ((by rw [hg]; exact Nat.ne_of_lt (IsS59.lt (show IsS59 w _ g516 t514 t524 from by repeat ((with_reducible exact HI516.out)))) : g516 ≠ gb525)); have NB525_516 := ak ((by rw [hg]; exact Nat.ne_of_gt (IsS59.lt (show IsS59 w _ g516 t514 t524 from by repeat ((with_reducible exact HI516.out)))) : gb525 ≠ g516)); replace HI516 := ak (IsS59.below (by repeat ((with_reducible exact HI516.out))) hb); clear hb hbox hg; have hnb9 := NB525_513.out; have hnc9 := NB513_525.out; have hnb10 := NB525_516.out; have hnc10 := NB516_525.out; have hcz11_0 := bc w8 BK525 0 (.int .i64 0) rfl; have hcz11_1 := bc w8 BK525 1 (.slice none 0 0) rfl; have hcz11_2 := bc w8 BK525 2 (.slice none 0 0) rfl; have hfz11_0 := fz BK525 0; have hfz11_1 := fz BK525 1; have hfz11_2 := fz BK525 2; obtain ⟨Ao12, co12, eo12⟩ := Kd.R_slice HO520.out; subst eo12; obtain ⟨Ao13, co13, eo13⟩ := Kd.R_slice HO523.out; subst eo13))
 have n0_ : Aside0 (Kd.R k65 65 (((w8.setCell ⟨gb525, 0, none⟩ (.int .i64 t517)).setCell ⟨gb525, 1, none⟩ (.slice Ao12 t518.length co12)).setCell ⟨gb525, 2, none⟩ (.slice Ao13 t521.length co13)) w.heap.size (fun _ => True) (.slice Ao12 t518.length co12) t518) := ⟨by exact Kd.R_mono (Kd.R_far (p := ⟨gb525, 2, none⟩) (Kd.R_far (p := ⟨gb525, 1, none⟩) (Kd.R_far (p := ⟨gb525, 0, none⟩) (Kd.R_types HO520.out BK525.out (by decide)) (fun _ hk => hk.2) (.int .i64 t517)) (fun _ hk => hk.2) (.slice Ao12 t518.length co12)) (fun _ hk => hk.2) (.slice Ao13 t521.length co13)) (fun _ hk => trivial)⟩
 have n1_ : Aside0 (Kd.R k30 30 (((w8.setCell ⟨gb525, 0, none⟩ (.int .i64 t517)).setCell ⟨gb525, 1, none⟩ (.slice Ao12 t518.length co12)).setCell ⟨gb525, 2, none⟩ (.slice Ao13 t521.length co13)) w.heap.size (fun _ => True) (.slice Ao13 t521.length co13) t521) := ⟨by exact Kd.R_mono (Kd.R_far (p := ⟨gb525, 2, none⟩) (Kd.R_far (p := ⟨gb525, 1, none⟩) (Kd.R_far (p := ⟨gb525, 0, none⟩) (Kd.R_types HO523.out BK525.out (by decide)) (fun _ hk => hk.2) (.int .i64 t517)) (fun _ hk => hk.2) (.slice Ao12 t518.length co12)) (fun _ hk => hk.2) (.slice Ao13 t521.length co13)) (fun _ hk => trivial)⟩
 have n2_ : Aside0 ((((w8.setCell ⟨gb525, 0, none⟩ (.int .i64 t517)).setCell ⟨gb525, 1, none⟩ (.slice Ao12 t518.length co12)).setCell ⟨gb525, 2, none⟩ (.slice Ao13 t521.length co13)).heap[gb513]? = some (.cells #[.int .i64 0, .slice none 0 0, .slice none 0 0] 28 (0, 0))) := ⟨by refine blk_far ?_ NB513_525.out _; refine blk_far ?_ NB513_525.out _; refine blk_far ?_ NB513_525.out _; exact BK513.out⟩
 have n3_ : Aside0 ((((w8.setCell ⟨gb525, 0, none⟩ (.int .i64 t517)).setCell ⟨gb525, 1, none⟩ (.slice Ao12 t518.length co12)).setCell ⟨gb525, 2, none⟩ (.slice Ao13 t521.length co13)).heap[gb525]? = some (.cells #[.int .i64 t517, .slice Ao12 t518.length co12, .slice Ao13 t521.length co13] 28 (0, 0))) := ⟨by refine blk_put (cs := #[.int .i64 t517, .slice Ao12 t518.length co12, .slice none 0 0]) ?_ 2 _ rfl; refine blk_put (cs := #[.int .i64 t517, .slice none 0 0, .slice none 0 0]) ?_ 1 _ rfl; refine blk_put (cs := #[.int .i64 0, .slice none 0 0, .slice none 0 0]) ?_ 0 _ rfl; exact BK525.out⟩
 have n4_ : Aside0 (IsS59 w (((w8.setCell ⟨gb525, 0, none⟩ (.int .i64 t517)).setCell ⟨gb525, 1, none⟩ (.slice Ao12 t518.length co12)).setCell ⟨gb525, 2, none⟩ (.slice Ao13 t521.length co13)) g516 t514 t524) := ⟨by repeat ((with_reducible first | exact HI516.out | refine IsS59.far ?_ NB516_525.out _))⟩
 have n5_ : Aside0 (Below w.heap.size w (((w8.setCell ⟨gb525, 0, none⟩ (.int .i64 t517)).setCell ⟨gb525, 1, none⟩ (.slice Ao12 t518.length co12)).setCell ⟨gb525, 2, none⟩ (.slice Ao13 t521.length co13))) := ⟨by repeat ((with_reducible first | exact HB.out | refine below_set ?_ GE525.out))⟩
 (try clear HO520)
 (try clear HO523)
 (try clear BK513)
 (try clear BK525)
 (try clear HI516)
 (try clear HB)
 generalize (((w8.setCell ⟨gb525, 0, none⟩ (.int .i64 t517)).setCell ⟨gb525, 1, none⟩ (.slice Ao12 t518.length co12)).setCell ⟨gb525, 2, none⟩ (.slice Ao13 t521.length co13)) = w14 at n0_ n1_ n2_ n3_ n4_ n5_ ⊢
 have HO520 := n0_
 have HO523 := n1_
 have BK513 := n2_
 have BK525 := n3_
 have HI516 := n4_
 have HB := n5_
 clear n0_ n1_ n2_ n3_ n4_ n5_
 replace HO520 := ak (Kd.R_drew HO520.out)
 replace HO523 := ak (Kd.R_drew HO523.out)
 replace BK513 := ak (blk_drew BK513.out)
 replace BK525 := ak (blk_drew BK525.out)
 replace HI516 := ak (IsS59.drew HI516.out)
 replace HB := ak (below_drew1 HB.out)
 refine start_ (n := 5) (S := fun w' => w'.cell? ⟨gb525, 0, none⟩ = some (.int .i64 t517) ∧ w'.cell? ⟨gb525, 1, none⟩ = some (.slice Ao12 t518.length co12) ∧ w'.cell? ⟨gb525, 2, none⟩ = some (.slice Ao13 t521.length co13)) (ds := []) #[false, false, false, false, false] (by kernel_rfl) rfl (by kernel_rfl) ⟨(blk_cell BK525.out 0).trans rfl, (blk_cell BK525.out 1).trans rfl, (blk_cell BK525.out 2).trans rfl⟩ (fun hHeld => ?_)
 generalize w14.drew = w15 at HO520 HO523 BK513 BK525 HI516 HB hHeld ⊢
 refine pure_ (i := 1) (N := some 11) (v := ?_) (a' := ?_) #[false, true, false, false, false] rfl rfl (by kernel_rfl) (fun _ _ _ h => h) (Or.inl ⟨by rfl, ?_⟩) ?_ ?_
 rotate_left
 ·intro w'
  go_simp
  with_reducible rfl
 rotate_left
 ·simp only [SX]
  rfl
 refine take_ (i := 0) (N := some 10) (v := ?_) (a' := ?_) #[true, true, false, false, false] rfl rfl (by kernel_rfl) (fun _ _ _ h => h) (Or.inl ⟨by rfl, ?_⟩) hHeld ?_ ?_
 rotate_left
 ·rintro w' ⟨s0, s1, s2⟩
  go_simp
  with_reducible rfl
 rotate_left
 ·simp only [SX]
  rfl
 refine one_ (i := 2) (N := some 12) #[true, true, true, false, false] rfl rfl (by kernel_rfl) (by decide) (fun K hK => ?_)
 refine goes_ Try.func27 (by kernel_rfl) rfl #[.pointer (some ⟨g516, 0, none⟩), .int .i64 8] (by rfl) rfl rfl (by (try simp only [List.map_toArray, List.map_cons, List.map_nil]); rfl) ?_
 with_reducible refine (spec_l30Rd_pick.calls k g516 t514 t524 8 t526 t527 w _ ?side1 ?side2 A4.out).mono ?_
 (case side1 => repeat ((with_reducible exact HI516.out)))
 (case side2 => repeat ((with_reducible exact HB.out)))
 rintro e w16 ⟨rfl, hi, hb, hk⟩
 refine ⟨_, rfl, ?_⟩
 replace BK513 := ak (KeepBut.blk hk (g' := gb513) (o := .cells #[.int .i64 0, .slice none 0 0, .slice none 0 0] 28 (0, 0)) (bk BK513) NB513_516.out (by simp))
 replace HO520 := ak (Kd.R_mono (Kd.R_keep (IsS59.apart (show IsS59 w _ g516 t514 t524 from by repeat ((with_reducible exact HI516.out))) (rk HO520) (by decide)) hk (fun _ h => h.2)) (fun _ h => h.1))
 replace HO523 := ak (Kd.R_mono (Kd.R_keep (IsS59.apart (show IsS59 w _ g516 t514 t524 from by repeat ((with_reducible exact HI516.out))) (rk HO523) (by decide)) hk (fun _ h => h.2)) (fun _ h => h.1))
 replace BK525 := ak (KeepBut.blk hk (g' := gb525) (o := .cells #[.int .i64 t517, .slice Ao12 t518.length co12, .slice Ao13 t521.length co13] 28 (0, 0)) (bk BK525) NB525_516.out (by simp))
 replace HB := ak (hb)
 replace HI516 := ak (hi)
 (try clear hb)
 (try clear hb2)
 (try clear hk)
 (try clear hi)
 refine hK.out _ _ ⟨(blk_cell BK525.out 0).trans rfl, (blk_cell BK525.out 1).trans rfl, (blk_cell BK525.out 2).trans rfl⟩ (fun hHeld => ?_)
 clear hK K
 refine norm_ (a' := ?_) ?_ ?_
 rotate_left
 ·show Act.put _ (some 12) _ = _
  simp only [SX]
  rfl
 refine one_ (i := 3) (N := none) #[true, true, true, true, false] rfl rfl (by kernel_rfl) (by decide) (fun K hK => ?_)
 have hs17 : w16.cell? ⟨gb513, 0, none⟩ = some (.int .i64 0) := (blk_cell BK513.out 0).trans rfl
 have hfs17 := blk_frozen BK513.out 0
 have hns17_1 := NB525_513.out
 have hms17_1 := NB513_525.out
 have hs18 : w16.cell? ⟨gb513, 1, none⟩ = some (.slice none 0 0) := (blk_cell BK513.out 1).trans rfl
 have hfs18 := blk_frozen BK513.out 1
 have hns18_1 := NB525_513.out
 have hms18_1 := NB513_525.out
 have hs19 : w16.cell? ⟨gb513, 2, none⟩ = some (.slice none 0 0) := (blk_cell BK513.out 2).trans rfl
 have hfs19 := blk_frozen BK513.out 2
 have hns19_1 := NB525_513.out
 have hms19_1 := NB513_525.out
 refine skip_ (w1 := ?_) (by rfl) rfl ?_ ?_
 rotate_left
 ·go_simp
  rfl
 refine hK.out _ _ ⟨((cell_far (p := ⟨gb513, _, none⟩) NB525_513.out _).trans (((cell_far (p := ⟨gb513, _, none⟩) NB525_513.out _).trans (((cell_far (p := ⟨gb513, _, none⟩) NB525_513.out _).trans (hHeld.1)))))), ((cell_far (p := ⟨gb513, _, none⟩) NB525_513.out _).trans (((cell_far (p := ⟨gb513, _, none⟩) NB525_513.out _).trans (((cell_far (p := ⟨gb513, _, none⟩) NB525_513.out _).trans (hHeld.2.1)))))), ((cell_far (p := ⟨gb513, _, none⟩) NB525_513.out _).trans (((cell_far (p := ⟨gb513, _, none⟩) NB525_513.out _).trans (((cell_far (p := ⟨gb513, _, none⟩) NB525_513.out _).trans (hHeld.2.2))))))⟩ (fun hHeld => ?_)
 clear hK K
 refine pure_ (i := 4) (N := some 3) (v := ?_) (a' := ?_) #[true, true, true, true, true] rfl rfl (by kernel_rfl) (fun _ _ _ h => h) (Or.inl ⟨by rfl, ?_⟩) ?_ ?_
 rotate_left
 ·intro w'
  go_simp
  with_reducible rfl
 rotate_left
 ·simp only [SX]
  rfl
 refine done_ (by kernel_rfl) ?_
 try go_wp2
 refine bodyPost_ret (results_ct rfl _ _ gb513 28 #[.int .i64 t517, .slice Ao12 t518.length co12, .slice Ao13 t521.length co13] (0, 0) _ rfl (by refine blk_put (cs := #[.int .i64 t517, .slice Ao12 t518.length co12, .slice none 0 0]) ?_ 2 _ rfl; refine blk_put (cs := #[.int .i64 t517, .slice none 0 0, .slice none 0 0]) ?_ 1 _ rfl; refine blk_put (cs := #[.int .i64 0, .slice none 0 0, .slice none 0 0]) ?_ 0 _ rfl; exact BK513.out) Try.underlying28 rfl (by kernel_rfl)) rfl ?_
 exact ⟨_, _, by rfl, by exact Kd.R_mono (Kd.R_far (p := ⟨gb513, 2, none⟩) (Kd.R_far (p := ⟨gb513, 1, none⟩) (Kd.R_far (p := ⟨gb513, 0, none⟩) (Kd.R_types HO520.out BK513.out (by decide)) (fun _ hk => hk.2) (.int .i64 t517)) (fun _ hk => hk.2) (.slice Ao12 t518.length co12)) (fun _ hk => hk.2) (.slice Ao13 t521.length co13)) (fun _ hk => trivial), by exact Kd.R_mono (Kd.R_far (p := ⟨gb513, 2, none⟩) (Kd.R_far (p := ⟨gb513, 1, none⟩) (Kd.R_far (p := ⟨gb513, 0, none⟩) (Kd.R_types HO523.out BK513.out (by decide)) (fun _ hk => hk.2) (.int .i64 t517)) (fun _ hk => hk.2) (.slice Ao12 t518.length co12)) (fun _ hk => hk.2) (.slice Ao13 t521.length co13)) (fun _ hk => trivial), by repeat ((with_reducible first | exact HB.out | refine below_set ?_ GE513.out))⟩

end Go.Proofs.Ytbcedkcjodokkaa.F
