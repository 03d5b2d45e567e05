-- Printed by wip/px/px.py of this claim's repository (the kit's printer, extended there). Lean checks it.
import Derived.Test.YtlgolgfcolnddaaFKinds
import Derived.Test.YtlgolgfcolnddaaFspecl30Open
import Derived.Test.YtlgolgfcolnddaaFspecl30AnyNet
import Derived.Test.YtlgolgfcolnddaaFspecl30AnyWalk
namespace Go.Proofs.Ytlgolgfcolnddaa.F
open Go.RowKit Go.Proofs.YtlgolgfcolnddaaW.PrintWords Go.Proofs.YtlgolgfcolnddaaW.PrintLast Go.Proofs.YtlgolgfcolnddaaW.PrintMore
attribute [local go_sem] max2_int min2_int max_two min_two max_three min_three max_four min_four   -- for this text's walks alone
set_option linter.unusedVariables false
set_option linter.unusedSimpArgs false

/-! ### spec_DrawWalkOk: function 72 -/
def spec_DrawWalkOk.f (k : Nat) (l0 : List Int) : Option (Int × (List (S58)) × List Int) := (spec_l30Open.f l0).bind fun bt567 => ((spec_l30AnyNet.f k bt567.1 bt567.2).bind fun bt570 => ((spec_l30AnyWalk.f k bt567.1 bt570.2.2 bt570.1 bt570.2.1).bind fun bt576 => (some (bt570.1, bt570.2.1, bt576.1))))
theorem spec_DrawWalkOk.mono : ∀ a0 k, LeO (spec_DrawWalkOk.f k a0) (spec_DrawWalkOk.f (k + 1) a0) := by
 intro a0 k
 unfold spec_DrawWalkOk.f
 repeat' first
   | (with_reducible exact spec_l30AnyNet.mono _ _ _)
   | (with_reducible exact spec_l30AnyWalk.mono _ _ _ _ _)
   | (with_reducible exact LeO.refl _)
   | (with_reducible exact LeO.none _)
   | (with_reducible refine LeO.ite ?_ ?_)
   | (with_reducible refine LeO.bind ?_ (fun _ => ?_))
   | exact spec_l30AnyNet.mono _ _ _
   | exact spec_l30AnyWalk.mono _ _ _ _ _
   | exact LeO.none _
   | refine LeO.ite ?_ ?_
   | refine LeO.bind ?_ (fun _ => ?_)
set_option maxHeartbeats 8000000 in
set_option maxRecDepth 100000 in
theorem spec_DrawWalkOk.calls (k : Nat) (A0 : Option Addr) (c0 : Nat) (l0 : List Int) (r1 : Int) (r2 : List (S58)) (r3 : List Int) (w : World) (hr0 : Kd.C (Kd.int .u8) w A0 l0.length l0) (hc0 : l0.length ≤ c0) (h : spec_DrawWalkOk.f k l0 = some (r1, r2, r3)) :
  Calls Try.prog 72 #[.slice A0 l0.length c0] w fun e w' => ∃ v1_ v2_ : Value, e = .returned (.tuple #[.agg #[.int .i64 r1, v1_], v2_]) ∧ Kd.R k58 58 w' w.heap.size (fun _ => True) v1_ r2 ∧ Kd.R (Kd.int .i64) 3 w' w.heap.size (fun _ => True) v2_ r3 ∧ Below w.heap.size w w' := by
 have hu25 := Try.underlying25
 have HR0 := ak hr0
 have HC0 := ak hc0
 clear hr0 hc0
 have HB := ak (Below.refl w.heap.size w)
 have H : ((spec_l30Open.f l0).bind fun bt567 => ((spec_l30AnyNet.f k bt567.1 bt567.2).bind fun bt570 => ((spec_l30AnyWalk.f k bt567.1 bt570.2.2 bt570.1 bt570.2.1).bind fun bt576 => (some (bt570.1, bt570.2.1, bt576.1))))) = some (r1, r2, r3) := h
 clear h
 replace H := Option.bind_eq_some_iff.mp H
 obtain ⟨⟨t567, t568⟩, A20, H⟩ := H
 have A2 := ak A20
 clear A20
 replace H := Option.bind_eq_some_iff.mp H
 obtain ⟨⟨t570, t571, t574⟩, A30, H⟩ := H
 have A3 := ak A30
 clear A30
 replace H := Option.bind_eq_some_iff.mp H
 obtain ⟨⟨t576, t579⟩, A40, H⟩ := H
 have A4 := ak A40
 clear A40
 simp only [Option.some.injEq, Prod.mk.injEq] at H
 obtain ⟨rfl, rfl, rfl⟩ := H
 go_enter Try.func72, Try.ntmps72
 try go_wp2_with (first | ((with_reducible refine gate_dst (N := 2) rfl ?_); refine box_event ?hg (N := 2) ?hd (cs := #[.int .i64 0, .slice none 0 0]) (t := 25) ?hr ?_; (case hd => rfl); (case hg => rfl); (case hr => first | (go_simp; done) | (go_simp; rfl)); intro gb566 hg w5 hbox hb; have BK566 := ak (hbox); have GW566 := ak ((by rw [hg]; exact (below_size (bl HB)) : w.heap.size ≤ gb566)); have GE566 := ak ((by rw [hg]; exact (below_size (bl HB)) : w.heap.size ≤ gb566)); replace HB := ak (below_step (bl HB) hb); clear hb hbox hg) | ((with_reducible refine gate_callee (f := 44) rfl ?_); refine goesL_ (some 7) rfl rfl Try.func44 (by kernel_rfl) rfl #[.slice A0 l0.length c0] rfl (by (try simp only [List.map_toArray, List.map_cons, List.map_nil]); first | done | rfl | (simp only [List.length_drop, List.length_take]; rfl)) ?_; (with_reducible refine (spec_l30Open.calls _ _ l0 t567 t568 w _ ?side1 ?side2 ?side3 A2.out).mono ?_); (case side1 => repeat (first | (with_reducible first | exact HB.out | apply below_alloc | apply pw_below_drewN | apply below_drew1 | refine below_set ?_ GE566.out) | exact HB.out)); (case side2 => exact HR0.out); (case side3 => exact HC0.out); rintro e w6 ⟨g569, rfl, hi, hb, hb2⟩; refine ⟨_, rfl, ?_⟩; replace HB := ak (hb); have HI569 := ak (hi); have NB569_566 := ak (IsS95.ne_blk hi (blk_below (bk BK566) hb2) (by decide)); have NB566_569 := ak (Ne.symm (IsS95.ne_blk hi (blk_below (bk BK566) hb2) (by decide))); replace BK566 := ak (blk_below (bk BK566) hb2); (try clear hb); (try clear hb2); (try clear hk); (try clear hi)) | ((with_reducible refine gate_callee (f := 45) rfl ?_); refine goesL_ (some 9) rfl rfl Try.func45 (by kernel_rfl) rfl #[.pointer (some ⟨g569, 0, none⟩)] rfl (by (try simp only [List.map_toArray, List.map_cons, List.map_nil]); first | done | rfl | (simp only [List.length_drop, List.length_take]; rfl)) ?_; (with_reducible refine (spec_l30AnyNet.calls k g569 t567 t568 t570 t571 t574 w _ ?side1 ?side2 A3.out).mono ?_); (case side1 => repeat (first | (with_reducible first | exact HI569.out | apply IsS95.alloc | apply IsS95.drewN | apply IsS95.drew | apply IsS95.set_1 | refine IsS95.far ?_ NB569_566.out _) | exact HI569.out)); (case side2 => repeat (first | (with_reducible first | exact HB.out | apply below_alloc | apply pw_below_drewN | apply below_drew1 | refine below_set ?_ (IsS95.ge HI569.out) | refine below_set ?_ GE566.out) | exact HB.out)); rintro e w7 ⟨v572, rfl, ho0, hi, hb, hk⟩; refine ⟨_, rfl, ?_⟩; replace BK566 := ak (KeepBut.blk hk (g' := gb566) (o := .cells #[.int .i64 0, .slice none 0 0] 25 (0, 0)) (bk BK566) NB566_569.out (by simp)); have HO573 := ak (Kd.R_lower ho0 (below_size (by repeat (first | (with_reducible first | exact HB.out | apply below_alloc | apply pw_below_drewN | apply below_drew1 | refine below_set ?_ (IsS95.ge HI569.out) | refine below_set ?_ GE566.out) | exact HB.out)))); replace HB := ak (hb); replace HI569 := ak (hi); (try clear hb); (try clear hb2); (try clear hk); (try clear hi); (try clear ho0)) | ((with_reducible refine gate_dst (N := 5) rfl ?_); refine box_event ?hg (N := 5) ?hd (cs := #[.int .i64 0, .slice none 0 0]) (t := 25) ?hr ?_; (case hd => rfl); (case hg => rfl); (case hr => first | (go_simp; done) | (go_simp; rfl)); intro gb575 hg w8 hbox hb; replace HO573 := ak (Kd.R_below (rk HO573) hb); have BK575 := ak (hbox); have GW575 := ak ((by rw [hg]; exact (below_size (by repeat (first | (with_reducible first | exact HB.out | apply below_alloc | apply pw_below_drewN | apply below_drew1 | refine below_set ?_ (IsS95.ge HI569.out) | refine below_set ?_ GE566.out) | exact HB.out))) : w.heap.size ≤ gb575)); have GE575 := ak ((by rw [hg]; exact (below_size (by repeat (first | (with_reducible first | exact HB.out | apply below_alloc | apply pw_below_drewN | apply below_drew1 | refine below_set ?_ (IsS95.ge HI569.out) | refine below_set ?_ GE566.out) | exact HB.out))) : w.heap.size ≤ gb575)); replace HB := ak (below_step (by repeat (first | (with_reducible first | exact HB.out | apply below_alloc | apply pw_below_drewN | apply below_drew1 | refine below_set ?_ (IsS95.ge HI569.out) | refine below_set ?_ GE566.out) | exact HB.out)) hb); have NB566_575 := ak ((by rw [hg]; exact Nat.ne_of_lt (blk_lt (bk BK566)) : gb566 ≠ gb575)); have NB575_566 := ak ((by rw [hg]; exact Nat.ne_of_gt (blk_lt (bk BK566)) : gb575 ≠ gb566)); replace BK566 := ak (blk_below (bk BK566) hb); have NB569_575 := ak ((by rw [hg]; exact Nat.ne_of_lt (IsS95.lt (show IsS95 w _ g569 t567 t574 from by repeat (first | (with_reducible first | exact HI569.out | apply IsS95.alloc | apply IsS95.drewN | apply IsS95.drew | apply IsS95.set_1 | refine IsS95.far ?_ NB569_566.out _) | exact HI569.out))) : g569 ≠ gb575)); have NB575_569 := ak ((by rw [hg]; exact Nat.ne_of_gt (IsS95.lt (show IsS95 w _ g569 t567 t574 from by repeat (first | (with_reducible first | exact HI569.out | apply IsS95.alloc | apply IsS95.drewN | apply IsS95.drew | apply IsS95.set_1 | refine IsS95.far ?_ NB569_566.out _) | exact HI569.out))) : gb575 ≠ g569)); replace HI569 := ak (IsS95.below (by repeat (first | (with_reducible first | exact HI569.out | apply IsS95.alloc | apply IsS95.drewN | apply IsS95.drew | apply IsS95.set_1 | refine IsS95.far ?_ NB569_566.out _) | exact HI569.out)) hb); clear hb hbox hg; have hnb9 := NB575_566.out; have hnc9 := NB566_575.out; have hnb10 := NB575_569.out; have hnc10 := NB569_575.out; have hcz11_0 := bc w8 BK575 0 (.int .i64 0) rfl; have hcz11_1 := bc w8 BK575 1 (.slice none 0 0) rfl; have hfz11_0 := fz BK575 0; have hfz11_1 := fz BK575 1; obtain ⟨Ao12, co12, eo12⟩ := Kd.R_slice HO573.out; subst eo12))
 have n0_ : Aside0 (Kd.R k58 58 ((w8.setCell ⟨gb575, 0, none⟩ (.int .i64 t570)).setCell ⟨gb575, 1, none⟩ (.slice Ao12 t571.length co12)) w.heap.size (fun _ => True) (.slice Ao12 t571.length co12) t571) := ⟨by (with_reducible repeat (first | apply Kd.R_alloc | apply Kd.R_drewN | apply Kd.R_drew)); exact Kd.R_mono (Kd.R_far (p := ⟨gb575, 1, none⟩) (Kd.R_far (p := ⟨gb575, 0, none⟩) (Kd.R_types HO573.out BK575.out (by decide)) (fun _ hk => hk.2) (.int .i64 t570)) (fun _ hk => hk.2) (.slice Ao12 t571.length co12)) (fun _ hk => trivial)⟩
 have n1_ : Aside0 (((w8.setCell ⟨gb575, 0, none⟩ (.int .i64 t570)).setCell ⟨gb575, 1, none⟩ (.slice Ao12 t571.length co12)).heap[gb566]? = some (.cells #[.int .i64 0, .slice none 0 0] 25 (0, 0))) := ⟨by (with_reducible repeat (first | refine blk_drewN ?_ _ | refine blk_drew ?_ | refine blk_alloc ?_ _)); refine blk_far ?_ NB566_575.out _; refine blk_far ?_ NB566_575.out _; (with_reducible repeat (first | refine blk_drewN ?_ _ | refine blk_drew ?_ | refine blk_alloc ?_ _)); exact BK566.out⟩
 have n2_ : Aside0 (((w8.setCell ⟨gb575, 0, none⟩ (.int .i64 t570)).setCell ⟨gb575, 1, none⟩ (.slice Ao12 t571.length co12)).heap[gb575]? = some (.cells #[.int .i64 t570, .slice Ao12 t571.length co12] 25 (0, 0))) := ⟨by (with_reducible repeat (first | refine blk_drewN ?_ _ | refine blk_drew ?_ | refine blk_alloc ?_ _)); refine blk_put (cs := #[.int .i64 t570, .slice none 0 0]) ?_ 1 _ rfl; refine blk_put (cs := #[.int .i64 0, .slice none 0 0]) ?_ 0 _ rfl; (with_reducible repeat (first | refine blk_drewN ?_ _ | refine blk_drew ?_ | refine blk_alloc ?_ _)); exact BK575.out⟩
 have n3_ : Aside0 (IsS95 w ((w8.setCell ⟨gb575, 0, none⟩ (.int .i64 t570)).setCell ⟨gb575, 1, none⟩ (.slice Ao12 t571.length co12)) g569 t567 t574) := ⟨by repeat (first | (with_reducible first | exact HI569.out | apply IsS95.alloc | apply IsS95.drewN | apply IsS95.drew | apply IsS95.set_1 | refine IsS95.far ?_ NB569_566.out _ | refine IsS95.far ?_ NB569_575.out _) | exact HI569.out)⟩
 have n4_ : Aside0 (Below w.heap.size w ((w8.setCell ⟨gb575, 0, none⟩ (.int .i64 t570)).setCell ⟨gb575, 1, none⟩ (.slice Ao12 t571.length co12))) := ⟨by repeat (first | (with_reducible first | exact HB.out | apply below_alloc | apply pw_below_drewN | apply below_drew1 | refine below_set ?_ (IsS95.ge HI569.out) | refine below_set ?_ GE566.out | refine below_set ?_ GE575.out) | exact HB.out)⟩
 (try clear HO573)
 (try clear BK566)
 (try clear BK575)
 (try clear HI569)
 (try clear HB)
 generalize ((w8.setCell ⟨gb575, 0, none⟩ (.int .i64 t570)).setCell ⟨gb575, 1, none⟩ (.slice Ao12 t571.length co12)) = w13 at n0_ n1_ n2_ n3_ n4_ ⊢
 have HO573 := n0_
 have BK566 := n1_
 have BK575 := n2_
 have HI569 := n3_
 have HB := n4_
 clear n0_ n1_ n2_ n3_ n4_
 replace HO573 := ak (Kd.R_drew HO573.out)
 replace BK566 := ak (blk_drew BK566.out)
 replace BK575 := ak (blk_drew BK575.out)
 replace HI569 := ak (IsS95.drew HI569.out)
 replace HB := ak (below_drew1 HB.out)
 refine start_ (n := 6) (S := fun w' => w'.cell? ⟨gb575, 0, none⟩ = some (.int .i64 t570) ∧ w'.cell? ⟨gb575, 1, none⟩ = some (.slice Ao12 t571.length co12)) (ds := []) #[false, false, false, false, false, false] (by kernel_rfl) rfl (by kernel_rfl) ⟨(blk_cell BK575.out 0).trans rfl, (blk_cell BK575.out 1).trans rfl⟩ (fun hHeld => ?_)
 generalize w13.drew = w14 at HO573 BK566 BK575 HI569 HB hHeld ⊢
 refine pure_ (i := 1) (N := some 11) (v := ?_) (a' := ?_) #[false, true, false, false, false, false] rfl rfl (by kernel_rfl) (fun _ _ _ h => h) (Or.inl ⟨by rfl, ?_⟩) ?_ ?_
 rotate_left
 ·intro w'
  go_simp
  with_reducible rfl
 rotate_left
 ·simp only [SX]
  rfl
 refine take_ (i := 0) (N := some 10) (v := ?_) (a' := ?_) #[true, true, false, false, false, false] rfl rfl (by kernel_rfl) (fun _ _ _ h => h) (Or.inl ⟨by rfl, ?_⟩) hHeld ?_ ?_
 rotate_left
 ·rintro w' ⟨s0, s1⟩
  go_simp
  with_reducible rfl
 rotate_left
 ·simp only [SX]
  rfl
 refine take_ (i := 2) (N := some 12) (v := ?_) (a' := ?_) #[true, true, true, false, false, false] rfl rfl (by kernel_rfl) (fun _ _ _ h => h) (Or.inl ⟨by rfl, ?_⟩) hHeld ?_ ?_
 rotate_left
 ·rintro w' ⟨s0, s1⟩
  go_simp
  with_reducible rfl
 rotate_left
 ·simp only [SX]
  rfl
 refine one_ (i := 3) (N := some 13) #[true, true, true, true, false, false] rfl rfl (by kernel_rfl) (by decide) (fun K hK => ?_)
 refine goes_ Try.func106 (by kernel_rfl) rfl #[.pointer (some ⟨g569, 0, none⟩), .agg #[.int .i64 t570, .slice Ao12 t571.length co12]] (by rfl) rfl rfl (by (try simp only [List.map_toArray, List.map_cons, List.map_nil]); first | done | rfl | (simp only [List.length_drop, List.length_take]; rfl)) ?_
 with_reducible refine (spec_l30AnyWalk.calls k g569 t567 t574 t570 _ _ t571 t576 t579 w _ ?side1 ?side2 ?side3 ?side4 A4.out).mono ?_
 (case side1 => repeat (first | (with_reducible first | exact HI569.out | apply IsS95.alloc | apply IsS95.drewN | apply IsS95.drew | apply IsS95.set_1 | refine IsS95.far ?_ NB569_566.out _ | refine IsS95.far ?_ NB569_575.out _) | exact HI569.out))
 (case side2 => repeat (first | (with_reducible first | exact HB.out | apply below_alloc | apply pw_below_drewN | apply below_drew1 | refine below_set ?_ (IsS95.ge HI569.out) | refine below_set ?_ GE566.out | refine below_set ?_ GE575.out) | exact HB.out))
 (case side3 => exact Kd.C_foot_own (IsS95.apart (show IsS95 w _ g569 t567 t574 from by repeat (first | (with_reducible first | exact HI569.out | apply IsS95.alloc | apply IsS95.drewN | apply IsS95.drew | apply IsS95.set_1 | refine IsS95.far ?_ NB569_566.out _ | refine IsS95.far ?_ NB569_575.out _) | exact HI569.out)) (rk HO573) (by decide)) (fun _ h_ => h_.2))
 (case side4 => exact (Kd.R_reads' HO573.out).2.1)
 rintro e w15 ⟨v577, rfl, ho0, hi, hb, hk⟩
 refine ⟨_, rfl, ?_⟩
 replace BK566 := ak (KeepBut.blk hk (g' := gb566) (o := .cells #[.int .i64 0, .slice none 0 0] 25 (0, 0)) (bk BK566) NB566_569.out (by simp))
 replace HO573 := ak (Kd.R_mono (Kd.R_keep (IsS95.apart (show IsS95 w _ g569 t567 t574 from by repeat (first | (with_reducible first | exact HI569.out | apply IsS95.alloc | apply IsS95.drewN | apply IsS95.drew | apply IsS95.set_1 | refine IsS95.far ?_ NB569_566.out _ | refine IsS95.far ?_ NB569_575.out _) | exact HI569.out)) (rk HO573) (by decide)) hk (fun _ h => h.2)) (fun _ h => h.1))
 replace BK575 := ak (KeepBut.blk hk (g' := gb575) (o := .cells #[.int .i64 t570, .slice Ao12 t571.length co12] 25 (0, 0)) (bk BK575) NB575_569.out (by simp))
 have HO578 := ak (Kd.R_lower ho0 (below_size (by repeat (first | (with_reducible first | exact HB.out | apply below_alloc | apply pw_below_drewN | apply below_drew1 | refine below_set ?_ (IsS95.ge HI569.out) | refine below_set ?_ GE566.out | refine below_set ?_ GE575.out) | exact HB.out))))
 replace HB := ak (hb)
 replace HI569 := ak (hi)
 (try clear hb)
 (try clear hb2)
 (try clear hk)
 (try clear hi)
 (try clear ho0)
 refine hK.out _ _ ⟨(blk_cell BK575.out 0).trans rfl, (blk_cell BK575.out 1).trans rfl⟩ (fun hHeld => ?_)
 clear hK K
 refine norm_ (a' := ?_) ?_ ?_
 rotate_left
 ·show Act.put _ (some 13) _ = _
  simp only [SX]
  rfl
 refine one_ (i := 4) (N := none) #[true, true, true, true, true, false] rfl rfl (by kernel_rfl) (by decide) (fun K hK => ?_)
 have hs16 : w15.cell? ⟨gb566, 0, none⟩ = some (.int .i64 0) := (blk_cell BK566.out 0).trans rfl
 have hfs16 := blk_frozen BK566.out 0
 have hns16_1 := NB575_566.out
 have hms16_1 := NB566_575.out
 have hs17 : w15.cell? ⟨gb566, 1, none⟩ = some (.slice none 0 0) := (blk_cell BK566.out 1).trans rfl
 have hfs17 := blk_frozen BK566.out 1
 have hns17_1 := NB575_566.out
 have hms17_1 := NB566_575.out
 refine skip_ (w1 := ?_) (by rfl) rfl ?_ ?_
 rotate_left
 ·go_simp
  rfl
 refine hK.out _ _ ⟨((cell_far (p := ⟨gb566, _, none⟩) NB575_566.out _).trans (((cell_far (p := ⟨gb566, _, none⟩) NB575_566.out _).trans (hHeld.1)))), ((cell_far (p := ⟨gb566, _, none⟩) NB575_566.out _).trans (((cell_far (p := ⟨gb566, _, none⟩) NB575_566.out _).trans (hHeld.2))))⟩ (fun hHeld => ?_)
 clear hK K
 refine pure_ (i := 5) (N := some 3) (v := ?_) (a' := ?_) #[true, true, true, true, true, true] rfl rfl (by kernel_rfl) (fun _ _ _ h => h) (Or.inl ⟨by rfl, ?_⟩) ?_ ?_
 rotate_left
 ·intro w'
  go_simp
  with_reducible rfl
 rotate_left
 ·simp only [SX]
  rfl
 refine done_ (by kernel_rfl) ?_
 try go_wp2
 refine bodyPost_ret (results_ct rfl _ _ gb566 25 #[.int .i64 t570, .slice Ao12 t571.length co12] (0, 0) _ rfl (by (with_reducible repeat (first | refine blk_drewN ?_ _ | refine blk_drew ?_ | refine blk_alloc ?_ _)); refine blk_put (cs := #[.int .i64 t570, .slice none 0 0]) ?_ 1 _ rfl; refine blk_put (cs := #[.int .i64 0, .slice none 0 0]) ?_ 0 _ rfl; (with_reducible repeat (first | refine blk_drewN ?_ _ | refine blk_drew ?_ | refine blk_alloc ?_ _)); exact BK566.out) Try.underlying25 rfl (by kernel_rfl)) rfl ?_
 exact ⟨_, _, by first | rfl | (simp [errW_none, errW_some] <;> rfl) | (simp [*, errW_none, errW_some] <;> rfl), by (with_reducible repeat (first | apply Kd.R_alloc | apply Kd.R_drewN | apply Kd.R_drew)); exact Kd.R_mono (Kd.R_far (p := ⟨gb566, 1, none⟩) (Kd.R_far (p := ⟨gb566, 0, none⟩) (Kd.R_types HO573.out BK566.out (by decide)) (fun _ hk => hk.2) (.int .i64 t570)) (fun _ hk => hk.2) (.slice Ao12 t571.length co12)) (fun _ hk => trivial), by (with_reducible repeat (first | apply Kd.R_alloc | apply Kd.R_drewN | apply Kd.R_drew)); exact Kd.R_mono (Kd.R_far (p := ⟨gb566, 1, none⟩) (Kd.R_far (p := ⟨gb566, 0, none⟩) (Kd.R_types HO578.out BK566.out (by decide)) (fun _ hk => hk.2) (.int .i64 t570)) (fun _ hk => hk.2) (.slice Ao12 t571.length co12)) (fun _ hk => trivial), by repeat (first | (with_reducible first | exact HB.out | apply below_alloc | apply pw_below_drewN | apply below_drew1 | refine below_set ?_ (IsS95.ge HI569.out) | refine below_set ?_ GE566.out | refine below_set ?_ GE575.out) | exact HB.out)⟩

end Go.Proofs.Ytlgolgfcolnddaa.F
