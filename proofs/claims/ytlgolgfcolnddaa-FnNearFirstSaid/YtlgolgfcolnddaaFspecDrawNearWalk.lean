-- Printed by wip/px/px.py of this claim's repository (the kit's printer, extended there). Lean checks it.
import Derived.Test.YtlgolgfcolnddaaFKinds
import Derived.Test.YtlgolgfcolnddaaFspecl30Open
import Derived.Test.YtlgolgfcolnddaaFspecl30AnyNet
import Derived.Test.YtlgolgfcolnddaaFspecl30Node
namespace Go.Proofs.Ytlgolgfcolnddaa.F
open Go.RowKit Go.Proofs.YtlgolgfcolnddaaW.PrintWords Go.Proofs.YtlgolgfcolnddaaW.PrintLast Go.Proofs.YtlgolgfcolnddaaW.PrintMore
attribute [local go_sem] max2_int min2_int max_two min_two max_three min_three max_four min_four   -- for this text's walks alone
set_option linter.unusedVariables false
set_option linter.unusedSimpArgs false

/-! ### spec_DrawNearWalk: function 35 -/
def spec_DrawNearWalk.f (k : Nat) (l0 : List Int) : Option (Int × (List (S58)) × Int × Int) := (spec_l30Open.f l0).bind fun bt640 => ((spec_l30AnyNet.f k bt640.1 bt640.2).bind fun bt643 => ((spec_l30Node.f k bt640.1 bt643.2.2 bt643.1 bt643.2.1).bind fun bt649 => ((spec_l30Node.f k bt640.1 bt649.2 bt643.1 bt643.2.1).bind fun bt651 => (some (bt643.1, bt643.2.1, bt649.1, bt651.1)))))
theorem spec_DrawNearWalk.mono : ∀ a0 k, LeO (spec_DrawNearWalk.f k a0) (spec_DrawNearWalk.f (k + 1) a0) := by
 intro a0 k
 unfold spec_DrawNearWalk.f
 repeat' first
   | (with_reducible exact spec_l30AnyNet.mono _ _ _)
   | (with_reducible exact spec_l30Node.mono _ _ _ _ _)
   | (with_reducible exact LeO.refl _)
   | (with_reducible exact LeO.none _)
   | (with_reducible refine LeO.ite ?_ ?_)
   | (with_reducible refine LeO.bind ?_ (fun _ => ?_))
   | exact spec_l30AnyNet.mono _ _ _
   | exact spec_l30Node.mono _ _ _ _ _
   | exact LeO.none _
   | refine LeO.ite ?_ ?_
   | refine LeO.bind ?_ (fun _ => ?_)
def spec_DrawNearWalk.T4 : Bool × List (List Nat × List Nat) := (true, [([], []), ([], []), ([], []), ([], []), ([2, 3], [2, 3]), ([0, 4, 0], [0]), ([1, 5, 0, 1, 5], [1]), ([4, 6, 0, 1, 2, 3, 4, 5, 6], [4])])
def spec_DrawNearWalk.B4 : List Nat := [0, 0, 0, 0, 12, 29, 63, 127]
theorem spec_DrawNearWalk.tab4 : rtab .any (opsOf Try.f35 4) = spec_DrawNearWalk.T4 := by kernel_rfl
theorem spec_DrawNearWalk.bits4 : waitsOk spec_DrawNearWalk.T4.2 spec_DrawNearWalk.B4 = true := by kernel_rfl
set_option maxHeartbeats 8000000 in
set_option maxRecDepth 100000 in
theorem spec_DrawNearWalk.calls (k : Nat) (A0 : Option Addr) (c0 : Nat) (l0 : List Int) (r1 : Int) (r2 : List (S58)) (r3 : Int) (r4 : Int) (w : World) (hr0 : Kd.C (Kd.int .u8) w A0 l0.length l0) (hc0 : l0.length ≤ c0) (h : spec_DrawNearWalk.f k l0 = some (r1, r2, r3, r4)) :
  Calls Try.prog 35 #[.slice A0 l0.length c0] w fun e w' => ∃ v1_ : Value, e = .returned (.tuple #[.agg #[.int .i64 r1, v1_], .int .i64 r3, .int .i64 r4]) ∧ Kd.R k58 58 w' w.heap.size (fun _ => True) v1_ r2 ∧ Below w.heap.size w w' := by
 have hu25 := Try.underlying25
 have HR0 := ak hr0
 have HC0 := ak hc0
 clear hr0 hc0
 have HB := ak (Below.refl w.heap.size w)
 have H : ((spec_l30Open.f l0).bind fun bt640 => ((spec_l30AnyNet.f k bt640.1 bt640.2).bind fun bt643 => ((spec_l30Node.f k bt640.1 bt643.2.2 bt643.1 bt643.2.1).bind fun bt649 => ((spec_l30Node.f k bt640.1 bt649.2 bt643.1 bt643.2.1).bind fun bt651 => (some (bt643.1, bt643.2.1, bt649.1, bt651.1)))))) = some (r1, r2, r3, r4) := h
 clear h
 replace H := Option.bind_eq_some_iff.mp H
 obtain ⟨⟨t640, t641⟩, A20, H⟩ := H
 have A2 := ak A20
 clear A20
 replace H := Option.bind_eq_some_iff.mp H
 obtain ⟨⟨t643, t644, t647⟩, A30, H⟩ := H
 have A3 := ak A30
 clear A30
 replace H := Option.bind_eq_some_iff.mp H
 obtain ⟨⟨t649, t650⟩, A40, H⟩ := H
 have A4 := ak A40
 clear A40
 replace H := Option.bind_eq_some_iff.mp H
 obtain ⟨⟨t651, t652⟩, A50, H⟩ := H
 have A5 := ak A50
 clear A50
 simp only [Option.some.injEq, Prod.mk.injEq] at H
 obtain ⟨rfl, rfl, rfl, rfl⟩ := H
 go_enter Try.func35, Try.ntmps35
 try go_wp2_with (first | ((with_reducible refine gate_dst (N := 2) rfl ?_); refine box_event ?hg (N := 2) ?hd (cs := #[.int .i64 0, .slice none 0 0]) (t := 25) ?hr ?_; (case hd => rfl); (case hg => rfl); (case hr => first | (go_simp; done) | (go_simp; rfl)); intro gb639 hg w6 hbox hb; have BK639 := ak (hbox); have GW639 := ak ((by rw [hg]; exact (below_size (bl HB)) : w.heap.size ≤ gb639)); have GE639 := ak ((by rw [hg]; exact (below_size (bl HB)) : w.heap.size ≤ gb639)); replace HB := ak (below_step (bl HB) hb); clear hb hbox hg) | ((with_reducible refine gate_callee (f := 44) rfl ?_); refine goesL_ (some 9) rfl rfl Try.func44 (by kernel_rfl) rfl #[.slice A0 l0.length c0] rfl (by (try simp only [List.map_toArray, List.map_cons, List.map_nil]); first | done | rfl | (simp only [List.length_drop, List.length_take]; rfl)) ?_; (with_reducible refine (spec_l30Open.calls _ _ l0 t640 t641 w _ ?side1 ?side2 ?side3 A2.out).mono ?_); (case side1 => repeat (first | (with_reducible first | exact HB.out | apply below_alloc | apply pw_below_drewN | apply below_drew1 | refine below_set ?_ GE639.out) | exact HB.out)); (case side2 => exact HR0.out); (case side3 => exact HC0.out); rintro e w7 ⟨g642, rfl, hi, hb, hb2⟩; refine ⟨_, rfl, ?_⟩; replace HB := ak (hb); have HI642 := ak (hi); have NB642_639 := ak (IsS95.ne_blk hi (blk_below (bk BK639) hb2) (by decide)); have NB639_642 := ak (Ne.symm (IsS95.ne_blk hi (blk_below (bk BK639) hb2) (by decide))); replace BK639 := ak (blk_below (bk BK639) hb2); (try clear hb); (try clear hb2); (try clear hk); (try clear hi)) | ((with_reducible refine gate_callee (f := 45) rfl ?_); refine goesL_ (some 11) rfl rfl Try.func45 (by kernel_rfl) rfl #[.pointer (some ⟨g642, 0, none⟩)] rfl (by (try simp only [List.map_toArray, List.map_cons, List.map_nil]); first | done | rfl | (simp only [List.length_drop, List.length_take]; rfl)) ?_; (with_reducible refine (spec_l30AnyNet.calls k g642 t640 t641 t643 t644 t647 w _ ?side1 ?side2 A3.out).mono ?_); (case side1 => repeat (first | (with_reducible first | exact HI642.out | apply IsS95.alloc | apply IsS95.drewN | apply IsS95.drew | apply IsS95.set_1 | refine IsS95.far ?_ NB642_639.out _) | exact HI642.out)); (case side2 => repeat (first | (with_reducible first | exact HB.out | apply below_alloc | apply pw_below_drewN | apply below_drew1 | refine below_set ?_ (IsS95.ge HI642.out) | refine below_set ?_ GE639.out) | exact HB.out)); rintro e w8 ⟨v645, rfl, ho0, hi, hb, hk⟩; refine ⟨_, rfl, ?_⟩; replace BK639 := ak (KeepBut.blk hk (g' := gb639) (o := .cells #[.int .i64 0, .slice none 0 0] 25 (0, 0)) (bk BK639) NB639_642.out (by simp)); have HO646 := ak (Kd.R_lower ho0 (below_size (by repeat (first | (with_reducible first | exact HB.out | apply below_alloc | apply pw_below_drewN | apply below_drew1 | refine below_set ?_ (IsS95.ge HI642.out) | refine below_set ?_ GE639.out) | exact HB.out)))); replace HB := ak (hb); replace HI642 := ak (hi); (try clear hb); (try clear hb2); (try clear hk); (try clear hi); (try clear ho0)) | ((with_reducible refine gate_dst (N := 6) rfl ?_); refine box_event ?hg (N := 6) ?hd (cs := #[.int .i64 0, .slice none 0 0]) (t := 25) ?hr ?_; (case hd => rfl); (case hg => rfl); (case hr => first | (go_simp; done) | (go_simp; rfl)); intro gb648 hg w9 hbox hb; replace HO646 := ak (Kd.R_below (rk HO646) hb); have BK648 := ak (hbox); have GW648 := ak ((by rw [hg]; exact (below_size (by repeat (first | (with_reducible first | exact HB.out | apply below_alloc | apply pw_below_drewN | apply below_drew1 | refine below_set ?_ (IsS95.ge HI642.out) | refine below_set ?_ GE639.out) | exact HB.out))) : w.heap.size ≤ gb648)); have GE648 := ak ((by rw [hg]; exact (below_size (by repeat (first | (with_reducible first | exact HB.out | apply below_alloc | apply pw_below_drewN | apply below_drew1 | refine below_set ?_ (IsS95.ge HI642.out) | refine below_set ?_ GE639.out) | exact HB.out))) : w.heap.size ≤ gb648)); replace HB := ak (below_step (by repeat (first | (with_reducible first | exact HB.out | apply below_alloc | apply pw_below_drewN | apply below_drew1 | refine below_set ?_ (IsS95.ge HI642.out) | refine below_set ?_ GE639.out) | exact HB.out)) hb); have NB639_648 := ak ((by rw [hg]; exact Nat.ne_of_lt (blk_lt (bk BK639)) : gb639 ≠ gb648)); have NB648_639 := ak ((by rw [hg]; exact Nat.ne_of_gt (blk_lt (bk BK639)) : gb648 ≠ gb639)); replace BK639 := ak (blk_below (bk BK639) hb); have NB642_648 := ak ((by rw [hg]; exact Nat.ne_of_lt (IsS95.lt (show IsS95 w _ g642 t640 t647 from by repeat (first | (with_reducible first | exact HI642.out | apply IsS95.alloc | apply IsS95.drewN | apply IsS95.drew | apply IsS95.set_1 | refine IsS95.far ?_ NB642_639.out _) | exact HI642.out))) : g642 ≠ gb648)); have NB648_642 := ak ((by rw [hg]; exact Nat.ne_of_gt (IsS95.lt (show IsS95 w _ g642 t640 t647 from by repeat (first | (with_reducible first | exact HI642.out | apply IsS95.alloc | apply IsS95.drewN | apply IsS95.drew | apply IsS95.set_1 | refine IsS95.far ?_ NB642_639.out _) | exact HI642.out))) : gb648 ≠ g642)); replace HI642 := ak (IsS95.below (by repeat (first | (with_reducible first | exact HI642.out | apply IsS95.alloc | apply IsS95.drewN | apply IsS95.drew | apply IsS95.set_1 | refine IsS95.far ?_ NB642_639.out _) | exact HI642.out)) hb); clear hb hbox hg; have hnb10 := NB648_639.out; have hnc10 := NB639_648.out; have hnb11 := NB648_642.out; have hnc11 := NB642_648.out; have hcz12_0 := bc w9 BK648 0 (.int .i64 0) rfl; have hcz12_1 := bc w9 BK648 1 (.slice none 0 0) rfl; have hfz12_0 := fz BK648 0; have hfz12_1 := fz BK648 1; obtain ⟨Ao13, co13, eo13⟩ := Kd.R_slice HO646.out; subst eo13) | ((with_reducible refine gate_callee (f := 46) rfl ?_); refine goesL_ (some 14) rfl rfl Try.func46 (by kernel_rfl) rfl #[.pointer (some ⟨g642, 0, none⟩), .agg #[.int .i64 t643, .slice Ao13 t644.length co13]] rfl (by (try simp only [List.map_toArray, List.map_cons, List.map_nil]); first | done | rfl | (simp only [List.length_drop, List.length_take]; rfl)) ?_; (with_reducible refine (spec_l30Node.calls k g642 t640 t647 t643 _ _ t644 t649 t650 w _ ?side1 ?side2 ?side3 ?side4 A4.out).mono ?_); (case side1 => repeat (first | (with_reducible first | exact HI642.out | apply IsS95.alloc | apply IsS95.drewN | apply IsS95.drew | apply IsS95.set_1 | refine IsS95.far ?_ NB642_639.out _ | refine IsS95.far ?_ NB642_648.out _) | exact HI642.out)); (case side2 => repeat (first | (with_reducible first | exact HB.out | apply below_alloc | apply pw_below_drewN | apply below_drew1 | refine below_set ?_ (IsS95.ge HI642.out) | refine below_set ?_ GE639.out | refine below_set ?_ GE648.out) | exact HB.out)); (case side3 => exact Kd.C_foot_own (IsS95.apart (show IsS95 w _ g642 t640 t647 from by repeat (first | (with_reducible first | exact HI642.out | apply IsS95.alloc | apply IsS95.drewN | apply IsS95.drew | apply IsS95.set_1 | refine IsS95.far ?_ NB642_639.out _ | refine IsS95.far ?_ NB642_648.out _) | exact HI642.out)) (by (with_reducible repeat (first | apply Kd.R_alloc | apply Kd.R_drewN | apply Kd.R_drew)); exact (Kd.R_mono (Kd.R_far (p := ⟨gb648, 1, none⟩) (Kd.R_far (p := ⟨gb648, 0, none⟩) (Kd.R_types HO646.out BK648.out (by decide)) (fun _ hk => hk.2) (.int .i64 t643)) (fun _ hk => hk.2) (.slice Ao13 t644.length co13)) (fun _ h_ => h_.1))) (by decide)) (fun _ h_ => h_.2)); (case side4 => exact (Kd.R_reads' HO646.out).2.1); rintro e w14 ⟨rfl, hi, hb, hk⟩; refine ⟨_, rfl, ?_⟩; replace BK639 := ak (KeepBut.blk hk (g' := gb639) (o := .cells #[.int .i64 0, .slice none 0 0] 25 (0, 0)) (by (with_reducible repeat (first | refine blk_drewN ?_ _ | refine blk_drew ?_ | refine blk_alloc ?_ _)); refine blk_far ?_ NB639_648.out _; refine blk_far ?_ NB639_648.out _; (with_reducible repeat (first | refine blk_drewN ?_ _ | refine blk_drew ?_ | refine blk_alloc ?_ _)); exact BK639.out) NB639_642.out (by simp)); replace HO646 := ak (Kd.R_mono (Kd.R_keep (IsS95.apart (show IsS95 w _ g642 t640 t647 from by repeat (first | (with_reducible first | exact HI642.out | apply IsS95.alloc | apply IsS95.drewN | apply IsS95.drew | apply IsS95.set_1 | refine IsS95.far ?_ NB642_639.out _ | refine IsS95.far ?_ NB642_648.out _) | exact HI642.out)) (by (with_reducible repeat (first | apply Kd.R_alloc | apply Kd.R_drewN | apply Kd.R_drew)); exact (Kd.R_mono (Kd.R_far (p := ⟨gb648, 1, none⟩) (Kd.R_far (p := ⟨gb648, 0, none⟩) (Kd.R_types HO646.out BK648.out (by decide)) (fun _ hk => hk.2) (.int .i64 t643)) (fun _ hk => hk.2) (.slice Ao13 t644.length co13)) (fun _ h_ => h_.1))) (by decide)) hk (fun _ h => h.2)) (fun _ h => h.1)); replace BK648 := ak (KeepBut.blk hk (g' := gb648) (o := .cells #[.int .i64 t643, .slice Ao13 t644.length co13] 25 (0, 0)) (by (with_reducible repeat (first | refine blk_drewN ?_ _ | refine blk_drew ?_ | refine blk_alloc ?_ _)); refine blk_put (cs := #[.int .i64 t643, .slice none 0 0]) ?_ 1 _ rfl; refine blk_put (cs := #[.int .i64 0, .slice none 0 0]) ?_ 0 _ rfl; (with_reducible repeat (first | refine blk_drewN ?_ _ | refine blk_drew ?_ | refine blk_alloc ?_ _)); exact BK648.out) NB648_642.out (by simp)); replace HB := ak (hb); replace HI642 := ak (hi); (try clear hb); (try clear hb2); (try clear hk); (try clear hi)))
 replace HO646 := ak (Kd.R_drew HO646.out)
 replace BK639 := ak (blk_drew BK639.out)
 replace BK648 := ak (blk_drew BK648.out)
 replace HI642 := ak (IsS95.drew HI642.out)
 replace HB := ak (below_drew1 HB.out)
 refine start_ (n := 8) (S := fun w' => w'.cell? ⟨gb648, 0, none⟩ = some (.int .i64 t643) ∧ w'.cell? ⟨gb648, 1, none⟩ = some (.slice Ao13 t644.length co13)) (ds := []) (ms 8 0) (by kernel_rfl) rfl (by kernel_rfl) ⟨(blk_cell BK648.out 0).trans rfl, (blk_cell BK648.out 1).trans rfl⟩ (fun hHeld => ?_); refine with_tabW spec_DrawNearWalk.tab4 spec_DrawNearWalk.bits4 (fun HT_ HW_ => ?_)
 generalize w14.drew = w15 at HO646 BK639 BK648 HI642 HB hHeld ⊢
 refine pu 1 16 ?_ (ms 8 2) rfl rfl HT_ (by kernel_rfl) (fun _ _ _ h => h) (by rfl) ?_ ?_ ?_ ?_
 rotate_left
 ·intro w'
  go_simp
  with_reducible rfl
 rotate_left
 ·simp only [SX]
  rfl
 refine pu 2 17 ?_ (ms 8 6) rfl rfl HT_ (by kernel_rfl) (fun _ _ _ h => h) (by rfl) ?_ ?_ ?_ ?_
 rotate_left
 ·intro w'
  go_simp
  with_reducible rfl
 rotate_left
 ·simp only [SX]
  rfl
 refine tk 0 15 ?_ (ms 8 7) rfl rfl HT_ HW_ (by kernel_rfl) (fun _ _ _ h => h) (by rfl) ?_ hHeld ?_ ?_ ?_
 rotate_left
 ·rintro w' ⟨s0, s1⟩
  go_simp
  with_reducible rfl
 rotate_left
 ·simp only [SX]
  rfl
 refine tk 3 18 ?_ (ms 8 15) rfl rfl HT_ HW_ (by kernel_rfl) (fun _ _ _ h => h) (by rfl) ?_ hHeld ?_ ?_ ?_
 rotate_left
 ·rintro w' ⟨s0, s1⟩
  go_simp
  with_reducible rfl
 rotate_left
 ·simp only [SX]
  rfl
 refine one_ (i := 4) (N := some 19) (ms 8 31) rfl rfl (one_of HT_.out (by kernel_rfl)) (by decide) (fun K hK => ?_)
 refine goes_ Try.func46 (by kernel_rfl) rfl #[.pointer (some ⟨g642, 0, none⟩), .agg #[.int .i64 t643, .slice Ao13 t644.length co13]] (by rfl) rfl rfl (by (try simp only [List.map_toArray, List.map_cons, List.map_nil]); first | done | rfl | (simp only [List.length_drop, List.length_take]; rfl)) ?_
 with_reducible refine (spec_l30Node.calls k g642 t640 t650 t643 _ _ t644 t651 t652 w _ ?side1 ?side2 ?side3 ?side4 A5.out).mono ?_
 (case side1 => repeat (first | (with_reducible first | exact HI642.out | apply IsS95.alloc | apply IsS95.drewN | apply IsS95.drew | apply IsS95.set_1 | refine IsS95.far ?_ NB642_639.out _ | refine IsS95.far ?_ NB642_648.out _) | exact HI642.out))
 (case side2 => repeat (first | (with_reducible first | exact HB.out | apply below_alloc | apply pw_below_drewN | apply below_drew1 | refine below_set ?_ (IsS95.ge HI642.out) | refine below_set ?_ GE639.out | refine below_set ?_ GE648.out) | exact HB.out))
 (case side3 => exact Kd.C_foot_own (IsS95.apart (show IsS95 w _ g642 t640 t650 from by repeat (first | (with_reducible first | exact HI642.out | apply IsS95.alloc | apply IsS95.drewN | apply IsS95.drew | apply IsS95.set_1 | refine IsS95.far ?_ NB642_639.out _ | refine IsS95.far ?_ NB642_648.out _) | exact HI642.out)) (rk HO646) (by decide)) (fun _ h_ => h_.2))
 (case side4 => exact (Kd.R_reads' HO646.out).2.1)
 rintro e w16 ⟨rfl, hi, hb, hk⟩
 refine ⟨_, rfl, ?_⟩
 replace BK639 := ak (KeepBut.blk hk (g' := gb639) (o := .cells #[.int .i64 0, .slice none 0 0] 25 (0, 0)) (bk BK639) NB639_642.out (by simp))
 replace HO646 := ak (Kd.R_mono (Kd.R_keep (IsS95.apart (show IsS95 w _ g642 t640 t650 from by repeat (first | (with_reducible first | exact HI642.out | apply IsS95.alloc | apply IsS95.drewN | apply IsS95.drew | apply IsS95.set_1 | refine IsS95.far ?_ NB642_639.out _ | refine IsS95.far ?_ NB642_648.out _) | exact HI642.out)) (rk HO646) (by decide)) hk (fun _ h => h.2)) (fun _ h => h.1))
 replace BK648 := ak (KeepBut.blk hk (g' := gb648) (o := .cells #[.int .i64 t643, .slice Ao13 t644.length co13] 25 (0, 0)) (bk BK648) NB648_642.out (by simp))
 replace HB := ak (hb)
 replace HI642 := ak (hi)
 (try clear hb)
 (try clear hb2)
 (try clear hk)
 (try clear hi)
 refine hK.out _ _ ⟨(blk_cell BK648.out 0).trans rfl, (blk_cell BK648.out 1).trans rfl⟩ (fun hHeld => ?_)
 clear hK K
 refine norm_ (a' := ?_) ?_ ?_
 rotate_left
 ·show Act.put _ (some 19) _ = _
  simp only [SX]
  rfl
 refine one_ (i := 5) (N := none) (ms 8 63) rfl rfl (one_of HT_.out (by kernel_rfl)) (by decide) (fun K hK => ?_)
 have hs17 : w16.cell? ⟨gb639, 0, none⟩ = some (.int .i64 0) := (blk_cell BK639.out 0).trans rfl
 have hfs17 := blk_frozen BK639.out 0
 have hns17_1 := NB648_639.out
 have hms17_1 := NB639_648.out
 have hs18 : w16.cell? ⟨gb639, 1, none⟩ = some (.slice none 0 0) := (blk_cell BK639.out 1).trans rfl
 have hfs18 := blk_frozen BK639.out 1
 have hns18_1 := NB648_639.out
 have hms18_1 := NB639_648.out
 refine skip_ (w1 := ?_) (by rfl) rfl ?_ ?_
 rotate_left
 ·go_simp
  rfl
 refine hK.out _ _ ⟨((cell_far (p := ⟨gb639, _, none⟩) NB648_639.out _).trans (((cell_far (p := ⟨gb639, _, none⟩) NB648_639.out _).trans (hHeld.1)))), ((cell_far (p := ⟨gb639, _, none⟩) NB648_639.out _).trans (((cell_far (p := ⟨gb639, _, none⟩) NB648_639.out _).trans (hHeld.2))))⟩ (fun hHeld => ?_)
 clear hK K
 refine pu 6 3 ?_ (ms 8 127) rfl rfl HT_ (by kernel_rfl) (fun _ _ _ h => h) (by rfl) ?_ ?_ ?_ ?_
 rotate_left
 ·intro w'
  go_simp
  with_reducible rfl
 rotate_left
 ·simp only [SX]
  rfl
 refine pu 7 4 ?_ (ms 8 255) rfl rfl HT_ (by kernel_rfl) (fun _ _ _ h => h) (by rfl) ?_ ?_ ?_ ?_
 rotate_left
 ·intro w'
  go_simp
  with_reducible rfl
 rotate_left
 ·simp only [SX]
  rfl
 refine done_ (done_of HT_.out (by kernel_rfl)) ?_
 try go_wp2
 refine bodyPost_ret (results_ctt rfl _ _ gb639 25 #[.int .i64 t643, .slice Ao13 t644.length co13] (0, 0) _ rfl (by (with_reducible repeat (first | refine blk_drewN ?_ _ | refine blk_drew ?_ | refine blk_alloc ?_ _)); refine blk_put (cs := #[.int .i64 t643, .slice none 0 0]) ?_ 1 _ rfl; refine blk_put (cs := #[.int .i64 0, .slice none 0 0]) ?_ 0 _ rfl; (with_reducible repeat (first | refine blk_drewN ?_ _ | refine blk_drew ?_ | refine blk_alloc ?_ _)); exact BK639.out) Try.underlying25 rfl (by kernel_rfl)) rfl ?_
 exact ⟨_, by first | rfl | (simp [errW_none, errW_some] <;> rfl) | (simp [*, errW_none, errW_some] <;> rfl), by (with_reducible repeat (first | apply Kd.R_alloc | apply Kd.R_drewN | apply Kd.R_drew)); exact Kd.R_mono (Kd.R_far (p := ⟨gb639, 1, none⟩) (Kd.R_far (p := ⟨gb639, 0, none⟩) (Kd.R_types HO646.out BK639.out (by decide)) (fun _ hk => hk.2) (.int .i64 t643)) (fun _ hk => hk.2) (.slice Ao13 t644.length co13)) (fun _ hk => trivial), by repeat (first | (with_reducible first | exact HB.out | apply below_alloc | apply pw_below_drewN | apply below_drew1 | refine below_set ?_ (IsS95.ge HI642.out) | refine below_set ?_ GE639.out | refine below_set ?_ GE648.out) | exact HB.out)⟩

end Go.Proofs.Ytlgolgfcolnddaa.F
