-- Printed by wip/px/px.py of this claim's repository (the kit's printer, extended there). Lean checks it.
import Derived.Test.YtlgolgfcolnddaaFKinds
import Derived.Test.YtlgolgfcolnddaaFspecl30Open
import Derived.Test.YtlgolgfcolnddaaFspecl30Rdone
import Derived.Test.YtlgolgfcolnddaaFspecl30AnyNet
import Derived.Test.YtlgolgfcolnddaaFspecl30Node
namespace Go.Proofs.Ytlgolgfcolnddaa.F
open Go.RowKit Go.Proofs.YtlgolgfcolnddaaW.PrintWords Go.Proofs.YtlgolgfcolnddaaW.PrintLast Go.Proofs.YtlgolgfcolnddaaW.PrintMore
attribute [local go_sem] max2_int min2_int max_two min_two max_three min_three max_four min_four   -- for this text's walks alone
set_option linter.unusedVariables false
set_option linter.unusedSimpArgs false

/-! ### spec_DrawSomeWalks: function 26 -/
def spec_DrawSomeWalks.f (k : Nat) (l0 : List Int) : Option (Int × (List (S58)) × Int × Int × Int) := (spec_l30Open.f l0).bind fun bt192 => ((spec_l30AnyNet.f k bt192.1 bt192.2).bind fun bt195 => ((spec_l30Node.f k bt192.1 bt195.2.2 bt195.1 bt195.2.1).bind fun bt201 => ((spec_l30Node.f k bt192.1 bt201.2 bt195.1 bt195.2.1).bind fun bt203 => ((spec_l30Rd_one.f k bt192.1 bt203.2 (([1, 2, 6, 6, 0] : List Int))).bind fun bt208 => (some (bt195.1, bt195.2.1, bt201.1, bt203.1, bt208.1))))))
theorem spec_DrawSomeWalks.mono : ∀ a0 k, LeO (spec_DrawSomeWalks.f k a0) (spec_DrawSomeWalks.f (k + 1) a0) := by
 intro a0 k
 unfold spec_DrawSomeWalks.f
 repeat' first
   | (with_reducible exact spec_l30AnyNet.mono _ _ _)
   | (with_reducible exact spec_l30Node.mono _ _ _ _ _)
   | (with_reducible exact spec_l30Rd_one.mono _ _ _ _)
   | (with_reducible exact LeO.refl _)
   | (with_reducible exact LeO.none _)
   | (with_reducible refine LeO.ite ?_ ?_)
   | (with_reducible refine LeO.bind ?_ (fun _ => ?_))
   | exact spec_l30AnyNet.mono _ _ _
   | exact spec_l30Node.mono _ _ _ _ _
   | exact spec_l30Rd_one.mono _ _ _ _
   | exact LeO.none _
   | refine LeO.ite ?_ ?_
   | refine LeO.bind ?_ (fun _ => ?_)
def spec_DrawSomeWalks.T5 : Bool × List (List Nat × List Nat) := (true, [([], []), ([], []), ([], []), ([], []), ([], []), ([3, 4], [3, 4]), ([0, 5, 0], [0]), ([1, 6, 0, 1, 6], [1]), ([2, 7, 0, 1, 2, 6, 7], [2]), ([5, 8, 0, 1, 2, 3, 4, 5, 6, 7, 8], [5])])
def spec_DrawSomeWalks.B5 : List Nat := [0, 0, 0, 0, 0, 24, 57, 123, 255, 511]
theorem spec_DrawSomeWalks.tab5 : rtab .any (opsOf Try.f26 5) = spec_DrawSomeWalks.T5 := by kernel_rfl
theorem spec_DrawSomeWalks.bits5 : waitsOk spec_DrawSomeWalks.T5.2 spec_DrawSomeWalks.B5 = true := by kernel_rfl
set_option maxHeartbeats 8000000 in
set_option maxRecDepth 100000 in
theorem spec_DrawSomeWalks.calls (k : Nat) (A0 : Option Addr) (c0 : Nat) (l0 : List Int) (r1 : Int) (r2 : List (S58)) (r3 : Int) (r4 : Int) (r5 : Int) (w : World) (hr0 : Kd.C (Kd.int .u8) w A0 l0.length l0) (hc0 : l0.length ≤ c0) (h : spec_DrawSomeWalks.f k l0 = some (r1, r2, r3, r4, r5)) :
  Calls Try.prog 26 #[.slice A0 l0.length c0] w fun e w' => ∃ v1_ : Value, e = .returned (.tuple #[.agg #[.int .i64 r1, v1_], .int .i64 r3, .int .i64 r4, .int .i64 r5]) ∧ Kd.R k58 58 w' w.heap.size (fun _ => True) v1_ r2 ∧ Below w.heap.size w w' := by
 have hu25 := Try.underlying25
 have HR0 := ak hr0
 have HC0 := ak hc0
 clear hr0 hc0
 have HB := ak (Below.refl w.heap.size w)
 have H : ((spec_l30Open.f l0).bind fun bt192 => ((spec_l30AnyNet.f k bt192.1 bt192.2).bind fun bt195 => ((spec_l30Node.f k bt192.1 bt195.2.2 bt195.1 bt195.2.1).bind fun bt201 => ((spec_l30Node.f k bt192.1 bt201.2 bt195.1 bt195.2.1).bind fun bt203 => ((spec_l30Rd_one.f k bt192.1 bt203.2 (([1, 2, 6, 6, 0] : List Int))).bind fun bt208 => (some (bt195.1, bt195.2.1, bt201.1, bt203.1, bt208.1))))))) = some (r1, r2, r3, r4, r5) := h
 clear h
 replace H := Option.bind_eq_some_iff.mp H
 obtain ⟨⟨t192, t193⟩, A20, H⟩ := H
 have A2 := ak A20
 clear A20
 replace H := Option.bind_eq_some_iff.mp H
 obtain ⟨⟨t195, t196, t199⟩, A30, H⟩ := H
 have A3 := ak A30
 clear A30
 replace H := Option.bind_eq_some_iff.mp H
 obtain ⟨⟨t201, t202⟩, A40, H⟩ := H
 have A4 := ak A40
 clear A40
 replace H := Option.bind_eq_some_iff.mp H
 obtain ⟨⟨t203, t204⟩, A50, H⟩ := H
 have A5 := ak A50
 clear A50
 obtain ⟨y205, hy205⟩ : ∃ y_ : List Int, y_ = (([1, 2, 6, 6, 0] : List Int)) := ⟨_, rfl⟩
 replace H : ((spec_l30Rd_one.f k t192 t204 y205).bind fun bt208 => (some (t195, t196, t201, t203, bt208.1))) = some (r1, r2, r3, r4, r5) := by first | (rw [hy205]; with_reducible exact H) | (have H2_ := (Option.bind_some _ _).symm.trans H; rw [hy205]; with_reducible exact H2_) | (have H2_ := (Option.bind_some _ _).symm.trans H; with_reducible exact H2_) | with_reducible exact H | (rw [hy205]; exact H) | exact H
 have Ny205 := ak hy205
 clear hy205
 replace H := Option.bind_eq_some_iff.mp H
 obtain ⟨⟨t208, t209⟩, A60, H⟩ := H
 have A6 := ak A60
 clear A60
 simp only [Option.some.injEq, Prod.mk.injEq] at H
 obtain ⟨rfl, rfl, rfl, rfl, rfl⟩ := H
 go_enter Try.func26, Try.ntmps26
 try go_wp2_with (first | ((with_reducible refine gate_dst (N := 2) rfl ?_); refine box_event ?hg (N := 2) ?hd (cs := #[.int .i64 0, .slice none 0 0]) (t := 25) ?hr ?_; (case hd => rfl); (case hg => rfl); (case hr => first | (go_simp; done) | (go_simp; rfl)); intro gb191 hg w7 hbox hb; have BK191 := ak (hbox); have GW191 := ak ((by rw [hg]; exact (below_size (bl HB)) : w.heap.size ≤ gb191)); have GE191 := ak ((by rw [hg]; exact (below_size (bl HB)) : w.heap.size ≤ gb191)); replace HB := ak (below_step (bl HB) hb); clear hb hbox hg) | ((with_reducible refine gate_callee (f := 44) rfl ?_); refine goesL_ (some 11) rfl rfl Try.func44 (by kernel_rfl) rfl #[.slice A0 l0.length c0] rfl (by (try simp only [List.map_toArray, List.map_cons, List.map_nil]); first | done | rfl | (simp only [List.length_drop, List.length_take]; rfl)) ?_; (with_reducible refine (spec_l30Open.calls _ _ l0 t192 t193 w _ ?side1 ?side2 ?side3 A2.out).mono ?_); (case side1 => repeat (first | (with_reducible first | exact HB.out | apply below_alloc | apply pw_below_drewN | apply below_drew1 | refine below_set ?_ GE191.out) | exact HB.out)); (case side2 => exact HR0.out); (case side3 => exact HC0.out); rintro e w8 ⟨g194, rfl, hi, hb, hb2⟩; refine ⟨_, rfl, ?_⟩; replace HB := ak (hb); have HI194 := ak (hi); have NB194_191 := ak (IsS95.ne_blk hi (blk_below (bk BK191) hb2) (by decide)); have NB191_194 := ak (Ne.symm (IsS95.ne_blk hi (blk_below (bk BK191) hb2) (by decide))); replace BK191 := ak (blk_below (bk BK191) hb2); (try clear hb); (try clear hb2); (try clear hk); (try clear hi)) | ((with_reducible refine gate_callee (f := 45) rfl ?_); refine goesL_ (some 13) rfl rfl Try.func45 (by kernel_rfl) rfl #[.pointer (some ⟨g194, 0, none⟩)] rfl (by (try simp only [List.map_toArray, List.map_cons, List.map_nil]); first | done | rfl | (simp only [List.length_drop, List.length_take]; rfl)) ?_; (with_reducible refine (spec_l30AnyNet.calls k g194 t192 t193 t195 t196 t199 w _ ?side1 ?side2 A3.out).mono ?_); (case side1 => repeat (first | (with_reducible first | exact HI194.out | apply IsS95.alloc | apply IsS95.drewN | apply IsS95.drew | apply IsS95.set_1 | refine IsS95.far ?_ NB194_191.out _) | exact HI194.out)); (case side2 => repeat (first | (with_reducible first | exact HB.out | apply below_alloc | apply pw_below_drewN | apply below_drew1 | refine below_set ?_ (IsS95.ge HI194.out) | refine below_set ?_ GE191.out) | exact HB.out)); rintro e w9 ⟨v197, rfl, ho0, hi, hb, hk⟩; refine ⟨_, rfl, ?_⟩; replace BK191 := ak (KeepBut.blk hk (g' := gb191) (o := .cells #[.int .i64 0, .slice none 0 0] 25 (0, 0)) (bk BK191) NB191_194.out (by simp)); have HO198 := ak (Kd.R_lower ho0 (below_size (by repeat (first | (with_reducible first | exact HB.out | apply below_alloc | apply pw_below_drewN | apply below_drew1 | refine below_set ?_ (IsS95.ge HI194.out) | refine below_set ?_ GE191.out) | exact HB.out)))); replace HB := ak (hb); replace HI194 := ak (hi); (try clear hb); (try clear hb2); (try clear hk); (try clear hi); (try clear ho0)) | ((with_reducible refine gate_dst (N := 7) rfl ?_); refine box_event ?hg (N := 7) ?hd (cs := #[.int .i64 0, .slice none 0 0]) (t := 25) ?hr ?_; (case hd => rfl); (case hg => rfl); (case hr => first | (go_simp; done) | (go_simp; rfl)); intro gb200 hg w10 hbox hb; replace HO198 := ak (Kd.R_below (rk HO198) hb); have BK200 := ak (hbox); have GW200 := ak ((by rw [hg]; exact (below_size (by repeat (first | (with_reducible first | exact HB.out | apply below_alloc | apply pw_below_drewN | apply below_drew1 | refine below_set ?_ (IsS95.ge HI194.out) | refine below_set ?_ GE191.out) | exact HB.out))) : w.heap.size ≤ gb200)); have GE200 := ak ((by rw [hg]; exact (below_size (by repeat (first | (with_reducible first | exact HB.out | apply below_alloc | apply pw_below_drewN | apply below_drew1 | refine below_set ?_ (IsS95.ge HI194.out) | refine below_set ?_ GE191.out) | exact HB.out))) : w.heap.size ≤ gb200)); replace HB := ak (below_step (by repeat (first | (with_reducible first | exact HB.out | apply below_alloc | apply pw_below_drewN | apply below_drew1 | refine below_set ?_ (IsS95.ge HI194.out) | refine below_set ?_ GE191.out) | exact HB.out)) hb); have NB191_200 := ak ((by rw [hg]; exact Nat.ne_of_lt (blk_lt (bk BK191)) : gb191 ≠ gb200)); have NB200_191 := ak ((by rw [hg]; exact Nat.ne_of_gt (blk_lt (bk BK191)) : gb200 ≠ gb191)); replace BK191 := ak (blk_below (bk BK191) hb); have NB194_200 := ak ((by rw [hg]; exact Nat.ne_of_lt (IsS95.lt (show IsS95 w _ g194 t192 t199 from by repeat (first | (with_reducible first | exact HI194.out | apply IsS95.alloc | apply IsS95.drewN | apply IsS95.drew | apply IsS95.set_1 | refine IsS95.far ?_ NB194_191.out _) | exact HI194.out))) : g194 ≠ gb200)); have NB200_194 := ak ((by rw [hg]; exact Nat.ne_of_gt (IsS95.lt (show IsS95 w _ g194 t192 t199 from by repeat (first | (with_reducible first | exact HI194.out | apply IsS95.alloc | apply IsS95.drewN | apply IsS95.drew | apply IsS95.set_1 | refine IsS95.far ?_ NB194_191.out _) | exact HI194.out))) : gb200 ≠ g194)); replace HI194 := ak (IsS95.below (by repeat (first | (with_reducible first | exact HI194.out | apply IsS95.alloc | apply IsS95.drewN | apply IsS95.drew | apply IsS95.set_1 | refine IsS95.far ?_ NB194_191.out _) | exact HI194.out)) hb); clear hb hbox hg; have hnb11 := NB200_191.out; have hnc11 := NB191_200.out; have hnb12 := NB200_194.out; have hnc12 := NB194_200.out; have hcz13_0 := bc w10 BK200 0 (.int .i64 0) rfl; have hcz13_1 := bc w10 BK200 1 (.slice none 0 0) rfl; have hfz13_0 := fz BK200 0; have hfz13_1 := fz BK200 1; obtain ⟨Ao14, co14, eo14⟩ := Kd.R_slice HO198.out; subst eo14) | ((with_reducible refine gate_callee (f := 46) rfl ?_); refine goesL_ (some 16) rfl rfl Try.func46 (by kernel_rfl) rfl #[.pointer (some ⟨g194, 0, none⟩), .agg #[.int .i64 t195, .slice Ao14 t196.length co14]] rfl (by (try simp only [List.map_toArray, List.map_cons, List.map_nil]); first | done | rfl | (simp only [List.length_drop, List.length_take]; rfl)) ?_; (with_reducible refine (spec_l30Node.calls k g194 t192 t199 t195 _ _ t196 t201 t202 w _ ?side1 ?side2 ?side3 ?side4 A4.out).mono ?_); (case side1 => repeat (first | (with_reducible first | exact HI194.out | apply IsS95.alloc | apply IsS95.drewN | apply IsS95.drew | apply IsS95.set_1 | refine IsS95.far ?_ NB194_191.out _ | refine IsS95.far ?_ NB194_200.out _) | exact HI194.out)); (case side2 => repeat (first | (with_reducible first | exact HB.out | apply below_alloc | apply pw_below_drewN | apply below_drew1 | refine below_set ?_ (IsS95.ge HI194.out) | refine below_set ?_ GE191.out | refine below_set ?_ GE200.out) | exact HB.out)); (case side3 => exact Kd.C_foot_own (IsS95.apart (show IsS95 w _ g194 t192 t199 from by repeat (first | (with_reducible first | exact HI194.out | apply IsS95.alloc | apply IsS95.drewN | apply IsS95.drew | apply IsS95.set_1 | refine IsS95.far ?_ NB194_191.out _ | refine IsS95.far ?_ NB194_200.out _) | exact HI194.out)) (by (with_reducible repeat (first | apply Kd.R_alloc | apply Kd.R_drewN | apply Kd.R_drew)); exact (Kd.R_mono (Kd.R_far (p := ⟨gb200, 1, none⟩) (Kd.R_far (p := ⟨gb200, 0, none⟩) (Kd.R_types HO198.out BK200.out (by decide)) (fun _ hk => hk.2) (.int .i64 t195)) (fun _ hk => hk.2) (.slice Ao14 t196.length co14)) (fun _ h_ => h_.1))) (by decide)) (fun _ h_ => h_.2)); (case side4 => exact (Kd.R_reads' HO198.out).2.1); rintro e w15 ⟨rfl, hi, hb, hk⟩; refine ⟨_, rfl, ?_⟩; replace BK191 := ak (KeepBut.blk hk (g' := gb191) (o := .cells #[.int .i64 0, .slice none 0 0] 25 (0, 0)) (by (with_reducible repeat (first | refine blk_drewN ?_ _ | refine blk_drew ?_ | refine blk_alloc ?_ _)); refine blk_far ?_ NB191_200.out _; refine blk_far ?_ NB191_200.out _; (with_reducible repeat (first | refine blk_drewN ?_ _ | refine blk_drew ?_ | refine blk_alloc ?_ _)); exact BK191.out) NB191_194.out (by simp)); replace HO198 := ak (Kd.R_mono (Kd.R_keep (IsS95.apart (show IsS95 w _ g194 t192 t199 from by repeat (first | (with_reducible first | exact HI194.out | apply IsS95.alloc | apply IsS95.drewN | apply IsS95.drew | apply IsS95.set_1 | refine IsS95.far ?_ NB194_191.out _ | refine IsS95.far ?_ NB194_200.out _) | exact HI194.out)) (by (with_reducible repeat (first | apply Kd.R_alloc | apply Kd.R_drewN | apply Kd.R_drew)); exact (Kd.R_mono (Kd.R_far (p := ⟨gb200, 1, none⟩) (Kd.R_far (p := ⟨gb200, 0, none⟩) (Kd.R_types HO198.out BK200.out (by decide)) (fun _ hk => hk.2) (.int .i64 t195)) (fun _ hk => hk.2) (.slice Ao14 t196.length co14)) (fun _ h_ => h_.1))) (by decide)) hk (fun _ h => h.2)) (fun _ h => h.1)); replace BK200 := ak (KeepBut.blk hk (g' := gb200) (o := .cells #[.int .i64 t195, .slice Ao14 t196.length co14] 25 (0, 0)) (by (with_reducible repeat (first | refine blk_drewN ?_ _ | refine blk_drew ?_ | refine blk_alloc ?_ _)); refine blk_put (cs := #[.int .i64 t195, .slice none 0 0]) ?_ 1 _ rfl; refine blk_put (cs := #[.int .i64 0, .slice none 0 0]) ?_ 0 _ rfl; (with_reducible repeat (first | refine blk_drewN ?_ _ | refine blk_drew ?_ | refine blk_alloc ?_ _)); exact BK200.out) NB200_194.out (by simp)); replace HB := ak (hb); replace HI194 := ak (hi); (try clear hb); (try clear hb2); (try clear hk); (try clear hi); have hcz16_0 := bc w15 BK200 0 (.int .i64 t195) rfl; have hcz16_1 := bc w15 BK200 1 (.slice Ao14 t196.length co14) rfl; have hfz16_0 := fz BK200 0; have hfz16_1 := fz BK200 1) | ((with_reducible refine gate_callee (f := 46) rfl ?_); refine goesL_ (some 19) rfl rfl Try.func46 (by kernel_rfl) rfl #[.pointer (some ⟨g194, 0, none⟩), .agg #[.int .i64 t195, .slice Ao14 t196.length co14]] rfl (by (try simp only [List.map_toArray, List.map_cons, List.map_nil]); first | done | rfl | (simp only [List.length_drop, List.length_take]; rfl)) ?_; (with_reducible refine (spec_l30Node.calls k g194 t192 t202 t195 _ _ t196 t203 t204 w _ ?side1 ?side2 ?side3 ?side4 A5.out).mono ?_); (case side1 => repeat (first | (with_reducible first | exact HI194.out | apply IsS95.alloc | apply IsS95.drewN | apply IsS95.drew | apply IsS95.set_1 | refine IsS95.far ?_ NB194_191.out _ | refine IsS95.far ?_ NB194_200.out _) | exact HI194.out)); (case side2 => repeat (first | (with_reducible first | exact HB.out | apply below_alloc | apply pw_below_drewN | apply below_drew1 | refine below_set ?_ (IsS95.ge HI194.out) | refine below_set ?_ GE191.out | refine below_set ?_ GE200.out) | exact HB.out)); (case side3 => exact Kd.C_foot_own (IsS95.apart (show IsS95 w _ g194 t192 t202 from by repeat (first | (with_reducible first | exact HI194.out | apply IsS95.alloc | apply IsS95.drewN | apply IsS95.drew | apply IsS95.set_1 | refine IsS95.far ?_ NB194_191.out _ | refine IsS95.far ?_ NB194_200.out _) | exact HI194.out)) (rk HO198) (by decide)) (fun _ h_ => h_.2)); (case side4 => exact (Kd.R_reads' HO198.out).2.1); rintro e w17 ⟨rfl, hi, hb, hk⟩; refine ⟨_, rfl, ?_⟩; replace BK191 := ak (KeepBut.blk hk (g' := gb191) (o := .cells #[.int .i64 0, .slice none 0 0] 25 (0, 0)) (bk BK191) NB191_194.out (by simp)); replace HO198 := ak (Kd.R_mono (Kd.R_keep (IsS95.apart (show IsS95 w _ g194 t192 t202 from by repeat (first | (with_reducible first | exact HI194.out | apply IsS95.alloc | apply IsS95.drewN | apply IsS95.drew | apply IsS95.set_1 | refine IsS95.far ?_ NB194_191.out _ | refine IsS95.far ?_ NB194_200.out _) | exact HI194.out)) (rk HO198) (by decide)) hk (fun _ h => h.2)) (fun _ h => h.1)); replace BK200 := ak (KeepBut.blk hk (g' := gb200) (o := .cells #[.int .i64 t195, .slice Ao14 t196.length co14] 25 (0, 0)) (bk BK200) NB200_194.out (by simp)); replace HB := ak (hb); replace HI194 := ak (hi); (try clear hb); (try clear hb2); (try clear hk); (try clear hi)))
 replace HO198 := ak (Kd.R_drew HO198.out)
 replace BK191 := ak (blk_drew BK191.out)
 replace BK200 := ak (blk_drew BK200.out)
 replace HI194 := ak (IsS95.drew HI194.out)
 replace HB := ak (below_drew1 HB.out)
 refine start_ (n := 10) (S := fun w' => w'.cell? ⟨gb200, 0, none⟩ = some (.int .i64 t195) ∧ w'.cell? ⟨gb200, 1, none⟩ = some (.slice Ao14 t196.length co14)) (ds := []) (ms 10 0) (by kernel_rfl) rfl (by kernel_rfl) ⟨(blk_cell BK200.out 0).trans rfl, (blk_cell BK200.out 1).trans rfl⟩ (fun hHeld => ?_); refine with_tabW spec_DrawSomeWalks.tab5 spec_DrawSomeWalks.bits5 (fun HT_ HW_ => ?_)
 generalize w17.drew = w18 at HO198 BK191 BK200 HI194 HB hHeld ⊢
 refine pu 1 21 ?_ (ms 10 2) rfl rfl HT_ (by kernel_rfl) (fun _ _ _ h => h) (by rfl) ?_ ?_ ?_ ?_
 rotate_left
 ·intro w'
  go_simp
  with_reducible rfl
 rotate_left
 ·simp only [SX]
  rfl
 refine pu 2 22 ?_ (ms 10 6) rfl rfl HT_ (by kernel_rfl) (fun _ _ _ h => h) (by rfl) ?_ ?_ ?_ ?_
 rotate_left
 ·intro w'
  go_simp
  with_reducible rfl
 rotate_left
 ·simp only [SX]
  rfl
 refine pu 3 23 ?_ (ms 10 14) rfl rfl HT_ (by kernel_rfl) (fun _ _ _ h => h) (by rfl) ?_ ?_ ?_ ?_
 rotate_left
 ·intro w'
  go_simp
  with_reducible rfl
 rotate_left
 ·simp only [SX]
  rfl
 refine tk 0 20 ?_ (ms 10 15) rfl rfl HT_ HW_ (by kernel_rfl) (fun _ _ _ h => h) (by rfl) ?_ hHeld ?_ ?_ ?_
 rotate_left
 ·rintro w' ⟨s0, s1⟩
  go_simp
  with_reducible rfl
 rotate_left
 ·simp only [SX]
  rfl
 refine one_ (i := 4) (N := some 24) (ms 10 31) rfl rfl (one_of HT_.out (by kernel_rfl)) (by decide) (fun K hK => ?_)
 refine Kd.R_lit_step (Kd.int .i64) _ 3 ?hg (N := 24) ?hd (xs := ([1, 2, 6, 6, 0] : List Int)) (inner := [.int .i64 1, .int .i64 2, .int .i64 6, .int .i64 6, .int .i64 0]) (ok := fun _ => True) (okp := fun _ => True) ?hr ?hp (fun _ hk => hk) trivial (Below.refl _ _) (Nat.le_refl _) (by simp) ?_; (case hd => rfl); (case hg => rfl); (case hr => first | (go_simp; done) | (go_simp; rfl)); (case hp => exact (Reps.one (show Kd.M (Kd.int .i64) _ _ _ 1 [.int .i64 1] from rfl) (Reps.one (show Kd.M (Kd.int .i64) _ _ _ 2 [.int .i64 2] from rfl) (Reps.one (show Kd.M (Kd.int .i64) _ _ _ 6 [.int .i64 6] from rfl) (Reps.one (show Kd.M (Kd.int .i64) _ _ _ 6 [.int .i64 6] from rfl) (Reps.one (show Kd.M (Kd.int .i64) _ _ _ 0 [.int .i64 0] from rfl) (Reps.none _ _)))))))
 intro v206 w19 ho20 hb hg_ hnew_
 clear hg_ hnew_
 (first | rw [← Ny205.out] at ho20 | (simp only [Int.reduceToNat] at ho20; rw [← Ny205.out] at ho20))
 replace HO198 := ak (Kd.R_below (rk HO198) hb)
 have HO207 := ak (Kd.R_lower ho20 (below_size (by repeat (first | (with_reducible first | exact HB.out | apply below_alloc | apply pw_below_drewN | apply below_drew1 | refine below_set ?_ (IsS95.ge HI194.out) | refine below_set ?_ GE191.out | refine below_set ?_ GE200.out) | exact HB.out))))
 replace BK191 := ak (blk_below (bk BK191) hb)
 replace BK200 := ak (blk_below (bk BK200) hb)
 replace HB := ak (below_step (by repeat (first | (with_reducible first | exact HB.out | apply below_alloc | apply pw_below_drewN | apply below_drew1 | refine below_set ?_ (IsS95.ge HI194.out) | refine below_set ?_ GE191.out | refine below_set ?_ GE200.out) | exact HB.out)) hb)
 replace HI194 := ak (IsS95.below (by repeat (first | (with_reducible first | exact HI194.out | apply IsS95.alloc | apply IsS95.drewN | apply IsS95.drew | apply IsS95.set_1 | refine IsS95.far ?_ NB194_191.out _ | refine IsS95.far ?_ NB194_200.out _) | exact HI194.out)) hb)
 clear hb ho20
 obtain ⟨Ao21, co21, eo21⟩ := Kd.R_slice HO207.out
 (first | subst eo21 | (injection eo21 with f1_ f2_ f3_; have f4_ := f1_.symm; have f5_ := f3_.symm; clear f1_ f2_ f3_; subst f4_; subst f5_))
 refine hK.out _ _ ⟨(blk_cell BK200.out 0).trans rfl, (blk_cell BK200.out 1).trans rfl⟩ (fun hHeld => ?_)
 clear hK K
 refine norm_ (a' := ?_) ?_ ?_
 rotate_left
 ·show Act.put _ (some 24) _ = _
  simp only [SX]
  rfl
 refine one_ (i := 5) (N := some 25) (ms 10 63) rfl rfl (one_of HT_.out (by kernel_rfl)) (by decide) (fun K hK => ?_)
 refine goes_ Try.func47 (by kernel_rfl) rfl #[.pointer (some ⟨g194, 0, none⟩), .slice Ao21 y205.length co21] (by rfl) rfl rfl (by (try simp only [List.map_toArray, List.map_cons, List.map_nil]); first | done | rfl | (simp only [List.length_drop, List.length_take]; rfl)) ?_
 with_reducible refine (spec_l30Rd_one.calls k g194 t192 t204 _ _ y205 t208 t209 w _ ?side1 ?side2 ?side3 ?side4 ?side5 A6.out).mono ?_
 (case side1 => repeat (first | (with_reducible first | exact HI194.out | apply IsS95.alloc | apply IsS95.drewN | apply IsS95.drew | apply IsS95.set_1 | refine IsS95.far ?_ NB194_191.out _ | refine IsS95.far ?_ NB194_200.out _) | exact HI194.out))
 (case side2 => repeat (first | (with_reducible first | exact HB.out | apply below_alloc | apply pw_below_drewN | apply below_drew1 | refine below_set ?_ (IsS95.ge HI194.out) | refine below_set ?_ GE191.out | refine below_set ?_ GE200.out) | exact HB.out))
 (case side3 => repeat (first | exact (Kd.R_reads' HO207.out).2.2 | (with_reducible refine Kd.C_alloc ?_ _) | (with_reducible refine Kd.C_drewN ?_ _) | (with_reducible refine Kd.C_drew ?_)))
 (case side4 => exact (Kd.R_reads' HO207.out).2.1)
 (case side5 => exact far_slice (IsS95.own_ne HI194.out HO207.out (by decide)))
 rintro e w22 ⟨rfl, hi, hb, hk⟩
 refine ⟨_, rfl, ?_⟩
 replace BK191 := ak (KeepBut.blk hk (g' := gb191) (o := .cells #[.int .i64 0, .slice none 0 0] 25 (0, 0)) (bk BK191) NB191_194.out (by simp))
 replace HO198 := ak (Kd.R_mono (Kd.R_keep (IsS95.apart (show IsS95 w _ g194 t192 t204 from by repeat (first | (with_reducible first | exact HI194.out | apply IsS95.alloc | apply IsS95.drewN | apply IsS95.drew | apply IsS95.set_1 | refine IsS95.far ?_ NB194_191.out _ | refine IsS95.far ?_ NB194_200.out _) | exact HI194.out)) (rk HO198) (by decide)) hk (fun _ h => h.2)) (fun _ h => h.1))
 replace BK200 := ak (KeepBut.blk hk (g' := gb200) (o := .cells #[.int .i64 t195, .slice Ao14 t196.length co14] 25 (0, 0)) (bk BK200) NB200_194.out (by simp))
 replace HO207 := ak (Kd.R_mono (Kd.R_keep (IsS95.apart (show IsS95 w _ g194 t192 t204 from by repeat (first | (with_reducible first | exact HI194.out | apply IsS95.alloc | apply IsS95.drewN | apply IsS95.drew | apply IsS95.set_1 | refine IsS95.far ?_ NB194_191.out _ | refine IsS95.far ?_ NB194_200.out _) | exact HI194.out)) (rk HO207) (by decide)) hk (fun _ h => h.2)) (fun _ h => h.1))
 replace HB := ak (hb)
 replace HI194 := ak (hi)
 (try clear hb)
 (try clear hb2)
 (try clear hk)
 (try clear hi)
 refine hK.out _ _ ⟨(blk_cell BK200.out 0).trans rfl, (blk_cell BK200.out 1).trans rfl⟩ (fun hHeld => ?_)
 clear hK K
 refine norm_ (a' := ?_) ?_ ?_
 rotate_left
 ·show Act.put _ (some 25) _ = _
  simp only [SX]
  rfl
 refine one_ (i := 6) (N := none) (ms 10 127) rfl rfl (one_of HT_.out (by kernel_rfl)) (by decide) (fun K hK => ?_)
 have hs23 : w22.cell? ⟨gb191, 0, none⟩ = some (.int .i64 0) := (blk_cell BK191.out 0).trans rfl
 have hfs23 := blk_frozen BK191.out 0
 have hns23_1 := NB200_191.out
 have hms23_1 := NB191_200.out
 have hs24 : w22.cell? ⟨gb191, 1, none⟩ = some (.slice none 0 0) := (blk_cell BK191.out 1).trans rfl
 have hfs24 := blk_frozen BK191.out 1
 have hns24_1 := NB200_191.out
 have hms24_1 := NB191_200.out
 refine skip_ (w1 := ?_) (by rfl) rfl ?_ ?_
 rotate_left
 ·go_simp
  rfl
 refine hK.out _ _ ⟨((cell_far (p := ⟨gb191, _, none⟩) NB200_191.out _).trans (((cell_far (p := ⟨gb191, _, none⟩) NB200_191.out _).trans (hHeld.1)))), ((cell_far (p := ⟨gb191, _, none⟩) NB200_191.out _).trans (((cell_far (p := ⟨gb191, _, none⟩) NB200_191.out _).trans (hHeld.2))))⟩ (fun hHeld => ?_)
 clear hK K
 refine pu 7 3 ?_ (ms 10 255) rfl rfl HT_ (by kernel_rfl) (fun _ _ _ h => h) (by rfl) ?_ ?_ ?_ ?_
 rotate_left
 ·intro w'
  go_simp
  with_reducible rfl
 rotate_left
 ·simp only [SX]
  rfl
 refine pu 8 4 ?_ (ms 10 511) rfl rfl HT_ (by kernel_rfl) (fun _ _ _ h => h) (by rfl) ?_ ?_ ?_ ?_
 rotate_left
 ·intro w'
  go_simp
  with_reducible rfl
 rotate_left
 ·simp only [SX]
  rfl
 refine pu 9 5 ?_ (ms 10 1023) rfl rfl HT_ (by kernel_rfl) (fun _ _ _ h => h) (by rfl) ?_ ?_ ?_ ?_
 rotate_left
 ·intro w'
  go_simp
  with_reducible rfl
 rotate_left
 ·simp only [SX]
  rfl
 refine done_ (done_of HT_.out (by kernel_rfl)) ?_
 try go_wp2
 refine bodyPost_ret (results_list (rs := [.cell 2 25, .tmp 3, .tmp 4, .tmp 5]) rfl (by simp) (.cell gb191 25 #[.int .i64 t195, .slice Ao14 t196.length co14] (0, 0) _ rfl (by (with_reducible repeat (first | refine blk_drewN ?_ _ | refine blk_drew ?_ | refine blk_alloc ?_ _)); refine blk_put (cs := #[.int .i64 t195, .slice none 0 0]) ?_ 1 _ rfl; refine blk_put (cs := #[.int .i64 0, .slice none 0 0]) ?_ 0 _ rfl; (with_reducible repeat (first | refine blk_drewN ?_ _ | refine blk_drew ?_ | refine blk_alloc ?_ _)); exact BK191.out) Try.underlying25 rfl (by kernel_rfl) (.tmp (.tmp (.tmp .nil))))) rfl ?_
 exact ⟨_, by first | rfl | (simp [errW_none, errW_some] <;> rfl) | (simp [*, errW_none, errW_some] <;> rfl), by (with_reducible repeat (first | apply Kd.R_alloc | apply Kd.R_drewN | apply Kd.R_drew)); exact Kd.R_mono (Kd.R_far (p := ⟨gb191, 1, none⟩) (Kd.R_far (p := ⟨gb191, 0, none⟩) (Kd.R_types HO198.out BK191.out (by decide)) (fun _ hk => hk.2) (.int .i64 t195)) (fun _ hk => hk.2) (.slice Ao14 t196.length co14)) (fun _ hk => trivial), by repeat (first | (with_reducible first | exact HB.out | apply below_alloc | apply pw_below_drewN | apply below_drew1 | refine below_set ?_ (IsS95.ge HI194.out) | refine below_set ?_ GE191.out | refine below_set ?_ GE200.out) | exact HB.out)⟩

end Go.Proofs.Ytlgolgfcolnddaa.F
