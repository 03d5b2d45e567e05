-- Printed by wip/px/px.py of this claim's repository (the kit's printer, extended there). Lean checks it.
import Derived.Test.YtlgolgfcolnddaaFKinds
import Derived.Test.YtlgolgfcolnddaaFspecl30Open
import Derived.Test.YtlgolgfcolnddaaFspecl30Rdpick
import Derived.Test.YtlgolgfcolnddaaFspecl30Rdone
import Derived.Test.YtlgolgfcolnddaaFspecl1Ok
import Derived.Test.YtlgolgfcolnddaaFspecl30Walk
namespace Go.Proofs.Ytlgolgfcolnddaa.F
open Go.RowKit Go.Proofs.YtlgolgfcolnddaaW.PrintWords Go.Proofs.YtlgolgfcolnddaaW.PrintLast Go.Proofs.YtlgolgfcolnddaaW.PrintMore
attribute [local go_sem] max2_int min2_int max_two min_two max_three min_three max_four min_four   -- for this text's walks alone
set_option linter.unusedVariables false
set_option linter.unusedSimpArgs false

/-! ### spec_l30AnyWalk: function 106 -/
def spec_l30AnyWalk.f (k : Nat) (s0_0 : List Int) (s0_1 : Int) (a1_0 : Int) (l1_1 : List (S58)) : Option (List Int × Int) := (spec_l1Ok.f k a1_0 l1_1).bind fun t544 => (if t544 = true then ((spec_l30Rd_pick.f k s0_0 s0_1 a1_0).bind fun bt548 => ((spec_l30Rd_one.f k s0_0 bt548.2 (([3, 8, 21] : List Int))).bind fun bt553 => ((spec_l30Walk.f k s0_0 bt553.2 a1_0 l1_1 bt548.1 bt553.1).bind fun bt555 => ((spec_l30Rd_pick.f k s0_0 bt555.2 10).bind fun bt559 => (if bt559.1 = 0 then ((spec_l30Rd_pick.f k s0_0 bt559.2 17).bind fun bt561 => (if bt555.1.length < 17592186044416 then (some ((bt555.1 ++ [wrap64 (bt561.1 - 1)]), bt561.2)) else (none))) else (some (bt555.1, bt559.2))))))) else (some ((([0] : List Int)), s0_1)))
theorem spec_l30AnyWalk.mono : ∀ a0 a1 a2 a3 k, LeO (spec_l30AnyWalk.f k a0 a1 a2 a3) (spec_l30AnyWalk.f (k + 1) a0 a1 a2 a3) := by
 intro a0 a1 a2 a3 k
 unfold spec_l30AnyWalk.f
 repeat' first
   | (with_reducible exact spec_l1Ok.mono _ _ _)
   | (with_reducible exact spec_l30Rd_one.mono _ _ _ _)
   | (with_reducible exact spec_l30Rd_pick.mono _ _ _ _)
   | (with_reducible exact spec_l30Walk.mono _ _ _ _ _ _ _)
   | (with_reducible exact LeO.refl _)
   | (with_reducible exact LeO.none _)
   | (with_reducible refine LeO.ite ?_ ?_)
   | (with_reducible refine LeO.bind ?_ (fun _ => ?_))
   | exact spec_l1Ok.mono _ _ _
   | exact spec_l30Rd_one.mono _ _ _ _
   | exact spec_l30Rd_pick.mono _ _ _ _
   | exact spec_l30Walk.mono _ _ _ _ _ _ _
   | exact LeO.none _
   | refine LeO.ite ?_ ?_
   | refine LeO.bind ?_ (fun _ => ?_)
def spec_l30AnyWalk.T3 : Bool × List (List Nat × List Nat) := (true, [([], []), ([], []), ([], []), ([], []), ([3], [3]), ([2, 4], [2, 4]), ([], []), ([], []), ([6, 7, 5], [6, 7]), ([0, 1, 5, 8, 8], [0, 1, 5, 8]), ([9, 9, 0, 1, 2, 3, 4, 5, 6, 7, 8, 9], [9])])
def spec_l30AnyWalk.B3 : List Nat := [0, 0, 0, 0, 8, 28, 0, 0, 252, 511, 1023]
theorem spec_l30AnyWalk.tab3 : rtab .any (opsOf Try.f106 3) = spec_l30AnyWalk.T3 := by kernel_rfl
theorem spec_l30AnyWalk.bits3 : waitsOk spec_l30AnyWalk.T3.2 spec_l30AnyWalk.B3 = true := by kernel_rfl
set_option maxHeartbeats 8000000 in
set_option maxRecDepth 100000 in
theorem spec_l30AnyWalk.calls (k : Nat) (g : Nat) (s0_0 : List Int) (s0_1 : Int) (a1_0 : Int) (A1_1 : Option Addr) (c1_1 : Nat) (l1_1 : List (S58)) (r1 : List Int) (r2 : Int) (w0 w : World) (hI : IsS95 w0 w g s0_0 s0_1) (hB : Below w0.heap.size w0 w) (hr1_1 : ∀ W_, KeepBut w W_ g none → Kd.C k58 W_ A1_1 l1_1.length l1_1) (hc1_1 : l1_1.length ≤ c1_1) (h : spec_l30AnyWalk.f k s0_0 s0_1 a1_0 l1_1 = some (r1, r2)) :
  Calls Try.prog 106 #[.pointer (some ⟨g, 0, none⟩), .agg #[.int .i64 a1_0, .slice A1_1 l1_1.length c1_1]] w fun e w' => ∃ v0_ : Value, e = .returned (v0_) ∧ Kd.R (Kd.int .i64) 3 w' w.heap.size (fun _ => True) v0_ r1 ∧ IsS95 w0 w' g s0_0 r2 ∧ Below w0.heap.size w0 w' ∧ KeepBut w w' g none := by
 have hu25 := Try.underlying25
 have HR1_1 := ak hr1_1
 have HC1_1 := ak hc1_1
 clear hr1_1 hc1_1
 have HI0 := ak hI
 have HK := ak (KeepBut.refl w g none)
 have HL := ak hB.size
 clear hI
 have HW0 := ak hB.size
 have HB := ak hB
 clear hB
 have H : ((spec_l1Ok.f k a1_0 l1_1).bind fun t544 => (if t544 = true then ((spec_l30Rd_pick.f k s0_0 s0_1 a1_0).bind fun bt548 => ((spec_l30Rd_one.f k s0_0 bt548.2 (([3, 8, 21] : List Int))).bind fun bt553 => ((spec_l30Walk.f k s0_0 bt553.2 a1_0 l1_1 bt548.1 bt553.1).bind fun bt555 => ((spec_l30Rd_pick.f k s0_0 bt555.2 10).bind fun bt559 => (if bt559.1 = 0 then ((spec_l30Rd_pick.f k s0_0 bt559.2 17).bind fun bt561 => (if bt555.1.length < 17592186044416 then (some ((bt555.1 ++ [wrap64 (bt561.1 - 1)]), bt561.2)) else (none))) else (some (bt555.1, bt559.2))))))) else (some ((([0] : List Int)), s0_1)))) = some (r1, r2) := h
 clear h
 replace H := Option.bind_eq_some_iff.mp H
 obtain ⟨t544, A30, H⟩ := H
 have A3 := ak A30
 clear A30
 by_cases c4 : t544 = true
 rotate_left
 ·replace c4 := Bool.eq_false_iff.mpr c4
  subst c4
  rw [if_neg (show ¬ (false = true) by decide)] at H
  obtain ⟨y545, hy545⟩ : ∃ y_ : List Int, y_ = (([0] : List Int)) := ⟨_, rfl⟩
  replace H : (some (y545, s0_1)) = some (r1, r2) := by first | (rw [hy545]; with_reducible exact H) | (have H2_ := (Option.bind_some _ _).symm.trans H; rw [hy545]; with_reducible exact H2_) | (have H2_ := (Option.bind_some _ _).symm.trans H; with_reducible exact H2_) | with_reducible exact H | (rw [hy545]; exact H) | exact H
  have Ny545 := ak hy545
  clear hy545
  simp only [Option.some.injEq, Prod.mk.injEq] at H
  obtain ⟨rfl, rfl⟩ := H
  go_enter Try.func106, Try.ntmps106
  go_wp2_with (first | ((with_reducible refine gate_dst (N := 3) rfl ?_); refine box_event ?hg (N := 3) ?hd (cs := #[.int .i64 a1_0, .slice A1_1 l1_1.length c1_1]) (t := 25) ?hr ?_; (case hd => rfl); (case hg => rfl); (case hr => first | (go_simp; done) | (go_simp; rfl)); intro gb543 hg w40 hbox hb; replace HB := ak (below_step (by repeat (first | (with_reducible first | exact HB.out | apply below_alloc | apply pw_below_drewN | apply below_drew1 | refine below_set ?_ (IsS95.ge HI0.out)) | exact HB.out)) hb); have BK543 := ak (hbox); have GW543 := ak ((by rw [hg]; exact (keep_size (w := w) (g := g) (row := none) (by repeat (first | (with_reducible first | exact HK.out | apply KeepBut.set_ | apply keep_drewN | apply keep_drew | apply keep_alloc) | exact HK.out))) : w.heap.size ≤ gb543)); have GE543 := ak ((Nat.le_trans HW0.out (by rw [hg]; exact (keep_size (w := w) (g := g) (row := none) (by repeat (first | (with_reducible first | exact HK.out | apply KeepBut.set_ | apply keep_drewN | apply keep_drew | apply keep_alloc) | exact HK.out))) : w.heap.size ≤ gb543) : w0.heap.size ≤ gb543)); replace HK := ak (KeepBut.trans (by repeat (first | (with_reducible first | exact HK.out | apply KeepBut.set_ | apply keep_drewN | apply keep_drew | apply keep_alloc) | exact HK.out)) (KeepBut.of_below hb g none) (.inl rfl)); have NB0_543 := ak ((by rw [hg]; exact Nat.ne_of_lt (IsS95.lt (show IsS95 w0 _ g s0_0 s0_1 from by repeat (first | (with_reducible first | exact HI0.out | apply IsS95.alloc | apply IsS95.drewN | apply IsS95.drew | apply IsS95.set_1) | exact HI0.out))) : g ≠ gb543)); have NB543_0 := ak ((by rw [hg]; exact Nat.ne_of_gt (IsS95.lt (show IsS95 w0 _ g s0_0 s0_1 from by repeat (first | (with_reducible first | exact HI0.out | apply IsS95.alloc | apply IsS95.drewN | apply IsS95.drew | apply IsS95.set_1) | exact HI0.out))) : gb543 ≠ g)); replace HI0 := ak (IsS95.below (by repeat (first | (with_reducible first | exact HI0.out | apply IsS95.alloc | apply IsS95.drewN | apply IsS95.drew | apply IsS95.set_1) | exact HI0.out)) hb); clear hb hbox hg; have hnb41 := NB543_0.out; have hnc41 := NB0_543.out; have hcz42_0 := bc w40 BK543 0 (.int .i64 a1_0) rfl; have hcz42_1 := bc w40 BK543 1 (.slice A1_1 l1_1.length c1_1) rfl; have hfz42_0 := fz BK543 0; have hfz42_1 := fz BK543 1) | ((with_reducible refine gate_callee (f := 53) rfl ?_); refine goesL_ (some 7) rfl rfl Try.func53 (by kernel_rfl) rfl #[.agg #[.int .i64 a1_0, .slice A1_1 l1_1.length c1_1]] rfl (by (try simp only [List.map_toArray, List.map_cons, List.map_nil]); first | done | rfl | (simp only [List.length_drop, List.length_take]; rfl)) ?_; (with_reducible refine (spec_l1Ok.calls k a1_0 _ _ l1_1 false _ ?side1 ?side2 A3.out).mono ?_); (case side1 => exact Kd.C_foot_now HR1_1.out (by repeat (first | (with_reducible first | exact HK.out | apply KeepBut.set_ | apply keep_drewN | apply keep_drew | apply keep_alloc | refine keep_far ?_ GW543.out _) | exact HK.out))); (case side2 => exact HC1_1.out); rintro e w43 ⟨rfl, hb⟩; refine ⟨_, rfl, ?_⟩; replace BK543 := ak (blk_below (bk BK543) hb); replace HK := ak (KeepBut.trans (by repeat (first | (with_reducible first | exact HK.out | apply KeepBut.set_ | apply keep_drewN | apply keep_drew | apply keep_alloc | refine keep_far ?_ GW543.out _) | exact HK.out)) (KeepBut.of_below hb g none) (.inl rfl)); replace HB := ak (below_step (by repeat (first | (with_reducible first | exact HB.out | apply below_alloc | apply pw_below_drewN | apply below_drew1 | refine below_set ?_ (IsS95.ge HI0.out) | refine below_set ?_ GE543.out) | exact HB.out)) hb); replace HI0 := ak (IsS95.below (by repeat (first | (with_reducible first | exact HI0.out | apply IsS95.alloc | apply IsS95.drewN | apply IsS95.drew | apply IsS95.set_1 | refine IsS95.far ?_ NB0_543.out _) | exact HI0.out)) hb); (try clear hb); (try clear hb2); (try clear hk); (try clear hi)) | ((with_reducible refine gate_dst (N := 9) rfl ?_); refine Kd.R_lit (Kd.int .i64) _ 3 ?hg (N := 9) ?hd (xs := ([0] : List Int)) (inner := [.int .i64 0]) (ok := fun _ => True) (okp := fun _ => True) ?hr ?hp (fun _ hk => hk) trivial (Below.refl _ _) (Nat.le_refl _) (by simp) ?_; (case hd => rfl); (case hg => rfl); (case hr => first | (go_simp; done) | (go_simp; rfl)); (case hp => exact (Reps.one (show Kd.M (Kd.int .i64) _ _ _ 0 [.int .i64 0] from rfl) (Reps.none _ _))); intro v546 w44 ho45 hb hg_ hnew_; clear hg_ hnew_; (first | rw [← Ny545.out] at ho45 | (simp only [Int.reduceToNat] at ho45; rw [← Ny545.out] at ho45)); have HO547 := ak (Kd.R_lower ho45 (keep_size (w := w) (g := g) (row := none) (by repeat (first | (with_reducible first | exact HK.out | apply KeepBut.set_ | apply keep_drewN | apply keep_drew | apply keep_alloc | refine keep_far ?_ GW543.out _) | exact HK.out)))); replace BK543 := ak (blk_below (bk BK543) hb); replace HK := ak (KeepBut.trans (by repeat (first | (with_reducible first | exact HK.out | apply KeepBut.set_ | apply keep_drewN | apply keep_drew | apply keep_alloc | refine keep_far ?_ GW543.out _) | exact HK.out)) (KeepBut.of_below hb g none) (.inl rfl)); replace HB := ak (below_step (by repeat (first | (with_reducible first | exact HB.out | apply below_alloc | apply pw_below_drewN | apply below_drew1 | refine below_set ?_ (IsS95.ge HI0.out) | refine below_set ?_ GE543.out) | exact HB.out)) hb); replace HI0 := ak (IsS95.below (by repeat (first | (with_reducible first | exact HI0.out | apply IsS95.alloc | apply IsS95.drewN | apply IsS95.drew | apply IsS95.set_1 | refine IsS95.far ?_ NB0_543.out _) | exact HI0.out)) hb); clear hb ho45))
  go_ret
  exact ⟨_, by first | rfl | (simp [errW_none, errW_some] <;> rfl) | (simp [*, errW_none, errW_some] <;> rfl), rk HO547, by repeat (first | (with_reducible first | exact HI0.out | apply IsS95.alloc | apply IsS95.drewN | apply IsS95.drew | apply IsS95.set_1 | refine IsS95.far ?_ NB0_543.out _) | exact HI0.out), by repeat (first | (with_reducible first | exact HB.out | apply below_alloc | apply pw_below_drewN | apply below_drew1 | refine below_set ?_ (IsS95.ge HI0.out) | refine below_set ?_ GE543.out) | exact HB.out), by repeat (first | (with_reducible first | exact HK.out | apply KeepBut.set_ | apply keep_drewN | apply keep_drew | apply keep_alloc | refine keep_far ?_ GW543.out _) | exact HK.out)⟩
 subst c4
 rw [if_pos rfl] at H
 replace H := Option.bind_eq_some_iff.mp H
 obtain ⟨⟨t548, t549⟩, A50, H⟩ := H
 have A5 := ak A50
 clear A50
 obtain ⟨y550, hy550⟩ : ∃ y_ : List Int, y_ = (([3, 8, 21] : List Int)) := ⟨_, rfl⟩
 replace H : ((spec_l30Rd_one.f k s0_0 t549 y550).bind fun bt553 => ((spec_l30Walk.f k s0_0 bt553.2 a1_0 l1_1 t548 bt553.1).bind fun bt555 => ((spec_l30Rd_pick.f k s0_0 bt555.2 10).bind fun bt559 => (if bt559.1 = 0 then ((spec_l30Rd_pick.f k s0_0 bt559.2 17).bind fun bt561 => (if bt555.1.length < 17592186044416 then (some ((bt555.1 ++ [wrap64 (bt561.1 - 1)]), bt561.2)) else (none))) else (some (bt555.1, bt559.2)))))) = some (r1, r2) := by first | (rw [hy550]; with_reducible exact H) | (have H2_ := (Option.bind_some _ _).symm.trans H; rw [hy550]; with_reducible exact H2_) | (have H2_ := (Option.bind_some _ _).symm.trans H; with_reducible exact H2_) | with_reducible exact H | (rw [hy550]; exact H) | exact H
 have Ny550 := ak hy550
 clear hy550
 replace H := Option.bind_eq_some_iff.mp H
 obtain ⟨⟨t553, t554⟩, A60, H⟩ := H
 have A6 := ak A60
 clear A60
 replace H := Option.bind_eq_some_iff.mp H
 obtain ⟨⟨t555, t558⟩, A70, H⟩ := H
 have A7 := ak A70
 clear A70
 replace H := Option.bind_eq_some_iff.mp H
 obtain ⟨⟨t559, t560⟩, A80, H⟩ := H
 have A8 := ak A80
 clear A80
 by_cases c9 : t559 = 0
 rotate_left
 ·rw [if_neg c9] at H
  have c9b0 : (t559 == 0) = false := beq_eq_false_iff_ne.mpr c9
  have c9b1 : (t559 != 0) = true := bne_iff_ne.mpr c9
  simp only [Option.some.injEq, Prod.mk.injEq] at H
  obtain ⟨rfl, rfl⟩ := H
  go_enter Try.func106, Try.ntmps106
  try go_wp2_with (first | ((with_reducible refine gate_dst (N := 3) rfl ?_); refine box_event ?hg (N := 3) ?hd (cs := #[.int .i64 a1_0, .slice A1_1 l1_1.length c1_1]) (t := 25) ?hr ?_; (case hd => rfl); (case hg => rfl); (case hr => first | (go_simp; done) | (go_simp; rfl)); intro gb543 hg w27 hbox hb; replace HB := ak (below_step (by repeat (first | (with_reducible first | exact HB.out | apply below_alloc | apply pw_below_drewN | apply below_drew1 | refine below_set ?_ (IsS95.ge HI0.out)) | exact HB.out)) hb); have BK543 := ak (hbox); have GW543 := ak ((by rw [hg]; exact (keep_size (w := w) (g := g) (row := none) (by repeat (first | (with_reducible first | exact HK.out | apply KeepBut.set_ | apply keep_drewN | apply keep_drew | apply keep_alloc) | exact HK.out))) : w.heap.size ≤ gb543)); have GE543 := ak ((Nat.le_trans HW0.out (by rw [hg]; exact (keep_size (w := w) (g := g) (row := none) (by repeat (first | (with_reducible first | exact HK.out | apply KeepBut.set_ | apply keep_drewN | apply keep_drew | apply keep_alloc) | exact HK.out))) : w.heap.size ≤ gb543) : w0.heap.size ≤ gb543)); replace HK := ak (KeepBut.trans (by repeat (first | (with_reducible first | exact HK.out | apply KeepBut.set_ | apply keep_drewN | apply keep_drew | apply keep_alloc) | exact HK.out)) (KeepBut.of_below hb g none) (.inl rfl)); have NB0_543 := ak ((by rw [hg]; exact Nat.ne_of_lt (IsS95.lt (show IsS95 w0 _ g s0_0 s0_1 from by repeat (first | (with_reducible first | exact HI0.out | apply IsS95.alloc | apply IsS95.drewN | apply IsS95.drew | apply IsS95.set_1) | exact HI0.out))) : g ≠ gb543)); have NB543_0 := ak ((by rw [hg]; exact Nat.ne_of_gt (IsS95.lt (show IsS95 w0 _ g s0_0 s0_1 from by repeat (first | (with_reducible first | exact HI0.out | apply IsS95.alloc | apply IsS95.drewN | apply IsS95.drew | apply IsS95.set_1) | exact HI0.out))) : gb543 ≠ g)); replace HI0 := ak (IsS95.below (by repeat (first | (with_reducible first | exact HI0.out | apply IsS95.alloc | apply IsS95.drewN | apply IsS95.drew | apply IsS95.set_1) | exact HI0.out)) hb); clear hb hbox hg; have hnb28 := NB543_0.out; have hnc28 := NB0_543.out; have hcz29_0 := bc w27 BK543 0 (.int .i64 a1_0) rfl; have hcz29_1 := bc w27 BK543 1 (.slice A1_1 l1_1.length c1_1) rfl; have hfz29_0 := fz BK543 0; have hfz29_1 := fz BK543 1) | ((with_reducible refine gate_callee (f := 53) rfl ?_); refine goesL_ (some 7) rfl rfl Try.func53 (by kernel_rfl) rfl #[.agg #[.int .i64 a1_0, .slice A1_1 l1_1.length c1_1]] rfl (by (try simp only [List.map_toArray, List.map_cons, List.map_nil]); first | done | rfl | (simp only [List.length_drop, List.length_take]; rfl)) ?_; (with_reducible refine (spec_l1Ok.calls k a1_0 _ _ l1_1 true _ ?side1 ?side2 A3.out).mono ?_); (case side1 => exact Kd.C_foot_now HR1_1.out (by repeat (first | (with_reducible first | exact HK.out | apply KeepBut.set_ | apply keep_drewN | apply keep_drew | apply keep_alloc | refine keep_far ?_ GW543.out _) | exact HK.out))); (case side2 => exact HC1_1.out); rintro e w30 ⟨rfl, hb⟩; refine ⟨_, rfl, ?_⟩; replace BK543 := ak (blk_below (bk BK543) hb); replace HK := ak (KeepBut.trans (by repeat (first | (with_reducible first | exact HK.out | apply KeepBut.set_ | apply keep_drewN | apply keep_drew | apply keep_alloc | refine keep_far ?_ GW543.out _) | exact HK.out)) (KeepBut.of_below hb g none) (.inl rfl)); replace HB := ak (below_step (by repeat (first | (with_reducible first | exact HB.out | apply below_alloc | apply pw_below_drewN | apply below_drew1 | refine below_set ?_ (IsS95.ge HI0.out) | refine below_set ?_ GE543.out) | exact HB.out)) hb); replace HI0 := ak (IsS95.below (by repeat (first | (with_reducible first | exact HI0.out | apply IsS95.alloc | apply IsS95.drewN | apply IsS95.drew | apply IsS95.set_1 | refine IsS95.far ?_ NB0_543.out _) | exact HI0.out)) hb); (try clear hb); (try clear hb2); (try clear hk); (try clear hi)))
  replace BK543 := ak (blk_drew BK543.out)
  replace HI0 := ak (IsS95.drew HI0.out)
  replace HK := ak (keep_drew HK.out)
  replace HB := ak (below_drew1 HB.out)
  refine start_ (n := 11) (S := fun w' => True) (ds := []) (ms 11 0) (by kernel_rfl) rfl (by kernel_rfl) trivial (fun hHeld => ?_); refine with_tabW spec_l30AnyWalk.tab3 spec_l30AnyWalk.bits3 (fun HT_ HW_ => ?_)
  generalize w30.drew = w31 at BK543 HI0 HK HB hHeld ⊢
  refine pu 0 10 ?_ (ms 11 1) rfl rfl HT_ (by kernel_rfl) (fun _ _ _ h => h) (by rfl) ?_ ?_ ?_ ?_
  rotate_left
  ·intro w'
   go_simp
   with_reducible rfl
  rotate_left
  ·simp only [SX]
   rfl
  refine pu 2 12 ?_ (ms 11 5) rfl rfl HT_ (by kernel_rfl) (fun _ _ _ h => h) (by rfl) ?_ ?_ ?_ ?_
  rotate_left
  ·intro w'
   go_simp
   with_reducible rfl
  rotate_left
  ·simp only [SX]
   rfl
  refine pu 3 13 ?_ (ms 11 13) rfl rfl HT_ (by kernel_rfl) (fun _ _ _ h => h) (by rfl) ?_ ?_ ?_ ?_
  rotate_left
  ·intro w'
   go_simp
   with_reducible rfl
  rotate_left
  ·simp only [SX]
   rfl
  refine pu 6 16 ?_ (ms 11 77) rfl rfl HT_ (by kernel_rfl) (fun _ _ _ h => h) (by rfl) ?_ ?_ ?_ ?_
  rotate_left
  ·intro w'
   go_simp
   with_reducible rfl
  rotate_left
  ·simp only [SX]
   rfl
  refine inv_at [1, 4, 5, 7, 8, 9, 10] (fun a0_ b a w' => ∃ (v551 : Value) (v556 : Value) (m10_ : Value), a = putSel a0_ b [(1, 11, .agg #[.int .i64 a1_0, .slice A1_1 l1_1.length c1_1]), (4, 14, .int .i64 a1_0), (5, 15, .int .i64 t548), (7, 17, v551), (8, 18, .int .i64 t553), (9, 19, v556), (10, 5, m10_)] ∧ (w'.heap[gb543]? = some (.cells #[.int .i64 a1_0, .slice A1_1 l1_1.length c1_1] 25 (0, 0))) ∧ (b 5 = false → IsS95 w0 w' g s0_0 s0_1) ∧ (KeepBut w w' g none) ∧ (Below w0.heap.size w0 w') ∧ (b 5 = true → b 8 = false → IsS95 w0 w' g s0_0 t549) ∧ (b 7 = true → Kd.R (Kd.int .i64) 3 w' w.heap.size (fun _ => True) v551 y550) ∧ (b 8 = true → b 9 = false → IsS95 w0 w' g s0_0 t554) ∧ (b 9 = true → Kd.R (Kd.int .i64) 3 w' w.heap.size (fun _ => True) v556 t555) ∧ (b 9 = true → IsS95 w0 w' g s0_0 t558) ∧ (b 10 = true → (m10_ : Value) = v556)) HT_.out HW_.out (by kernel_rfl) (by kernel_rfl) ?_ ?_ ?_
  ·exact ⟨.bool false, .bool false, .bool false, by simp only [putSel, Bool.false_eq_true, if_false], BK543.out, fun _ => HI0.out, HK.out, HB.out, fun h_ => absurd h_ (by decide), fun h_ => absurd h_ (by decide), fun h_ => absurd h_ (by decide), fun h_ => absurd h_ (by decide), fun h_ => absurd h_ (by decide), fun h_ => absurd h_ (by decide)⟩
  ·skip
   clear BK543 HB HI0 HK
   refine steps_cons ?_ ?_
   ·rintro b a w' ⟨v551, v556, m10_, ha, Q_BK543, Q_HI0, Q_HK, Q_HB, Q_HI0_e5, Q_HO552, Q_HI0_e8, Q_HO557, Q_HI0_e9, Q_X10_⟩ hb_ hon hoff
    refine ⟨_, rfl, fun K hK => ?_⟩
    have e3 : a.tmps[3]? = some (.pointer (some ⟨gb543, 0, none⟩)) := by rw [ha]; exact (putSel_off rfl).trans rfl
    replace ha := ak ha
    have BK543 := ak Q_BK543
    have HK := ak Q_HK
    have HB := ak Q_HB
    have hc0_ : w'.cell? ⟨gb543, 0, none⟩ = some (.int .i64 a1_0) := (blk_cell BK543.out 0).trans rfl
    have hc1_ : w'.cell? ⟨gb543, 1, none⟩ = some (.slice A1_1 l1_1.length c1_1) := (blk_cell BK543.out 1).trans rfl
    refine value_ (w1 := w') (v := .agg #[.int .i64 a1_0, .slice A1_1 l1_1.length c1_1]) (by rfl) rfl ?_ ?_
    ·go_simp
     (try simp only [i64_w])
     try rfl
    refine hK.out _ _ ⟨v551, v556, m10_, (by rw [ha.out]; exact putSel_upk 0 hb_ rfl rfl rfl), Q_BK543, Q_HI0, Q_HK, Q_HB, Q_HI0_e5, Q_HO552, Q_HI0_e8, fun h0_ => absurd ((hoff 9 (by kernel_rfl)).symm.trans h0_) (by decide), fun h0_ => absurd ((hoff 9 (by kernel_rfl)).symm.trans h0_) (by decide), fun h0_ => absurd ((hoff 10 (by kernel_rfl)).symm.trans h0_) (by decide)⟩
   refine steps_cons ?_ ?_
   ·rintro b a w' ⟨v551, v556, m10_, ha, Q_BK543, Q_HI0, Q_HK, Q_HB, Q_HI0_e5, Q_HO552, Q_HI0_e8, Q_HO557, Q_HI0_e9, Q_X10_⟩ hb_ hon hoff
    refine ⟨_, rfl, fun K hK => ?_⟩
    have e13 : a.tmps[13]? = some (.pointer (some ⟨gb543, 0, none⟩)) := by rw [ha]; exact (putSel_off rfl).trans rfl
    replace ha := ak ha
    have BK543 := ak Q_BK543
    have HI0 := ak (Q_HI0 (hoff 5 (by kernel_rfl)))
    have HK := ak Q_HK
    have HB := ak Q_HB
    have hc0_ : w'.cell? ⟨gb543, 0, none⟩ = some (.int .i64 a1_0) := (blk_cell BK543.out 0).trans rfl
    have hc1_ : w'.cell? ⟨gb543, 1, none⟩ = some (.slice A1_1 l1_1.length c1_1) := (blk_cell BK543.out 1).trans rfl
    refine value_ (w1 := w') (v := .int .i64 a1_0) (by rfl) rfl ?_ ?_
    ·go_simp
     (try simp only [i64_w])
     try rfl
    refine hK.out _ _ ⟨v551, v556, m10_, (by rw [ha.out]; exact putSel_upk 1 hb_ rfl rfl rfl), Q_BK543, Q_HI0, Q_HK, Q_HB, fun h0_ _ => absurd ((hoff 5 (by kernel_rfl)).symm.trans h0_) (by decide), Q_HO552, fun h0_ _ => absurd ((hoff 8 (by kernel_rfl)).symm.trans h0_) (by decide), fun h0_ => absurd ((hoff 9 (by kernel_rfl)).symm.trans h0_) (by decide), fun h0_ => absurd ((hoff 9 (by kernel_rfl)).symm.trans h0_) (by decide), fun h0_ => absurd ((hoff 10 (by kernel_rfl)).symm.trans h0_) (by decide)⟩
   refine steps_cons ?_ ?_
   ·rintro b a w' ⟨v551, v556, m10_, ha, Q_BK543, Q_HI0, Q_HK, Q_HB, Q_HI0_e5, Q_HO552, Q_HI0_e8, Q_HO557, Q_HI0_e9, Q_X10_⟩ hb_ hon hoff
    refine ⟨_, rfl, fun K hK => ?_⟩
    have e12 : a.tmps[12]? = some (.pointer (some ⟨g, 0, none⟩)) := by rw [ha]; exact (putSel_off rfl).trans rfl
    have e14 : a.tmps[14]? = some (.int .i64 a1_0) := by rw [ha]; exact putSel_on (e := (4, 14, .int .i64 a1_0)) 1 rfl rfl (hon 4 (by kernel_rfl)) rfl
    replace ha := ak ha
    have BK543 := ak Q_BK543
    have HI0 := ak (Q_HI0 hb_)
    have HK := ak Q_HK
    have HB := ak Q_HB
    refine goes_ Try.func87 (by kernel_rfl) rfl #[.pointer (some ⟨g, 0, none⟩), .int .i64 a1_0] (by rfl) rfl rfl (by first | (simp only [List.map_toArray, List.map_cons, List.map_nil, Act.eval, Array.getD_eq_getD_getElem?, Option.getD_some, e12, e14]; done) | (simp only [List.map_toArray, List.map_cons, List.map_nil, Act.eval, Array.getD_eq_getD_getElem?, Option.getD_some, e12, e14]; rfl)) ?_
    with_reducible refine (spec_l30Rd_pick.calls k g s0_0 s0_1 a1_0 t548 t549 w0 _ ?side1 ?side2 A5.out).mono ?_
    (case side1 => repeat (first | (with_reducible first | exact HI0.out | apply IsS95.alloc | apply IsS95.drewN | apply IsS95.drew | apply IsS95.set_1 | refine IsS95.far ?_ NB0_543.out _) | exact HI0.out))
    (case side2 => repeat (first | (with_reducible first | exact HB.out | apply below_alloc | apply pw_below_drewN | apply below_drew1 | refine below_set ?_ (IsS95.ge HI0.out) | refine below_set ?_ GE543.out) | exact HB.out))
    rintro e w32 ⟨rfl, hi, hb, hk⟩
    refine ⟨_, rfl, ?_⟩
    have n0_ := ak (KeepBut.blk hk (g' := gb543) (o := .cells #[.int .i64 a1_0, .slice A1_1 l1_1.length c1_1] 25 (0, 0)) (bk BK543) NB543_0.out (by simp))
    have n1_ := ak (KeepBut.trans (by repeat (first | (with_reducible first | exact HK.out | apply KeepBut.set_ | apply keep_drewN | apply keep_drew | apply keep_alloc | refine keep_far ?_ GW543.out _) | exact HK.out)) hk (.inl rfl))
    have n2_ := ak (hb)
    have n3_ := ak (hi)
    have z_HO552 := fun (h0_ : b 7 = true) => (show Kd.R (Kd.int .i64) 3 w32 w.heap.size (fun _ => True) v551 y550 from by first | exact (Kd.R_mono (Kd.R_keep (IsS95.apart (show IsS95 w0 _ g s0_0 s0_1 from by repeat (first | (with_reducible first | exact HI0.out | apply IsS95.alloc | apply IsS95.drewN | apply IsS95.drew | apply IsS95.set_1 | refine IsS95.far ?_ NB0_543.out _) | exact HI0.out)) (by (with_reducible repeat (first | apply Kd.R_alloc | apply Kd.R_drewN | apply Kd.R_drew)); exact (Q_HO552 h0_)) (by decide)) hk (fun _ h => h.2)) (fun _ h => h.1)) | exact Kd.R_mono (Kd.R_mono (Kd.R_keep (IsS95.apart (show IsS95 w0 _ g s0_0 s0_1 from by repeat (first | (with_reducible first | exact HI0.out | apply IsS95.alloc | apply IsS95.drewN | apply IsS95.drew | apply IsS95.set_1 | refine IsS95.far ?_ NB0_543.out _) | exact HI0.out)) (by (with_reducible repeat (first | apply Kd.R_alloc | apply Kd.R_drewN | apply Kd.R_drew)); exact (Q_HO552 h0_)) (by decide)) hk (fun _ h => h.2)) (fun _ h => h.1)) (fun _ h_ => by first | trivial | exact h_ | exact h_.1))
    clear BK543
    clear HK
    clear HB
    clear HI0
    have BK543 := n0_
    have HK := n1_
    have HB := n2_
    have HI0 := n3_
    clear n0_ n1_ n2_ n3_
    (try clear hb)
    (try clear hb2)
    (try clear hk)
    (try clear hi)
    refine hK.out _ _ ⟨v551, v556, m10_, (by rw [ha.out]; exact putSel_upk 2 hb_ rfl rfl rfl), (bk BK543), fun h0_ => absurd ((up_self b 5).symm.trans h0_) (by decide), (by repeat (first | (with_reducible first | exact HK.out | apply KeepBut.set_ | apply keep_drewN | apply keep_drew | apply keep_alloc | refine keep_far ?_ GW543.out _) | exact HK.out)), (by repeat (first | (with_reducible first | exact HB.out | apply below_alloc | apply pw_below_drewN | apply below_drew1 | refine below_set ?_ (IsS95.ge HI0.out) | refine below_set ?_ GE543.out) | exact HB.out)), fun _ _ => (by repeat (first | (with_reducible first | exact HI0.out | apply IsS95.alloc | apply IsS95.drewN | apply IsS95.drew | apply IsS95.set_1 | refine IsS95.far ?_ NB0_543.out _) | exact HI0.out)), z_HO552, fun h0_ _ => absurd ((hoff 8 (by kernel_rfl)).symm.trans h0_) (by decide), fun h0_ => absurd ((hoff 9 (by kernel_rfl)).symm.trans h0_) (by decide), fun h0_ => absurd ((hoff 9 (by kernel_rfl)).symm.trans h0_) (by decide), fun h0_ => absurd ((hoff 10 (by kernel_rfl)).symm.trans h0_) (by decide)⟩
   refine steps_cons ?_ ?_
   ·rintro b a w' ⟨v551, v556, m10_, ha, Q_BK543, Q_HI0, Q_HK, Q_HB, Q_HI0_e5, Q_HO552, Q_HI0_e8, Q_HO557, Q_HI0_e9, Q_X10_⟩ hb_ hon hoff
    refine ⟨_, rfl, fun K hK => ?_⟩
    replace ha := ak ha
    have BK543 := ak Q_BK543
    have HK := ak Q_HK
    have HB := ak Q_HB
    refine Kd.R_lit_step (Kd.int .i64) _ 3 ?hg (N := 17) ?hd (xs := ([3, 8, 21] : List Int)) (inner := [.int .i64 3, .int .i64 8, .int .i64 21]) (ok := fun _ => True) (okp := fun _ => True) ?hr ?hp (fun _ hk => hk) trivial (Below.refl _ _) (Nat.le_refl _) (by simp) ?_; (case hd => rfl); (case hg => rfl); (case hr => first | (go_simp; done) | (go_simp; rfl)); (case hp => exact (Reps.one (show Kd.M (Kd.int .i64) _ _ _ 3 [.int .i64 3] from rfl) (Reps.one (show Kd.M (Kd.int .i64) _ _ _ 8 [.int .i64 8] from rfl) (Reps.one (show Kd.M (Kd.int .i64) _ _ _ 21 [.int .i64 21] from rfl) (Reps.none _ _)))))
    intro v551 w32 ho33 hb hg_ hnew_
    clear hg_ hnew_
    (first | rw [← Ny550.out] at ho33 | (simp only [Int.reduceToNat] at ho33; rw [← Ny550.out] at ho33))
    have n0_ := ak (Kd.R_lower ho33 (keep_size (w := w) (g := g) (row := none) (by repeat (first | (with_reducible first | exact HK.out | apply KeepBut.set_ | apply keep_drewN | apply keep_drew | apply keep_alloc | refine keep_far ?_ GW543.out _) | exact HK.out))))
    have n2_ := ak (blk_below (bk BK543) hb)
    have n3_ := ak (KeepBut.trans (by repeat (first | (with_reducible first | exact HK.out | apply KeepBut.set_ | apply keep_drewN | apply keep_drew | apply keep_alloc | refine keep_far ?_ GW543.out _) | exact HK.out)) (KeepBut.of_below hb g none) (.inl rfl))
    have n4_ := ak (below_step (bl1 HB GE543) hb)
    have z_HI0 := fun (h0_ : b 5 = false) => (show IsS95 w0 w32 g s0_0 s0_1 from by first | exact (IsS95.below (by repeat (first | (with_reducible first | exact (Q_HI0 h0_) | apply IsS95.alloc | apply IsS95.drewN | apply IsS95.drew | apply IsS95.set_1 | refine IsS95.far ?_ NB0_543.out _) | exact (Q_HI0 h0_))) hb))
    have z_HI0_e5 := fun (h0_ : b 5 = true) (h1_ : b 8 = false) => (show IsS95 w0 w32 g s0_0 t549 from by first | exact (IsS95.below (by repeat (first | (with_reducible first | exact (Q_HI0_e5 h0_ h1_) | apply IsS95.alloc | apply IsS95.drewN | apply IsS95.drew | apply IsS95.set_1 | refine IsS95.far ?_ NB0_543.out _) | exact (Q_HI0_e5 h0_ h1_))) hb))
    clear BK543
    clear HK
    clear HB
    have HO552 := n0_
    have BK543 := n2_
    have HK := n3_
    have HB := n4_
    clear n0_ n2_ n3_ n4_
    clear hb ho33
    refine hK.out _ _ ⟨v551, v556, m10_, (by rw [ha.out]; exact putSel_upk 3 hb_ rfl rfl rfl), (bk BK543), z_HI0, (by repeat (first | (with_reducible first | exact HK.out | apply KeepBut.set_ | apply keep_drewN | apply keep_drew | apply keep_alloc | refine keep_far ?_ GW543.out _) | exact HK.out)), (bl1 HB GE543), z_HI0_e5, fun _ => (rk HO552), fun h0_ _ => absurd ((hoff 8 (by kernel_rfl)).symm.trans h0_) (by decide), fun h0_ => absurd ((hoff 9 (by kernel_rfl)).symm.trans h0_) (by decide), fun h0_ => absurd ((hoff 9 (by kernel_rfl)).symm.trans h0_) (by decide), fun h0_ => absurd ((hoff 10 (by kernel_rfl)).symm.trans h0_) (by decide)⟩
   refine steps_cons ?_ ?_
   ·rintro b a w' ⟨v551, v556, m10_, ha, Q_BK543, Q_HI0, Q_HK, Q_HB, Q_HI0_e5, Q_HO552, Q_HI0_e8, Q_HO557, Q_HI0_e9, Q_X10_⟩ hb_ hon hoff
    refine ⟨_, rfl, fun K hK => ?_⟩
    have e16 : a.tmps[16]? = some (.pointer (some ⟨g, 0, none⟩)) := by rw [ha]; exact (putSel_off rfl).trans rfl
    have e17 : a.tmps[17]? = some (v551) := by rw [ha]; exact putSel_on (e := (7, 17, v551)) 3 rfl rfl (hon 7 (by kernel_rfl)) rfl
    replace ha := ak ha
    have BK543 := ak Q_BK543
    have HK := ak Q_HK
    have HB := ak Q_HB
    have HI0 := ak (Q_HI0_e5 (hon 5 (by kernel_rfl)) hb_)
    have HO552 := ak (Q_HO552 (hon 7 (by kernel_rfl)))
    obtain ⟨Ao36, co36, eo36⟩ := Kd.R_slice HO552.out
    (first | subst eo36 | (injection eo36 with f1_ f2_ f3_; have f4_ := f1_.symm; have f5_ := f3_.symm; clear f1_ f2_ f3_; subst f4_; subst f5_))
    refine goes_ Try.func47 (by kernel_rfl) rfl #[.pointer (some ⟨g, 0, none⟩), .slice Ao36 y550.length co36] (by rfl) rfl rfl (by first | (simp only [List.map_toArray, List.map_cons, List.map_nil, Act.eval, Array.getD_eq_getD_getElem?, Option.getD_some, e16, e17]; done) | (simp only [List.map_toArray, List.map_cons, List.map_nil, Act.eval, Array.getD_eq_getD_getElem?, Option.getD_some, e16, e17]; rfl)) ?_
    with_reducible refine (spec_l30Rd_one.calls k g s0_0 t549 _ _ y550 t553 t554 w0 _ ?side1 ?side2 ?side3 ?side4 ?side5 A6.out).mono ?_
    (case side1 => repeat (first | (with_reducible first | exact HI0.out | apply IsS95.alloc | apply IsS95.drewN | apply IsS95.drew | apply IsS95.set_1 | refine IsS95.far ?_ NB0_543.out _) | exact HI0.out))
    (case side2 => repeat (first | (with_reducible first | exact HB.out | apply below_alloc | apply pw_below_drewN | apply below_drew1 | refine below_set ?_ (IsS95.ge HI0.out) | refine below_set ?_ GE543.out) | exact HB.out))
    (case side3 => repeat (first | exact (Kd.R_reads' HO552.out).2.2 | (with_reducible refine Kd.C_alloc ?_ _) | (with_reducible refine Kd.C_drewN ?_ _) | (with_reducible refine Kd.C_drew ?_)))
    (case side4 => exact (Kd.R_reads' HO552.out).2.1)
    (case side5 => exact far_slice (IsS95.own_ne HI0.out HO552.out (by decide)))
    rintro e w37 ⟨rfl, hi, hb, hk⟩
    refine ⟨_, rfl, ?_⟩
    replace BK543 := ak (KeepBut.blk hk (g' := gb543) (o := .cells #[.int .i64 a1_0, .slice A1_1 l1_1.length c1_1] 25 (0, 0)) (bk BK543) NB543_0.out (by simp))
    replace HO552 := ak (Kd.R_mono (Kd.R_keep (IsS95.apart (show IsS95 w0 _ g s0_0 t549 from by repeat (first | (with_reducible first | exact HI0.out | apply IsS95.alloc | apply IsS95.drewN | apply IsS95.drew | apply IsS95.set_1 | refine IsS95.far ?_ NB0_543.out _) | exact HI0.out)) (rk HO552) (by decide)) hk (fun _ h => h.2)) (fun _ h => h.1))
    replace HK := ak (KeepBut.trans (by repeat (first | (with_reducible first | exact HK.out | apply KeepBut.set_ | apply keep_drewN | apply keep_drew | apply keep_alloc | refine keep_far ?_ GW543.out _) | exact HK.out)) hk (.inl rfl))
    replace HB := ak (hb)
    replace HI0 := ak (hi)
    (try clear hb)
    (try clear hb2)
    (try clear hk)
    (try clear hi)
    refine hK.out _ _ ⟨.slice Ao36 y550.length co36, v556, m10_, (by rw [ha.out]; exact putSel_upk 4 hb_ rfl rfl rfl), (bk BK543), fun h0_ => absurd ((hon 5 (by kernel_rfl)).symm.trans h0_) (by decide), (by repeat (first | (with_reducible first | exact HK.out | apply KeepBut.set_ | apply keep_drewN | apply keep_drew | apply keep_alloc | refine keep_far ?_ GW543.out _) | exact HK.out)), (by repeat (first | (with_reducible first | exact HB.out | apply below_alloc | apply pw_below_drewN | apply below_drew1 | refine below_set ?_ (IsS95.ge HI0.out) | refine below_set ?_ GE543.out) | exact HB.out)), fun _ h1_ => absurd ((up_self b 8).symm.trans h1_) (by decide), fun _ => (rk HO552), fun _ _ => (by repeat (first | (with_reducible first | exact HI0.out | apply IsS95.alloc | apply IsS95.drewN | apply IsS95.drew | apply IsS95.set_1 | refine IsS95.far ?_ NB0_543.out _) | exact HI0.out)), fun h0_ => absurd ((hoff 9 (by kernel_rfl)).symm.trans h0_) (by decide), fun h0_ => absurd ((hoff 9 (by kernel_rfl)).symm.trans h0_) (by decide), fun h0_ => absurd ((hoff 10 (by kernel_rfl)).symm.trans h0_) (by decide)⟩
   refine steps_cons ?_ ?_
   ·rintro b a w' ⟨v551, v556, m10_, ha, Q_BK543, Q_HI0, Q_HK, Q_HB, Q_HI0_e5, Q_HO552, Q_HI0_e8, Q_HO557, Q_HI0_e9, Q_X10_⟩ hb_ hon hoff
    refine ⟨_, rfl, fun K hK => ?_⟩
    have e10 : a.tmps[10]? = some (.pointer (some ⟨g, 0, none⟩)) := by rw [ha]; exact (putSel_off rfl).trans rfl
    have e11 : a.tmps[11]? = some (.agg #[.int .i64 a1_0, .slice A1_1 l1_1.length c1_1]) := by rw [ha]; exact putSel_on (e := (1, 11, .agg #[.int .i64 a1_0, .slice A1_1 l1_1.length c1_1])) 0 rfl rfl (hon 1 (by kernel_rfl)) rfl
    have e15 : a.tmps[15]? = some (.int .i64 t548) := by rw [ha]; exact putSel_on (e := (5, 15, .int .i64 t548)) 2 rfl rfl (hon 5 (by kernel_rfl)) rfl
    have e18 : a.tmps[18]? = some (.int .i64 t553) := by rw [ha]; exact putSel_on (e := (8, 18, .int .i64 t553)) 4 rfl rfl (hon 8 (by kernel_rfl)) rfl
    replace ha := ak ha
    have BK543 := ak Q_BK543
    have HK := ak Q_HK
    have HB := ak Q_HB
    have HO552 := ak (Q_HO552 (hon 7 (by kernel_rfl)))
    have HI0 := ak (Q_HI0_e8 (hon 8 (by kernel_rfl)) hb_)
    refine goes_ Try.func122 (by kernel_rfl) rfl #[.pointer (some ⟨g, 0, none⟩), .agg #[.int .i64 a1_0, .slice A1_1 l1_1.length c1_1], .int .i64 t548, .int .i64 t553] (by rfl) rfl rfl (by first | (simp only [List.map_toArray, List.map_cons, List.map_nil, Act.eval, Array.getD_eq_getD_getElem?, Option.getD_some, e10, e11, e15, e18]; done) | (simp only [List.map_toArray, List.map_cons, List.map_nil, Act.eval, Array.getD_eq_getD_getElem?, Option.getD_some, e10, e11, e15, e18]; rfl)) ?_
    with_reducible refine (spec_l30Walk.calls k g s0_0 t554 a1_0 _ _ l1_1 t548 t553 t555 t558 w0 _ ?side1 ?side2 ?side3 ?side4 A7.out).mono ?_
    (case side1 => repeat (first | (with_reducible first | exact HI0.out | apply IsS95.alloc | apply IsS95.drewN | apply IsS95.drew | apply IsS95.set_1 | refine IsS95.far ?_ NB0_543.out _) | exact HI0.out))
    (case side2 => repeat (first | (with_reducible first | exact HB.out | apply below_alloc | apply pw_below_drewN | apply below_drew1 | refine below_set ?_ (IsS95.ge HI0.out) | refine below_set ?_ GE543.out) | exact HB.out))
    (case side3 => exact Kd.C_foot_step HR1_1.out (by repeat (first | (with_reducible first | exact HK.out | apply KeepBut.set_ | apply keep_drewN | apply keep_drew | apply keep_alloc | refine keep_far ?_ GW543.out _) | exact HK.out)))
    (case side4 => exact HC1_1.out)
    rintro e w38 ⟨v556, rfl, ho0, hi, hb, hk⟩
    refine ⟨_, rfl, ?_⟩
    replace BK543 := ak (KeepBut.blk hk (g' := gb543) (o := .cells #[.int .i64 a1_0, .slice A1_1 l1_1.length c1_1] 25 (0, 0)) (bk BK543) NB543_0.out (by simp))
    have HO557 := ak (Kd.R_lower (Kd.R_new' ho0 (Kd.R_lt (rk HO552))) (keep_size (w := w) (g := g) (row := none) (by repeat (first | (with_reducible first | exact HK.out | apply KeepBut.set_ | apply keep_drewN | apply keep_drew | apply keep_alloc | refine keep_far ?_ GW543.out _) | exact HK.out))))
    replace HO552 := ak (Kd.R_mono (Kd.R_told (Kd.R_oldK (IsS95.apart (show IsS95 w0 _ g s0_0 t554 from by repeat (first | (with_reducible first | exact HI0.out | apply IsS95.alloc | apply IsS95.drewN | apply IsS95.drew | apply IsS95.set_1 | refine IsS95.far ?_ NB0_543.out _) | exact HI0.out)) (rk HO552) (by decide)) hk) (Kd.R_base ho0)) (fun _ h_ => h_.1))
    replace HK := ak (KeepBut.trans (by repeat (first | (with_reducible first | exact HK.out | apply KeepBut.set_ | apply keep_drewN | apply keep_drew | apply keep_alloc | refine keep_far ?_ GW543.out _) | exact HK.out)) hk (.inl rfl))
    replace HB := ak (hb)
    replace HI0 := ak (hi)
    (try clear hb)
    (try clear hb2)
    (try clear hk)
    (try clear hi)
    (try clear ho0)
    refine hK.out _ _ ⟨v551, v556, m10_, (by rw [ha.out]; exact putSel_upk 5 hb_ rfl rfl rfl), (bk BK543), fun h0_ => absurd ((hon 5 (by kernel_rfl)).symm.trans h0_) (by decide), (by repeat (first | (with_reducible first | exact HK.out | apply KeepBut.set_ | apply keep_drewN | apply keep_drew | apply keep_alloc | refine keep_far ?_ GW543.out _) | exact HK.out)), (by repeat (first | (with_reducible first | exact HB.out | apply below_alloc | apply pw_below_drewN | apply below_drew1 | refine below_set ?_ (IsS95.ge HI0.out) | refine below_set ?_ GE543.out) | exact HB.out)), fun _ h1_ => absurd ((hon 8 (by kernel_rfl)).symm.trans h1_) (by decide), fun _ => (by (with_reducible repeat (first | apply Kd.R_alloc | apply Kd.R_drewN | apply Kd.R_drew)); exact Kd.R_mono HO552.out (fun _ hk => by first | exact hk.2 | trivial)), fun _ h1_ => absurd ((up_self b 9).symm.trans h1_) (by decide), fun _ => (by (with_reducible repeat (first | apply Kd.R_alloc | apply Kd.R_drewN | apply Kd.R_drew)); exact Kd.R_mono HO557.out (fun _ hk => by first | exact hk.2 | trivial)), fun _ => (by repeat (first | (with_reducible first | exact HI0.out | apply IsS95.alloc | apply IsS95.drewN | apply IsS95.drew | apply IsS95.set_1 | refine IsS95.far ?_ NB0_543.out _) | exact HI0.out)), fun h0_ => absurd ((hoff 10 (by kernel_rfl)).symm.trans h0_) (by decide)⟩
   refine steps_cons ?_ ?_
   ·rintro b a w' ⟨v551, v556, m10_, ha, Q_BK543, Q_HI0, Q_HK, Q_HB, Q_HI0_e5, Q_HO552, Q_HI0_e8, Q_HO557, Q_HI0_e9, Q_X10_⟩ hb_ hon hoff
    refine ⟨_, rfl, fun K hK => ?_⟩
    have e19 : a.tmps[19]? = some (v556) := by rw [ha]; exact putSel_on (e := (9, 19, v556)) 5 rfl rfl (hon 9 (by kernel_rfl)) rfl
    replace ha := ak ha
    have BK543 := ak Q_BK543
    have HK := ak Q_HK
    have HB := ak Q_HB
    have HO552 := ak (Q_HO552 (hon 7 (by kernel_rfl)))
    have HO557 := ak (Q_HO557 (hon 9 (by kernel_rfl)))
    have HI0 := ak (Q_HI0_e9 (hon 9 (by kernel_rfl)))
    refine value_ (w1 := w') (v := v556) (by rfl) rfl ?_ ?_
    ·go_simp
     (try simp only [i64_w])
     try rfl
    refine hK.out _ _ ⟨v551, v556, (v556), (by rw [ha.out]; exact putSel_upk 6 hb_ rfl rfl rfl), Q_BK543, fun h0_ => absurd ((hon 5 (by kernel_rfl)).symm.trans h0_) (by decide), Q_HK, Q_HB, fun _ h1_ => absurd ((hon 8 (by kernel_rfl)).symm.trans h1_) (by decide), Q_HO552, fun _ h1_ => absurd ((hon 9 (by kernel_rfl)).symm.trans h1_) (by decide), Q_HO557, Q_HI0_e9, fun _ => rfl⟩
   exact steps_nil
  rintro b a w38 hall ⟨v551, v556, m10_, ha, Q_BK543, Q_HI0, Q_HK, Q_HB, Q_HI0_e5, Q_HO552, Q_HI0_e8, Q_HO557, Q_HI0_e9, Q_X10_⟩
  clear BK543 HB HI0 HK
  have hb1_ := hall 1 (by kernel_rfl)
  have hb4_ := hall 4 (by kernel_rfl)
  have hb5_ := hall 5 (by kernel_rfl)
  have hb7_ := hall 7 (by kernel_rfl)
  have hb8_ := hall 8 (by kernel_rfl)
  have hb9_ := hall 9 (by kernel_rfl)
  have hb10_ := hall 10 (by kernel_rfl)
  subst ha
  have eX_ := (Q_X10_ hb10_).symm
  subst eX_
  simp only [putSel, hb1_, hb4_, hb5_, hb7_, hb8_, hb9_, hb10_, if_true, Act.put, List.setIfInBounds_toArray, List.set_cons_zero, List.set_cons_succ]
  have BK543 := ak Q_BK543
  clear Q_BK543
  clear Q_HI0
  have HK := ak Q_HK
  clear Q_HK
  have HB := ak Q_HB
  clear Q_HB
  clear Q_HI0_e5
  have HO552 := ak (Q_HO552 hb7_)
  clear Q_HO552
  clear Q_HI0_e8
  have HO557 := ak (Q_HO557 hb9_)
  clear Q_HO557
  have HI0 := ak (Q_HI0_e9 hb9_)
  clear Q_HI0_e9
  clear hall hb1_ hb4_ hb5_ hb7_ hb8_ hb9_ hb10_
  try go_wp2_with (first | ((with_reducible refine gate_callee (f := 87) rfl ?_); refine goesL_ (some 21) rfl rfl Try.func87 (by kernel_rfl) rfl #[.pointer (some ⟨g, 0, none⟩), .int .i64 10] rfl (by (try simp only [List.map_toArray, List.map_cons, List.map_nil]); first | done | rfl | (simp only [List.length_drop, List.length_take]; rfl)) ?_; (with_reducible refine (spec_l30Rd_pick.calls k g s0_0 t558 10 t559 t560 w0 _ ?side1 ?side2 A8.out).mono ?_); (case side1 => repeat (first | (with_reducible first | exact HI0.out | apply IsS95.alloc | apply IsS95.drewN | apply IsS95.drew | apply IsS95.set_1 | refine IsS95.far ?_ NB0_543.out _) | exact HI0.out)); (case side2 => repeat (first | (with_reducible first | exact HB.out | apply below_alloc | apply pw_below_drewN | apply below_drew1 | refine below_set ?_ (IsS95.ge HI0.out) | refine below_set ?_ GE543.out) | exact HB.out)); rintro e w39 ⟨rfl, hi, hb, hk⟩; refine ⟨_, rfl, ?_⟩; replace BK543 := ak (KeepBut.blk hk (g' := gb543) (o := .cells #[.int .i64 a1_0, .slice A1_1 l1_1.length c1_1] 25 (0, 0)) (bk BK543) NB543_0.out (by simp)); replace HO552 := ak (Kd.R_mono (Kd.R_keep (IsS95.apart (show IsS95 w0 _ g s0_0 t558 from by repeat (first | (with_reducible first | exact HI0.out | apply IsS95.alloc | apply IsS95.drewN | apply IsS95.drew | apply IsS95.set_1 | refine IsS95.far ?_ NB0_543.out _) | exact HI0.out)) (rk HO552) (by decide)) hk (fun _ h => h.2)) (fun _ h => h.1)); replace HO557 := ak (Kd.R_mono (Kd.R_keep (IsS95.apart (show IsS95 w0 _ g s0_0 t558 from by repeat (first | (with_reducible first | exact HI0.out | apply IsS95.alloc | apply IsS95.drewN | apply IsS95.drew | apply IsS95.set_1 | refine IsS95.far ?_ NB0_543.out _) | exact HI0.out)) (rk HO557) (by decide)) hk (fun _ h => h.2)) (fun _ h => h.1)); replace HK := ak (KeepBut.trans (by repeat (first | (with_reducible first | exact HK.out | apply KeepBut.set_ | apply keep_drewN | apply keep_drew | apply keep_alloc | refine keep_far ?_ GW543.out _) | exact HK.out)) hk (.inl rfl)); replace HB := ak (hb); replace HI0 := ak (hi); (try clear hb); (try clear hb2); (try clear hk); (try clear hi)))
  go_ret
  exact ⟨_, by first | rfl | (simp [errW_none, errW_some] <;> rfl) | (simp [*, errW_none, errW_some] <;> rfl), by (with_reducible repeat (first | apply Kd.R_alloc | apply Kd.R_drewN | apply Kd.R_drew)); exact Kd.R_mono HO557.out (fun _ hk => trivial), by repeat (first | (with_reducible first | exact HI0.out | apply IsS95.alloc | apply IsS95.drewN | apply IsS95.drew | apply IsS95.set_1 | refine IsS95.far ?_ NB0_543.out _) | exact HI0.out), by repeat (first | (with_reducible first | exact HB.out | apply below_alloc | apply pw_below_drewN | apply below_drew1 | refine below_set ?_ (IsS95.ge HI0.out) | refine below_set ?_ GE543.out) | exact HB.out), by repeat (first | (with_reducible first | exact HK.out | apply KeepBut.set_ | apply keep_drewN | apply keep_drew | apply keep_alloc | refine keep_far ?_ GW543.out _) | exact HK.out)⟩
 rw [if_pos c9] at H
 have c9b0 : (t559 == 0) = true := beq_iff_eq.mpr c9
 have c9b1 : (t559 != 0) = false := bne_eq_false_iff_eq.mpr c9
 clear c9
 replace H := Option.bind_eq_some_iff.mp H
 obtain ⟨⟨t561, t562⟩, A100, H⟩ := H
 have A10 := ak A100
 clear A100
 by_cases c11 : t555.length < 17592186044416
 rotate_left
 ·rw [if_neg c11] at H
  exact absurd H (by simp)
 rw [if_pos c11] at H
 have LMc11 := ak c11
 clear c11
 obtain ⟨y563, hy563⟩ : ∃ y_ : List Int, y_ = (t555 ++ [wrap64 (t561 - 1)]) := ⟨_, rfl⟩
 replace H : (some (y563, t562)) = some (r1, r2) := by first | (rw [hy563]; with_reducible exact H) | (have H2_ := (Option.bind_some _ _).symm.trans H; rw [hy563]; with_reducible exact H2_) | (have H2_ := (Option.bind_some _ _).symm.trans H; with_reducible exact H2_) | with_reducible exact H | (rw [hy563]; exact H) | exact H
 have Ny563 := ak hy563
 clear hy563
 simp only [Option.some.injEq, Prod.mk.injEq] at H
 obtain ⟨rfl, rfl⟩ := H
 go_enter Try.func106, Try.ntmps106
 try go_wp2_with (first | ((with_reducible refine gate_dst (N := 3) rfl ?_); refine box_event ?hg (N := 3) ?hd (cs := #[.int .i64 a1_0, .slice A1_1 l1_1.length c1_1]) (t := 25) ?hr ?_; (case hd => rfl); (case hg => rfl); (case hr => first | (go_simp; done) | (go_simp; rfl)); intro gb543 hg w12 hbox hb; replace HB := ak (below_step (by repeat (first | (with_reducible first | exact HB.out | apply below_alloc | apply pw_below_drewN | apply below_drew1 | refine below_set ?_ (IsS95.ge HI0.out)) | exact HB.out)) hb); have BK543 := ak (hbox); have GW543 := ak ((by rw [hg]; exact (keep_size (w := w) (g := g) (row := none) (by repeat (first | (with_reducible first | exact HK.out | apply KeepBut.set_ | apply keep_drewN | apply keep_drew | apply keep_alloc) | exact HK.out))) : w.heap.size ≤ gb543)); have GE543 := ak ((Nat.le_trans HW0.out (by rw [hg]; exact (keep_size (w := w) (g := g) (row := none) (by repeat (first | (with_reducible first | exact HK.out | apply KeepBut.set_ | apply keep_drewN | apply keep_drew | apply keep_alloc) | exact HK.out))) : w.heap.size ≤ gb543) : w0.heap.size ≤ gb543)); replace HK := ak (KeepBut.trans (by repeat (first | (with_reducible first | exact HK.out | apply KeepBut.set_ | apply keep_drewN | apply keep_drew | apply keep_alloc) | exact HK.out)) (KeepBut.of_below hb g none) (.inl rfl)); have NB0_543 := ak ((by rw [hg]; exact Nat.ne_of_lt (IsS95.lt (show IsS95 w0 _ g s0_0 s0_1 from by repeat (first | (with_reducible first | exact HI0.out | apply IsS95.alloc | apply IsS95.drewN | apply IsS95.drew | apply IsS95.set_1) | exact HI0.out))) : g ≠ gb543)); have NB543_0 := ak ((by rw [hg]; exact Nat.ne_of_gt (IsS95.lt (show IsS95 w0 _ g s0_0 s0_1 from by repeat (first | (with_reducible first | exact HI0.out | apply IsS95.alloc | apply IsS95.drewN | apply IsS95.drew | apply IsS95.set_1) | exact HI0.out))) : gb543 ≠ g)); replace HI0 := ak (IsS95.below (by repeat (first | (with_reducible first | exact HI0.out | apply IsS95.alloc | apply IsS95.drewN | apply IsS95.drew | apply IsS95.set_1) | exact HI0.out)) hb); clear hb hbox hg; have hnb13 := NB543_0.out; have hnc13 := NB0_543.out; have hcz14_0 := bc w12 BK543 0 (.int .i64 a1_0) rfl; have hcz14_1 := bc w12 BK543 1 (.slice A1_1 l1_1.length c1_1) rfl; have hfz14_0 := fz BK543 0; have hfz14_1 := fz BK543 1) | ((with_reducible refine gate_callee (f := 53) rfl ?_); refine goesL_ (some 7) rfl rfl Try.func53 (by kernel_rfl) rfl #[.agg #[.int .i64 a1_0, .slice A1_1 l1_1.length c1_1]] rfl (by (try simp only [List.map_toArray, List.map_cons, List.map_nil]); first | done | rfl | (simp only [List.length_drop, List.length_take]; rfl)) ?_; (with_reducible refine (spec_l1Ok.calls k a1_0 _ _ l1_1 true _ ?side1 ?side2 A3.out).mono ?_); (case side1 => exact Kd.C_foot_now HR1_1.out (by repeat (first | (with_reducible first | exact HK.out | apply KeepBut.set_ | apply keep_drewN | apply keep_drew | apply keep_alloc | refine keep_far ?_ GW543.out _) | exact HK.out))); (case side2 => exact HC1_1.out); rintro e w15 ⟨rfl, hb⟩; refine ⟨_, rfl, ?_⟩; replace BK543 := ak (blk_below (bk BK543) hb); replace HK := ak (KeepBut.trans (by repeat (first | (with_reducible first | exact HK.out | apply KeepBut.set_ | apply keep_drewN | apply keep_drew | apply keep_alloc | refine keep_far ?_ GW543.out _) | exact HK.out)) (KeepBut.of_below hb g none) (.inl rfl)); replace HB := ak (below_step (by repeat (first | (with_reducible first | exact HB.out | apply below_alloc | apply pw_below_drewN | apply below_drew1 | refine below_set ?_ (IsS95.ge HI0.out) | refine below_set ?_ GE543.out) | exact HB.out)) hb); replace HI0 := ak (IsS95.below (by repeat (first | (with_reducible first | exact HI0.out | apply IsS95.alloc | apply IsS95.drewN | apply IsS95.drew | apply IsS95.set_1 | refine IsS95.far ?_ NB0_543.out _) | exact HI0.out)) hb); (try clear hb); (try clear hb2); (try clear hk); (try clear hi)))
 replace BK543 := ak (blk_drew BK543.out)
 replace HI0 := ak (IsS95.drew HI0.out)
 replace HK := ak (keep_drew HK.out)
 replace HB := ak (below_drew1 HB.out)
 refine start_ (n := 11) (S := fun w' => True) (ds := []) (ms 11 0) (by kernel_rfl) rfl (by kernel_rfl) trivial (fun hHeld => ?_); refine with_tabW spec_l30AnyWalk.tab3 spec_l30AnyWalk.bits3 (fun HT_ HW_ => ?_)
 generalize w15.drew = w16 at BK543 HI0 HK HB hHeld ⊢
 refine pu 0 10 ?_ (ms 11 1) rfl rfl HT_ (by kernel_rfl) (fun _ _ _ h => h) (by rfl) ?_ ?_ ?_ ?_
 rotate_left
 ·intro w'
  go_simp
  with_reducible rfl
 rotate_left
 ·simp only [SX]
  rfl
 refine pu 2 12 ?_ (ms 11 5) rfl rfl HT_ (by kernel_rfl) (fun _ _ _ h => h) (by rfl) ?_ ?_ ?_ ?_
 rotate_left
 ·intro w'
  go_simp
  with_reducible rfl
 rotate_left
 ·simp only [SX]
  rfl
 refine pu 3 13 ?_ (ms 11 13) rfl rfl HT_ (by kernel_rfl) (fun _ _ _ h => h) (by rfl) ?_ ?_ ?_ ?_
 rotate_left
 ·intro w'
  go_simp
  with_reducible rfl
 rotate_left
 ·simp only [SX]
  rfl
 refine pu 6 16 ?_ (ms 11 77) rfl rfl HT_ (by kernel_rfl) (fun _ _ _ h => h) (by rfl) ?_ ?_ ?_ ?_
 rotate_left
 ·intro w'
  go_simp
  with_reducible rfl
 rotate_left
 ·simp only [SX]
  rfl
 refine inv_at [1, 4, 5, 7, 8, 9, 10] (fun a0_ b a w' => ∃ (v551 : Value) (v556 : Value) (m10_ : Value), a = putSel a0_ b [(1, 11, .agg #[.int .i64 a1_0, .slice A1_1 l1_1.length c1_1]), (4, 14, .int .i64 a1_0), (5, 15, .int .i64 t548), (7, 17, v551), (8, 18, .int .i64 t553), (9, 19, v556), (10, 5, m10_)] ∧ (w'.heap[gb543]? = some (.cells #[.int .i64 a1_0, .slice A1_1 l1_1.length c1_1] 25 (0, 0))) ∧ (b 5 = false → IsS95 w0 w' g s0_0 s0_1) ∧ (KeepBut w w' g none) ∧ (Below w0.heap.size w0 w') ∧ (b 5 = true → b 8 = false → IsS95 w0 w' g s0_0 t549) ∧ (b 7 = true → Kd.R (Kd.int .i64) 3 w' w.heap.size (fun _ => True) v551 y550) ∧ (b 8 = true → b 9 = false → IsS95 w0 w' g s0_0 t554) ∧ (b 9 = true → Kd.R (Kd.int .i64) 3 w' w.heap.size (fun _ => True) v556 t555) ∧ (b 9 = true → IsS95 w0 w' g s0_0 t558) ∧ (b 10 = true → (m10_ : Value) = v556)) HT_.out HW_.out (by kernel_rfl) (by kernel_rfl) ?_ ?_ ?_
 ·exact ⟨.bool false, .bool false, .bool false, by simp only [putSel, Bool.false_eq_true, if_false], BK543.out, fun _ => HI0.out, HK.out, HB.out, fun h_ => absurd h_ (by decide), fun h_ => absurd h_ (by decide), fun h_ => absurd h_ (by decide), fun h_ => absurd h_ (by decide), fun h_ => absurd h_ (by decide), fun h_ => absurd h_ (by decide)⟩
 ·skip
  clear BK543 HB HI0 HK
  refine steps_cons ?_ ?_
  ·rintro b a w' ⟨v551, v556, m10_, ha, Q_BK543, Q_HI0, Q_HK, Q_HB, Q_HI0_e5, Q_HO552, Q_HI0_e8, Q_HO557, Q_HI0_e9, Q_X10_⟩ hb_ hon hoff
   refine ⟨_, rfl, fun K hK => ?_⟩
   have e3 : a.tmps[3]? = some (.pointer (some ⟨gb543, 0, none⟩)) := by rw [ha]; exact (putSel_off rfl).trans rfl
   replace ha := ak ha
   have BK543 := ak Q_BK543
   have HK := ak Q_HK
   have HB := ak Q_HB
   have hc0_ : w'.cell? ⟨gb543, 0, none⟩ = some (.int .i64 a1_0) := (blk_cell BK543.out 0).trans rfl
   have hc1_ : w'.cell? ⟨gb543, 1, none⟩ = some (.slice A1_1 l1_1.length c1_1) := (blk_cell BK543.out 1).trans rfl
   refine value_ (w1 := w') (v := .agg #[.int .i64 a1_0, .slice A1_1 l1_1.length c1_1]) (by rfl) rfl ?_ ?_
   ·go_simp
    (try simp only [i64_w])
    try rfl
   refine hK.out _ _ ⟨v551, v556, m10_, (by rw [ha.out]; exact putSel_upk 0 hb_ rfl rfl rfl), Q_BK543, Q_HI0, Q_HK, Q_HB, Q_HI0_e5, Q_HO552, Q_HI0_e8, fun h0_ => absurd ((hoff 9 (by kernel_rfl)).symm.trans h0_) (by decide), fun h0_ => absurd ((hoff 9 (by kernel_rfl)).symm.trans h0_) (by decide), fun h0_ => absurd ((hoff 10 (by kernel_rfl)).symm.trans h0_) (by decide)⟩
  refine steps_cons ?_ ?_
  ·rintro b a w' ⟨v551, v556, m10_, ha, Q_BK543, Q_HI0, Q_HK, Q_HB, Q_HI0_e5, Q_HO552, Q_HI0_e8, Q_HO557, Q_HI0_e9, Q_X10_⟩ hb_ hon hoff
   refine ⟨_, rfl, fun K hK => ?_⟩
   have e13 : a.tmps[13]? = some (.pointer (some ⟨gb543, 0, none⟩)) := by rw [ha]; exact (putSel_off rfl).trans rfl
   replace ha := ak ha
   have BK543 := ak Q_BK543
   have HI0 := ak (Q_HI0 (hoff 5 (by kernel_rfl)))
   have HK := ak Q_HK
   have HB := ak Q_HB
   have hc0_ : w'.cell? ⟨gb543, 0, none⟩ = some (.int .i64 a1_0) := (blk_cell BK543.out 0).trans rfl
   have hc1_ : w'.cell? ⟨gb543, 1, none⟩ = some (.slice A1_1 l1_1.length c1_1) := (blk_cell BK543.out 1).trans rfl
   refine value_ (w1 := w') (v := .int .i64 a1_0) (by rfl) rfl ?_ ?_
   ·go_simp
    (try simp only [i64_w])
    try rfl
   refine hK.out _ _ ⟨v551, v556, m10_, (by rw [ha.out]; exact putSel_upk 1 hb_ rfl rfl rfl), Q_BK543, Q_HI0, Q_HK, Q_HB, fun h0_ _ => absurd ((hoff 5 (by kernel_rfl)).symm.trans h0_) (by decide), Q_HO552, fun h0_ _ => absurd ((hoff 8 (by kernel_rfl)).symm.trans h0_) (by decide), fun h0_ => absurd ((hoff 9 (by kernel_rfl)).symm.trans h0_) (by decide), fun h0_ => absurd ((hoff 9 (by kernel_rfl)).symm.trans h0_) (by decide), fun h0_ => absurd ((hoff 10 (by kernel_rfl)).symm.trans h0_) (by decide)⟩
  refine steps_cons ?_ ?_
  ·rintro b a w' ⟨v551, v556, m10_, ha, Q_BK543, Q_HI0, Q_HK, Q_HB, Q_HI0_e5, Q_HO552, Q_HI0_e8, Q_HO557, Q_HI0_e9, Q_X10_⟩ hb_ hon hoff
   refine ⟨_, rfl, fun K hK => ?_⟩
   have e12 : a.tmps[12]? = some (.pointer (some ⟨g, 0, none⟩)) := by rw [ha]; exact (putSel_off rfl).trans rfl
   have e14 : a.tmps[14]? = some (.int .i64 a1_0) := by rw [ha]; exact putSel_on (e := (4, 14, .int .i64 a1_0)) 1 rfl rfl (hon 4 (by kernel_rfl)) rfl
   replace ha := ak ha
   have BK543 := ak Q_BK543
   have HI0 := ak (Q_HI0 hb_)
   have HK := ak Q_HK
   have HB := ak Q_HB
   refine goes_ Try.func87 (by kernel_rfl) rfl #[.pointer (some ⟨g, 0, none⟩), .int .i64 a1_0] (by rfl) rfl rfl (by first | (simp only [List.map_toArray, List.map_cons, List.map_nil, Act.eval, Array.getD_eq_getD_getElem?, Option.getD_some, e12, e14]; done) | (simp only [List.map_toArray, List.map_cons, List.map_nil, Act.eval, Array.getD_eq_getD_getElem?, Option.getD_some, e12, e14]; rfl)) ?_
   with_reducible refine (spec_l30Rd_pick.calls k g s0_0 s0_1 a1_0 t548 t549 w0 _ ?side1 ?side2 A5.out).mono ?_
   (case side1 => repeat (first | (with_reducible first | exact HI0.out | apply IsS95.alloc | apply IsS95.drewN | apply IsS95.drew | apply IsS95.set_1 | refine IsS95.far ?_ NB0_543.out _) | exact HI0.out))
   (case side2 => repeat (first | (with_reducible first | exact HB.out | apply below_alloc | apply pw_below_drewN | apply below_drew1 | refine below_set ?_ (IsS95.ge HI0.out) | refine below_set ?_ GE543.out) | exact HB.out))
   rintro e w17 ⟨rfl, hi, hb, hk⟩
   refine ⟨_, rfl, ?_⟩
   have n0_ := ak (KeepBut.blk hk (g' := gb543) (o := .cells #[.int .i64 a1_0, .slice A1_1 l1_1.length c1_1] 25 (0, 0)) (bk BK543) NB543_0.out (by simp))
   have n1_ := ak (KeepBut.trans (by repeat (first | (with_reducible first | exact HK.out | apply KeepBut.set_ | apply keep_drewN | apply keep_drew | apply keep_alloc | refine keep_far ?_ GW543.out _) | exact HK.out)) hk (.inl rfl))
   have n2_ := ak (hb)
   have n3_ := ak (hi)
   have z_HO552 := fun (h0_ : b 7 = true) => (show Kd.R (Kd.int .i64) 3 w17 w.heap.size (fun _ => True) v551 y550 from by first | exact (Kd.R_mono (Kd.R_keep (IsS95.apart (show IsS95 w0 _ g s0_0 s0_1 from by repeat (first | (with_reducible first | exact HI0.out | apply IsS95.alloc | apply IsS95.drewN | apply IsS95.drew | apply IsS95.set_1 | refine IsS95.far ?_ NB0_543.out _) | exact HI0.out)) (by (with_reducible repeat (first | apply Kd.R_alloc | apply Kd.R_drewN | apply Kd.R_drew)); exact (Q_HO552 h0_)) (by decide)) hk (fun _ h => h.2)) (fun _ h => h.1)) | exact Kd.R_mono (Kd.R_mono (Kd.R_keep (IsS95.apart (show IsS95 w0 _ g s0_0 s0_1 from by repeat (first | (with_reducible first | exact HI0.out | apply IsS95.alloc | apply IsS95.drewN | apply IsS95.drew | apply IsS95.set_1 | refine IsS95.far ?_ NB0_543.out _) | exact HI0.out)) (by (with_reducible repeat (first | apply Kd.R_alloc | apply Kd.R_drewN | apply Kd.R_drew)); exact (Q_HO552 h0_)) (by decide)) hk (fun _ h => h.2)) (fun _ h => h.1)) (fun _ h_ => by first | trivial | exact h_ | exact h_.1))
   clear BK543
   clear HK
   clear HB
   clear HI0
   have BK543 := n0_
   have HK := n1_
   have HB := n2_
   have HI0 := n3_
   clear n0_ n1_ n2_ n3_
   (try clear hb)
   (try clear hb2)
   (try clear hk)
   (try clear hi)
   refine hK.out _ _ ⟨v551, v556, m10_, (by rw [ha.out]; exact putSel_upk 2 hb_ rfl rfl rfl), (bk BK543), fun h0_ => absurd ((up_self b 5).symm.trans h0_) (by decide), (by repeat (first | (with_reducible first | exact HK.out | apply KeepBut.set_ | apply keep_drewN | apply keep_drew | apply keep_alloc | refine keep_far ?_ GW543.out _) | exact HK.out)), (by repeat (first | (with_reducible first | exact HB.out | apply below_alloc | apply pw_below_drewN | apply below_drew1 | refine below_set ?_ (IsS95.ge HI0.out) | refine below_set ?_ GE543.out) | exact HB.out)), fun _ _ => (by repeat (first | (with_reducible first | exact HI0.out | apply IsS95.alloc | apply IsS95.drewN | apply IsS95.drew | apply IsS95.set_1 | refine IsS95.far ?_ NB0_543.out _) | exact HI0.out)), z_HO552, fun h0_ _ => absurd ((hoff 8 (by kernel_rfl)).symm.trans h0_) (by decide), fun h0_ => absurd ((hoff 9 (by kernel_rfl)).symm.trans h0_) (by decide), fun h0_ => absurd ((hoff 9 (by kernel_rfl)).symm.trans h0_) (by decide), fun h0_ => absurd ((hoff 10 (by kernel_rfl)).symm.trans h0_) (by decide)⟩
  refine steps_cons ?_ ?_
  ·rintro b a w' ⟨v551, v556, m10_, ha, Q_BK543, Q_HI0, Q_HK, Q_HB, Q_HI0_e5, Q_HO552, Q_HI0_e8, Q_HO557, Q_HI0_e9, Q_X10_⟩ hb_ hon hoff
   refine ⟨_, rfl, fun K hK => ?_⟩
   replace ha := ak ha
   have BK543 := ak Q_BK543
   have HK := ak Q_HK
   have HB := ak Q_HB
   refine Kd.R_lit_step (Kd.int .i64) _ 3 ?hg (N := 17) ?hd (xs := ([3, 8, 21] : List Int)) (inner := [.int .i64 3, .int .i64 8, .int .i64 21]) (ok := fun _ => True) (okp := fun _ => True) ?hr ?hp (fun _ hk => hk) trivial (Below.refl _ _) (Nat.le_refl _) (by simp) ?_; (case hd => rfl); (case hg => rfl); (case hr => first | (go_simp; done) | (go_simp; rfl)); (case hp => exact (Reps.one (show Kd.M (Kd.int .i64) _ _ _ 3 [.int .i64 3] from rfl) (Reps.one (show Kd.M (Kd.int .i64) _ _ _ 8 [.int .i64 8] from rfl) (Reps.one (show Kd.M (Kd.int .i64) _ _ _ 21 [.int .i64 21] from rfl) (Reps.none _ _)))))
   intro v551 w17 ho18 hb hg_ hnew_
   clear hg_ hnew_
   (first | rw [← Ny550.out] at ho18 | (simp only [Int.reduceToNat] at ho18; rw [← Ny550.out] at ho18))
   have n0_ := ak (Kd.R_lower ho18 (keep_size (w := w) (g := g) (row := none) (by repeat (first | (with_reducible first | exact HK.out | apply KeepBut.set_ | apply keep_drewN | apply keep_drew | apply keep_alloc | refine keep_far ?_ GW543.out _) | exact HK.out))))
   have n2_ := ak (blk_below (bk BK543) hb)
   have n3_ := ak (KeepBut.trans (by repeat (first | (with_reducible first | exact HK.out | apply KeepBut.set_ | apply keep_drewN | apply keep_drew | apply keep_alloc | refine keep_far ?_ GW543.out _) | exact HK.out)) (KeepBut.of_below hb g none) (.inl rfl))
   have n4_ := ak (below_step (bl1 HB GE543) hb)
   have z_HI0 := fun (h0_ : b 5 = false) => (show IsS95 w0 w17 g s0_0 s0_1 from by first | exact (IsS95.below (by repeat (first | (with_reducible first | exact (Q_HI0 h0_) | apply IsS95.alloc | apply IsS95.drewN | apply IsS95.drew | apply IsS95.set_1 | refine IsS95.far ?_ NB0_543.out _) | exact (Q_HI0 h0_))) hb))
   have z_HI0_e5 := fun (h0_ : b 5 = true) (h1_ : b 8 = false) => (show IsS95 w0 w17 g s0_0 t549 from by first | exact (IsS95.below (by repeat (first | (with_reducible first | exact (Q_HI0_e5 h0_ h1_) | apply IsS95.alloc | apply IsS95.drewN | apply IsS95.drew | apply IsS95.set_1 | refine IsS95.far ?_ NB0_543.out _) | exact (Q_HI0_e5 h0_ h1_))) hb))
   clear BK543
   clear HK
   clear HB
   have HO552 := n0_
   have BK543 := n2_
   have HK := n3_
   have HB := n4_
   clear n0_ n2_ n3_ n4_
   clear hb ho18
   refine hK.out _ _ ⟨v551, v556, m10_, (by rw [ha.out]; exact putSel_upk 3 hb_ rfl rfl rfl), (bk BK543), z_HI0, (by repeat (first | (with_reducible first | exact HK.out | apply KeepBut.set_ | apply keep_drewN | apply keep_drew | apply keep_alloc | refine keep_far ?_ GW543.out _) | exact HK.out)), (bl1 HB GE543), z_HI0_e5, fun _ => (rk HO552), fun h0_ _ => absurd ((hoff 8 (by kernel_rfl)).symm.trans h0_) (by decide), fun h0_ => absurd ((hoff 9 (by kernel_rfl)).symm.trans h0_) (by decide), fun h0_ => absurd ((hoff 9 (by kernel_rfl)).symm.trans h0_) (by decide), fun h0_ => absurd ((hoff 10 (by kernel_rfl)).symm.trans h0_) (by decide)⟩
  refine steps_cons ?_ ?_
  ·rintro b a w' ⟨v551, v556, m10_, ha, Q_BK543, Q_HI0, Q_HK, Q_HB, Q_HI0_e5, Q_HO552, Q_HI0_e8, Q_HO557, Q_HI0_e9, Q_X10_⟩ hb_ hon hoff
   refine ⟨_, rfl, fun K hK => ?_⟩
   have e16 : a.tmps[16]? = some (.pointer (some ⟨g, 0, none⟩)) := by rw [ha]; exact (putSel_off rfl).trans rfl
   have e17 : a.tmps[17]? = some (v551) := by rw [ha]; exact putSel_on (e := (7, 17, v551)) 3 rfl rfl (hon 7 (by kernel_rfl)) rfl
   replace ha := ak ha
   have BK543 := ak Q_BK543
   have HK := ak Q_HK
   have HB := ak Q_HB
   have HI0 := ak (Q_HI0_e5 (hon 5 (by kernel_rfl)) hb_)
   have HO552 := ak (Q_HO552 (hon 7 (by kernel_rfl)))
   obtain ⟨Ao21, co21, eo21⟩ := Kd.R_slice HO552.out
   (first | subst eo21 | (injection eo21 with f1_ f2_ f3_; have f4_ := f1_.symm; have f5_ := f3_.symm; clear f1_ f2_ f3_; subst f4_; subst f5_))
   refine goes_ Try.func47 (by kernel_rfl) rfl #[.pointer (some ⟨g, 0, none⟩), .slice Ao21 y550.length co21] (by rfl) rfl rfl (by first | (simp only [List.map_toArray, List.map_cons, List.map_nil, Act.eval, Array.getD_eq_getD_getElem?, Option.getD_some, e16, e17]; done) | (simp only [List.map_toArray, List.map_cons, List.map_nil, Act.eval, Array.getD_eq_getD_getElem?, Option.getD_some, e16, e17]; rfl)) ?_
   with_reducible refine (spec_l30Rd_one.calls k g s0_0 t549 _ _ y550 t553 t554 w0 _ ?side1 ?side2 ?side3 ?side4 ?side5 A6.out).mono ?_
   (case side1 => repeat (first | (with_reducible first | exact HI0.out | apply IsS95.alloc | apply IsS95.drewN | apply IsS95.drew | apply IsS95.set_1 | refine IsS95.far ?_ NB0_543.out _) | exact HI0.out))
   (case side2 => repeat (first | (with_reducible first | exact HB.out | apply below_alloc | apply pw_below_drewN | apply below_drew1 | refine below_set ?_ (IsS95.ge HI0.out) | refine below_set ?_ GE543.out) | exact HB.out))
   (case side3 => repeat (first | exact (Kd.R_reads' HO552.out).2.2 | (with_reducible refine Kd.C_alloc ?_ _) | (with_reducible refine Kd.C_drewN ?_ _) | (with_reducible refine Kd.C_drew ?_)))
   (case side4 => exact (Kd.R_reads' HO552.out).2.1)
   (case side5 => exact far_slice (IsS95.own_ne HI0.out HO552.out (by decide)))
   rintro e w22 ⟨rfl, hi, hb, hk⟩
   refine ⟨_, rfl, ?_⟩
   replace BK543 := ak (KeepBut.blk hk (g' := gb543) (o := .cells #[.int .i64 a1_0, .slice A1_1 l1_1.length c1_1] 25 (0, 0)) (bk BK543) NB543_0.out (by simp))
   replace HO552 := ak (Kd.R_mono (Kd.R_keep (IsS95.apart (show IsS95 w0 _ g s0_0 t549 from by repeat (first | (with_reducible first | exact HI0.out | apply IsS95.alloc | apply IsS95.drewN | apply IsS95.drew | apply IsS95.set_1 | refine IsS95.far ?_ NB0_543.out _) | exact HI0.out)) (rk HO552) (by decide)) hk (fun _ h => h.2)) (fun _ h => h.1))
   replace HK := ak (KeepBut.trans (by repeat (first | (with_reducible first | exact HK.out | apply KeepBut.set_ | apply keep_drewN | apply keep_drew | apply keep_alloc | refine keep_far ?_ GW543.out _) | exact HK.out)) hk (.inl rfl))
   replace HB := ak (hb)
   replace HI0 := ak (hi)
   (try clear hb)
   (try clear hb2)
   (try clear hk)
   (try clear hi)
   refine hK.out _ _ ⟨.slice Ao21 y550.length co21, v556, m10_, (by rw [ha.out]; exact putSel_upk 4 hb_ rfl rfl rfl), (bk BK543), fun h0_ => absurd ((hon 5 (by kernel_rfl)).symm.trans h0_) (by decide), (by repeat (first | (with_reducible first | exact HK.out | apply KeepBut.set_ | apply keep_drewN | apply keep_drew | apply keep_alloc | refine keep_far ?_ GW543.out _) | exact HK.out)), (by repeat (first | (with_reducible first | exact HB.out | apply below_alloc | apply pw_below_drewN | apply below_drew1 | refine below_set ?_ (IsS95.ge HI0.out) | refine below_set ?_ GE543.out) | exact HB.out)), fun _ h1_ => absurd ((up_self b 8).symm.trans h1_) (by decide), fun _ => (rk HO552), fun _ _ => (by repeat (first | (with_reducible first | exact HI0.out | apply IsS95.alloc | apply IsS95.drewN | apply IsS95.drew | apply IsS95.set_1 | refine IsS95.far ?_ NB0_543.out _) | exact HI0.out)), fun h0_ => absurd ((hoff 9 (by kernel_rfl)).symm.trans h0_) (by decide), fun h0_ => absurd ((hoff 9 (by kernel_rfl)).symm.trans h0_) (by decide), fun h0_ => absurd ((hoff 10 (by kernel_rfl)).symm.trans h0_) (by decide)⟩
  refine steps_cons ?_ ?_
  ·rintro b a w' ⟨v551, v556, m10_, ha, Q_BK543, Q_HI0, Q_HK, Q_HB, Q_HI0_e5, Q_HO552, Q_HI0_e8, Q_HO557, Q_HI0_e9, Q_X10_⟩ hb_ hon hoff
   refine ⟨_, rfl, fun K hK => ?_⟩
   have e10 : a.tmps[10]? = some (.pointer (some ⟨g, 0, none⟩)) := by rw [ha]; exact (putSel_off rfl).trans rfl
   have e11 : a.tmps[11]? = some (.agg #[.int .i64 a1_0, .slice A1_1 l1_1.length c1_1]) := by rw [ha]; exact putSel_on (e := (1, 11, .agg #[.int .i64 a1_0, .slice A1_1 l1_1.length c1_1])) 0 rfl rfl (hon 1 (by kernel_rfl)) rfl
   have e15 : a.tmps[15]? = some (.int .i64 t548) := by rw [ha]; exact putSel_on (e := (5, 15, .int .i64 t548)) 2 rfl rfl (hon 5 (by kernel_rfl)) rfl
   have e18 : a.tmps[18]? = some (.int .i64 t553) := by rw [ha]; exact putSel_on (e := (8, 18, .int .i64 t553)) 4 rfl rfl (hon 8 (by kernel_rfl)) rfl
   replace ha := ak ha
   have BK543 := ak Q_BK543
   have HK := ak Q_HK
   have HB := ak Q_HB
   have HO552 := ak (Q_HO552 (hon 7 (by kernel_rfl)))
   have HI0 := ak (Q_HI0_e8 (hon 8 (by kernel_rfl)) hb_)
   refine goes_ Try.func122 (by kernel_rfl) rfl #[.pointer (some ⟨g, 0, none⟩), .agg #[.int .i64 a1_0, .slice A1_1 l1_1.length c1_1], .int .i64 t548, .int .i64 t553] (by rfl) rfl rfl (by first | (simp only [List.map_toArray, List.map_cons, List.map_nil, Act.eval, Array.getD_eq_getD_getElem?, Option.getD_some, e10, e11, e15, e18]; done) | (simp only [List.map_toArray, List.map_cons, List.map_nil, Act.eval, Array.getD_eq_getD_getElem?, Option.getD_some, e10, e11, e15, e18]; rfl)) ?_
   with_reducible refine (spec_l30Walk.calls k g s0_0 t554 a1_0 _ _ l1_1 t548 t553 t555 t558 w0 _ ?side1 ?side2 ?side3 ?side4 A7.out).mono ?_
   (case side1 => repeat (first | (with_reducible first | exact HI0.out | apply IsS95.alloc | apply IsS95.drewN | apply IsS95.drew | apply IsS95.set_1 | refine IsS95.far ?_ NB0_543.out _) | exact HI0.out))
   (case side2 => repeat (first | (with_reducible first | exact HB.out | apply below_alloc | apply pw_below_drewN | apply below_drew1 | refine below_set ?_ (IsS95.ge HI0.out) | refine below_set ?_ GE543.out) | exact HB.out))
   (case side3 => exact Kd.C_foot_step HR1_1.out (by repeat (first | (with_reducible first | exact HK.out | apply KeepBut.set_ | apply keep_drewN | apply keep_drew | apply keep_alloc | refine keep_far ?_ GW543.out _) | exact HK.out)))
   (case side4 => exact HC1_1.out)
   rintro e w23 ⟨v556, rfl, ho0, hi, hb, hk⟩
   refine ⟨_, rfl, ?_⟩
   replace BK543 := ak (KeepBut.blk hk (g' := gb543) (o := .cells #[.int .i64 a1_0, .slice A1_1 l1_1.length c1_1] 25 (0, 0)) (bk BK543) NB543_0.out (by simp))
   have HO557 := ak (Kd.R_lower (Kd.R_new' ho0 (Kd.R_lt (rk HO552))) (keep_size (w := w) (g := g) (row := none) (by repeat (first | (with_reducible first | exact HK.out | apply KeepBut.set_ | apply keep_drewN | apply keep_drew | apply keep_alloc | refine keep_far ?_ GW543.out _) | exact HK.out))))
   replace HO552 := ak (Kd.R_mono (Kd.R_told (Kd.R_oldK (IsS95.apart (show IsS95 w0 _ g s0_0 t554 from by repeat (first | (with_reducible first | exact HI0.out | apply IsS95.alloc | apply IsS95.drewN | apply IsS95.drew | apply IsS95.set_1 | refine IsS95.far ?_ NB0_543.out _) | exact HI0.out)) (rk HO552) (by decide)) hk) (Kd.R_base ho0)) (fun _ h_ => h_.1))
   replace HK := ak (KeepBut.trans (by repeat (first | (with_reducible first | exact HK.out | apply KeepBut.set_ | apply keep_drewN | apply keep_drew | apply keep_alloc | refine keep_far ?_ GW543.out _) | exact HK.out)) hk (.inl rfl))
   replace HB := ak (hb)
   replace HI0 := ak (hi)
   (try clear hb)
   (try clear hb2)
   (try clear hk)
   (try clear hi)
   (try clear ho0)
   refine hK.out _ _ ⟨v551, v556, m10_, (by rw [ha.out]; exact putSel_upk 5 hb_ rfl rfl rfl), (bk BK543), fun h0_ => absurd ((hon 5 (by kernel_rfl)).symm.trans h0_) (by decide), (by repeat (first | (with_reducible first | exact HK.out | apply KeepBut.set_ | apply keep_drewN | apply keep_drew | apply keep_alloc | refine keep_far ?_ GW543.out _) | exact HK.out)), (by repeat (first | (with_reducible first | exact HB.out | apply below_alloc | apply pw_below_drewN | apply below_drew1 | refine below_set ?_ (IsS95.ge HI0.out) | refine below_set ?_ GE543.out) | exact HB.out)), fun _ h1_ => absurd ((hon 8 (by kernel_rfl)).symm.trans h1_) (by decide), fun _ => (by (with_reducible repeat (first | apply Kd.R_alloc | apply Kd.R_drewN | apply Kd.R_drew)); exact Kd.R_mono HO552.out (fun _ hk => by first | exact hk.2 | trivial)), fun _ h1_ => absurd ((up_self b 9).symm.trans h1_) (by decide), fun _ => (by (with_reducible repeat (first | apply Kd.R_alloc | apply Kd.R_drewN | apply Kd.R_drew)); exact Kd.R_mono HO557.out (fun _ hk => by first | exact hk.2 | trivial)), fun _ => (by repeat (first | (with_reducible first | exact HI0.out | apply IsS95.alloc | apply IsS95.drewN | apply IsS95.drew | apply IsS95.set_1 | refine IsS95.far ?_ NB0_543.out _) | exact HI0.out)), fun h0_ => absurd ((hoff 10 (by kernel_rfl)).symm.trans h0_) (by decide)⟩
  refine steps_cons ?_ ?_
  ·rintro b a w' ⟨v551, v556, m10_, ha, Q_BK543, Q_HI0, Q_HK, Q_HB, Q_HI0_e5, Q_HO552, Q_HI0_e8, Q_HO557, Q_HI0_e9, Q_X10_⟩ hb_ hon hoff
   refine ⟨_, rfl, fun K hK => ?_⟩
   have e19 : a.tmps[19]? = some (v556) := by rw [ha]; exact putSel_on (e := (9, 19, v556)) 5 rfl rfl (hon 9 (by kernel_rfl)) rfl
   replace ha := ak ha
   have BK543 := ak Q_BK543
   have HK := ak Q_HK
   have HB := ak Q_HB
   have HO552 := ak (Q_HO552 (hon 7 (by kernel_rfl)))
   have HO557 := ak (Q_HO557 (hon 9 (by kernel_rfl)))
   have HI0 := ak (Q_HI0_e9 (hon 9 (by kernel_rfl)))
   refine value_ (w1 := w') (v := v556) (by rfl) rfl ?_ ?_
   ·go_simp
    (try simp only [i64_w])
    try rfl
   refine hK.out _ _ ⟨v551, v556, (v556), (by rw [ha.out]; exact putSel_upk 6 hb_ rfl rfl rfl), Q_BK543, fun h0_ => absurd ((hon 5 (by kernel_rfl)).symm.trans h0_) (by decide), Q_HK, Q_HB, fun _ h1_ => absurd ((hon 8 (by kernel_rfl)).symm.trans h1_) (by decide), Q_HO552, fun _ h1_ => absurd ((hon 9 (by kernel_rfl)).symm.trans h1_) (by decide), Q_HO557, Q_HI0_e9, fun _ => rfl⟩
  exact steps_nil
 rintro b a w23 hall ⟨v551, v556, m10_, ha, Q_BK543, Q_HI0, Q_HK, Q_HB, Q_HI0_e5, Q_HO552, Q_HI0_e8, Q_HO557, Q_HI0_e9, Q_X10_⟩
 clear BK543 HB HI0 HK
 have hb1_ := hall 1 (by kernel_rfl)
 have hb4_ := hall 4 (by kernel_rfl)
 have hb5_ := hall 5 (by kernel_rfl)
 have hb7_ := hall 7 (by kernel_rfl)
 have hb8_ := hall 8 (by kernel_rfl)
 have hb9_ := hall 9 (by kernel_rfl)
 have hb10_ := hall 10 (by kernel_rfl)
 subst ha
 have eX_ := (Q_X10_ hb10_).symm
 subst eX_
 simp only [putSel, hb1_, hb4_, hb5_, hb7_, hb8_, hb9_, hb10_, if_true, Act.put, List.setIfInBounds_toArray, List.set_cons_zero, List.set_cons_succ]
 have BK543 := ak Q_BK543
 clear Q_BK543
 clear Q_HI0
 have HK := ak Q_HK
 clear Q_HK
 have HB := ak Q_HB
 clear Q_HB
 clear Q_HI0_e5
 have HO552 := ak (Q_HO552 hb7_)
 clear Q_HO552
 clear Q_HI0_e8
 have HO557 := ak (Q_HO557 hb9_)
 clear Q_HO557
 have HI0 := ak (Q_HI0_e9 hb9_)
 clear Q_HI0_e9
 clear hall hb1_ hb4_ hb5_ hb7_ hb8_ hb9_ hb10_
 try go_wp2_with (first | ((with_reducible refine gate_callee (f := 87) rfl ?_); refine goesL_ (some 21) rfl rfl Try.func87 (by kernel_rfl) rfl #[.pointer (some ⟨g, 0, none⟩), .int .i64 10] rfl (by (try simp only [List.map_toArray, List.map_cons, List.map_nil]); first | done | rfl | (simp only [List.length_drop, List.length_take]; rfl)) ?_; (with_reducible refine (spec_l30Rd_pick.calls k g s0_0 t558 10 t559 t560 w0 _ ?side1 ?side2 A8.out).mono ?_); (case side1 => repeat (first | (with_reducible first | exact HI0.out | apply IsS95.alloc | apply IsS95.drewN | apply IsS95.drew | apply IsS95.set_1 | refine IsS95.far ?_ NB0_543.out _) | exact HI0.out)); (case side2 => repeat (first | (with_reducible first | exact HB.out | apply below_alloc | apply pw_below_drewN | apply below_drew1 | refine below_set ?_ (IsS95.ge HI0.out) | refine below_set ?_ GE543.out) | exact HB.out)); rintro e w24 ⟨rfl, hi, hb, hk⟩; refine ⟨_, rfl, ?_⟩; replace BK543 := ak (KeepBut.blk hk (g' := gb543) (o := .cells #[.int .i64 a1_0, .slice A1_1 l1_1.length c1_1] 25 (0, 0)) (bk BK543) NB543_0.out (by simp)); replace HO557 := ak (Kd.R_mono (Kd.R_keep (IsS95.apart (show IsS95 w0 _ g s0_0 t558 from by repeat (first | (with_reducible first | exact HI0.out | apply IsS95.alloc | apply IsS95.drewN | apply IsS95.drew | apply IsS95.set_1 | refine IsS95.far ?_ NB0_543.out _) | exact HI0.out)) (rk HO557) (by decide)) hk (fun _ h => h.2)) (fun _ h => h.1)); replace HK := ak (KeepBut.trans (by repeat (first | (with_reducible first | exact HK.out | apply KeepBut.set_ | apply keep_drewN | apply keep_drew | apply keep_alloc | refine keep_far ?_ GW543.out _) | exact HK.out)) hk (.inl rfl)); replace HB := ak (hb); replace HI0 := ak (hi); (try clear hb); (try clear hb2); (try clear hk); (try clear hi)) | ((with_reducible refine gate_callee (f := 87) rfl ?_); refine goesL_ (some 25) rfl rfl Try.func87 (by kernel_rfl) rfl #[.pointer (some ⟨g, 0, none⟩), .int .i64 17] rfl (by (try simp only [List.map_toArray, List.map_cons, List.map_nil]); first | done | rfl | (simp only [List.length_drop, List.length_take]; rfl)) ?_; (with_reducible refine (spec_l30Rd_pick.calls k g s0_0 t560 17 t561 t562 w0 _ ?side1 ?side2 A10.out).mono ?_); (case side1 => repeat (first | (with_reducible first | exact HI0.out | apply IsS95.alloc | apply IsS95.drewN | apply IsS95.drew | apply IsS95.set_1 | refine IsS95.far ?_ NB0_543.out _) | exact HI0.out)); (case side2 => repeat (first | (with_reducible first | exact HB.out | apply below_alloc | apply pw_below_drewN | apply below_drew1 | refine below_set ?_ (IsS95.ge HI0.out) | refine below_set ?_ GE543.out) | exact HB.out)); rintro e w25 ⟨rfl, hi, hb, hk⟩; refine ⟨_, rfl, ?_⟩; replace BK543 := ak (KeepBut.blk hk (g' := gb543) (o := .cells #[.int .i64 a1_0, .slice A1_1 l1_1.length c1_1] 25 (0, 0)) (bk BK543) NB543_0.out (by simp)); replace HO557 := ak (Kd.R_mono (Kd.R_keep (IsS95.apart (show IsS95 w0 _ g s0_0 t560 from by repeat (first | (with_reducible first | exact HI0.out | apply IsS95.alloc | apply IsS95.drewN | apply IsS95.drew | apply IsS95.set_1 | refine IsS95.far ?_ NB0_543.out _) | exact HI0.out)) (rk HO557) (by decide)) hk (fun _ h => h.2)) (fun _ h => h.1)); replace HK := ak (KeepBut.trans (by repeat (first | (with_reducible first | exact HK.out | apply KeepBut.set_ | apply keep_drewN | apply keep_drew | apply keep_alloc | refine keep_far ?_ GW543.out _) | exact HK.out)) hk (.inl rfl)); replace HB := ak (hb); replace HI0 := ak (hi); (try clear hb); (try clear hb2); (try clear hk); (try clear hi)) | ((with_reducible refine gate_builtin (b := .append) (xs := #[.tmp 23, .tmp 27]) rfl ?_); at_builtin; refine Kd.R_append (Kd.int .i64) w.heap.size rfl (.tmp 23) (.tmp 27) 33 3 (.int .i64 0) 8 rfl Try.underlying33 info3 rfl (by decide) (by omega) v556 t555 (wrap64 (t561 - 1)) [.int .i64 (wrap64 (t561 - 1))] (fun _ => True) (fun _ => False) rfl rfl ?aP (fun _ hk => hk.elim) ?aF ?aO (Below.refl _ _) ?aS ?aL ?_; (case aP => exact rfl); (case aF => exact (fun _ _ => trivial)); (case aO => exact (rk HO557)); (case aS => exact (keep_size (w := w) (g := g) (row := none) (by repeat (first | (with_reducible first | exact HK.out | apply KeepBut.set_ | apply keep_drewN | apply keep_drew | apply keep_alloc | refine keep_far ?_ GW543.out _) | exact HK.out)))); (case aL => have := LMc11.out; omega); intro v564 w26 ho hb hg hat; rw [← Ny563.out] at ho; have n0_ := ak (IsS95.grown (by repeat (first | (with_reducible first | exact HI0.out | apply IsS95.alloc | apply IsS95.drewN | apply IsS95.drew | apply IsS95.set_1 | refine IsS95.far ?_ NB0_543.out _) | exact HI0.out)) hg (IsS95.own_ne HI0.out HO557.out (by decide))); have n1_ := ak (blk_grown (bk BK543) hg (Kd.R_ne HO557.out BK543.out (by decide))); have n3_ := ak (below_weaken (by repeat (first | (with_reducible first | exact HB.out | apply below_alloc | apply pw_below_drewN | apply below_drew1 | refine below_set ?_ (IsS95.ge HI0.out) | refine below_set ?_ GE543.out) | exact HB.out)) HL.out hb); have n4_ := ak (KeepBut.trans (by repeat (first | (with_reducible first | exact HK.out | apply KeepBut.set_ | apply keep_drewN | apply keep_drew | apply keep_alloc | refine keep_far ?_ GW543.out _) | exact HK.out)) (KeepBut.of_grown hg g) (Kd.R_base2 HO557.out)); have n5_ := ak (ho); clear HI0; clear BK543; clear HB; clear HK; clear HO557; have HI0 := n0_; have BK543 := n1_; have HB := n3_; have HK := n4_; have HO565 := n5_; clear n0_ n1_ n3_ n4_ n5_; clear ho hb hg hat))
 go_ret
 exact ⟨_, by first | rfl | (simp [errW_none, errW_some] <;> rfl) | (simp [*, errW_none, errW_some] <;> rfl), by (with_reducible repeat (first | apply Kd.R_alloc | apply Kd.R_drewN | apply Kd.R_drew)); exact Kd.R_mono HO565.out (fun _ hk => trivial), by repeat (first | (with_reducible first | exact HI0.out | apply IsS95.alloc | apply IsS95.drewN | apply IsS95.drew | apply IsS95.set_1 | refine IsS95.far ?_ NB0_543.out _) | exact HI0.out), by repeat (first | (with_reducible first | exact HB.out | apply below_alloc | apply pw_below_drewN | apply below_drew1 | refine below_set ?_ (IsS95.ge HI0.out) | refine below_set ?_ GE543.out) | exact HB.out), by repeat (first | (with_reducible first | exact HK.out | apply KeepBut.set_ | apply keep_drewN | apply keep_drew | apply keep_alloc | refine keep_far ?_ GW543.out _) | exact HK.out)⟩

end Go.Proofs.Ytlgolgfcolnddaa.F
