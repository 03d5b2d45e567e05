-- Printed by wip/px/px.py of this claim's repository (the kit's printer, extended there). Lean checks it.
import Derived.Test.YtlgolgfcolnddaaFKinds
import Derived.Test.YtlgolgfcolnddaaFspecl30Open
import Derived.Test.YtlgolgfcolnddaaFspecl30Rdpick
import Derived.Test.YtlgolgfcolnddaaFspecl30Rdone
import Derived.Test.YtlgolgfcolnddaaFspecl30Net
namespace Go.Proofs.Ytlgolgfcolnddaa.F
open Go.RowKit Go.Proofs.YtlgolgfcolnddaaW.PrintWords Go.Proofs.YtlgolgfcolnddaaW.PrintLast Go.Proofs.YtlgolgfcolnddaaW.PrintMore
attribute [local go_sem] max2_int min2_int max_two min_two max_three min_three max_four min_four   -- for this text's walks alone
set_option linter.unusedVariables false
set_option linter.unusedSimpArgs false

/-! ### spec_l30AnyNet: function 45 -/
def spec_l30AnyNet.f (k : Nat) (s0_0 : List Int) (s0_1 : Int) : Option (Int × (List (S58)) × Int) := (spec_l30Net.f k s0_0 s0_1).bind fun bt153 => (if (bt153.2.1.length : Int) > 0 then ((spec_l30Rd_pick.f k s0_0 bt153.2.2 (bt153.2.1.length : Int)).bind fun bt159 => ((spec_l30Rd_pick.f k s0_0 bt159.2 16).bind fun bt161 => (if bt161.1 = 0 then (if 0 ≤ bt159.1 then (if bt159.1 < (bt153.2.1.length : Int) then ((spec_l30Rd_one.f k s0_0 bt161.2 (([(-1), 8, (rd_T58 bt153.2.1 bt159.1).f0] : List Int))).bind fun bt167 => (some (bt153.1, (bt153.2.1.set (bt159.1 : Int).toNat (⟨(rd_T58 bt153.2.1 bt159.1).f0, bt167.1, (rd_T58 bt153.2.1 bt159.1).f2, (rd_T58 bt153.2.1 bt159.1).f3, (rd_T58 bt153.2.1 bt159.1).f4⟩ : S58)), bt167.2))) else (none)) else (none)) else (if bt161.1 = 1 then ((spec_l30Rd_one.f k s0_0 bt161.2 (([(-1), 100] : List Int))).bind fun bt173 => (if 0 ≤ bt159.1 then (if bt159.1 < (bt153.2.1.length : Int) then (some (bt153.1, (bt153.2.1.set (bt159.1 : Int).toNat (⟨(rd_T58 bt153.2.1 bt159.1).f0, (rd_T58 bt153.2.1 bt159.1).f1, bt173.1, (rd_T58 bt153.2.1 bt159.1).f3, (rd_T58 bt153.2.1 bt159.1).f4⟩ : S58)), bt173.2)) else (none)) else (none))) else (if bt161.1 = 2 then ((spec_l30Rd_one.f k s0_0 bt161.2 (([0, 1, 9, 8] : List Int))).bind fun bt179 => (some (bt179.1, bt153.2.1, bt179.2))) else (some (bt153.1, bt153.2.1, bt161.2))))))) else (some (bt153.1, bt153.2.1, bt153.2.2)))
theorem spec_l30AnyNet.mono : ∀ a0 a1 k, LeO (spec_l30AnyNet.f k a0 a1) (spec_l30AnyNet.f (k + 1) a0 a1) := by
 intro a0 a1 k
 unfold spec_l30AnyNet.f
 repeat' first
   | (with_reducible exact spec_l30Net.mono _ _ _)
   | (with_reducible exact spec_l30Rd_one.mono _ _ _ _)
   | (with_reducible exact spec_l30Rd_pick.mono _ _ _ _)
   | (with_reducible exact LeO.refl _)
   | (with_reducible exact LeO.none _)
   | (with_reducible refine LeO.ite ?_ ?_)
   | (with_reducible refine LeO.bind ?_ (fun _ => ?_))
   | exact spec_l30Net.mono _ _ _
   | exact spec_l30Rd_one.mono _ _ _ _
   | exact spec_l30Rd_pick.mono _ _ _ _
   | exact LeO.none _
   | refine LeO.ite ?_ ?_
   | refine LeO.bind ?_ (fun _ => ?_)
def spec_l30AnyNet.T6 : Bool × List (List Nat × List Nat) := (true, [([], []), ([0], [0]), ([], []), ([], []), ([], []), ([4], [4]), ([], []), ([5, 6], [5, 6]), ([7], [7]), ([8], [8]), ([9], [9]), ([3, 10], [3, 10]), ([1, 2, 0, 1, 2, 3, 4, 5, 6, 7, 8, 9, 10, 11], [1, 2]), ([12, 0, 1, 2, 3, 4, 5, 6, 7, 8, 9, 10, 11], [12]), ([13, 11, 11, 0, 1, 2, 3, 4, 5, 6, 7, 8, 9, 10, 11], [11, 13])])
def spec_l30AnyNet.B6 : List Nat := [0, 1, 0, 0, 0, 16, 0, 112, 240, 496, 1008, 2040, 4095, 8191, 16383]
theorem spec_l30AnyNet.tab6 : rtab .any (opsOf Try.f45 6) = spec_l30AnyNet.T6 := by kernel_rfl
theorem spec_l30AnyNet.bits6 : waitsOk spec_l30AnyNet.T6.2 spec_l30AnyNet.B6 = true := by kernel_rfl
def spec_l30AnyNet.T8 : Bool × List (List Nat × List Nat) := (true, [([], []), ([0], [0]), ([], []), ([], []), ([], []), ([3, 4], [3, 4]), ([1, 2, 0, 1, 2, 3, 4, 5], [1, 2]), ([6, 0, 1, 2, 3, 4, 5], [6]), ([7, 5, 5, 0, 1, 2, 3, 4, 5], [5, 7])])
def spec_l30AnyNet.B8 : List Nat := [0, 1, 0, 0, 0, 24, 63, 127, 255]
theorem spec_l30AnyNet.tab8 : rtab .any (opsOf Try.f45 8) = spec_l30AnyNet.T8 := by kernel_rfl
theorem spec_l30AnyNet.bits8 : waitsOk spec_l30AnyNet.T8.2 spec_l30AnyNet.B8 = true := by kernel_rfl
set_option maxHeartbeats 8000000 in
set_option maxRecDepth 100000 in
theorem spec_l30AnyNet.calls (k : Nat) (g : Nat) (s0_0 : List Int) (s0_1 : Int) (r1 : Int) (r2 : List (S58)) (r3 : Int) (w0 w : World) (hI : IsS95 w0 w g s0_0 s0_1) (hB : Below w0.heap.size w0 w) (h : spec_l30AnyNet.f k s0_0 s0_1 = some (r1, r2, r3)) :
  Calls Try.prog 45 #[.pointer (some ⟨g, 0, none⟩)] w fun e w' => ∃ v1_ : Value, e = .returned (.agg #[.int .i64 r1, v1_]) ∧ Kd.R k58 58 w' w.heap.size (fun _ => True) v1_ r2 ∧ IsS95 w0 w' g s0_0 r3 ∧ Below w0.heap.size w0 w' ∧ KeepBut w w' g none := by
 have hu25 := Try.underlying25
 have HI0 := ak hI
 have HK := ak (KeepBut.refl w g none)
 have HL := ak hB.size
 clear hI
 have HW0 := ak hB.size
 have HB := ak hB
 clear hB
 have H : ((spec_l30Net.f k s0_0 s0_1).bind fun bt153 => (if (bt153.2.1.length : Int) > 0 then ((spec_l30Rd_pick.f k s0_0 bt153.2.2 (bt153.2.1.length : Int)).bind fun bt159 => ((spec_l30Rd_pick.f k s0_0 bt159.2 16).bind fun bt161 => (if bt161.1 = 0 then (if 0 ≤ bt159.1 then (if bt159.1 < (bt153.2.1.length : Int) then ((spec_l30Rd_one.f k s0_0 bt161.2 (([(-1), 8, (rd_T58 bt153.2.1 bt159.1).f0] : List Int))).bind fun bt167 => (some (bt153.1, (bt153.2.1.set (bt159.1 : Int).toNat (⟨(rd_T58 bt153.2.1 bt159.1).f0, bt167.1, (rd_T58 bt153.2.1 bt159.1).f2, (rd_T58 bt153.2.1 bt159.1).f3, (rd_T58 bt153.2.1 bt159.1).f4⟩ : S58)), bt167.2))) else (none)) else (none)) else (if bt161.1 = 1 then ((spec_l30Rd_one.f k s0_0 bt161.2 (([(-1), 100] : List Int))).bind fun bt173 => (if 0 ≤ bt159.1 then (if bt159.1 < (bt153.2.1.length : Int) then (some (bt153.1, (bt153.2.1.set (bt159.1 : Int).toNat (⟨(rd_T58 bt153.2.1 bt159.1).f0, (rd_T58 bt153.2.1 bt159.1).f1, bt173.1, (rd_T58 bt153.2.1 bt159.1).f3, (rd_T58 bt153.2.1 bt159.1).f4⟩ : S58)), bt173.2)) else (none)) else (none))) else (if bt161.1 = 2 then ((spec_l30Rd_one.f k s0_0 bt161.2 (([0, 1, 9, 8] : List Int))).bind fun bt179 => (some (bt179.1, bt153.2.1, bt179.2))) else (some (bt153.1, bt153.2.1, bt161.2))))))) else (some (bt153.1, bt153.2.1, bt153.2.2)))) = some (r1, r2, r3) := h
 clear h
 replace H := Option.bind_eq_some_iff.mp H
 obtain ⟨⟨t153, t154, t157⟩, A20, H⟩ := H
 have A2 := ak A20
 clear A20
 by_cases c3 : (t154.length : Int) > 0
 rotate_left
 ·rw [if_neg c3] at H
  have c3b0 : decide (0 < (t154.length : Int)) = false := decide_eq_false c3
  have c3b1 : decide (0 < t154.length) = false := decide_eq_false (by omega)
  clear c3
  simp only [Option.some.injEq, Prod.mk.injEq] at H
  obtain ⟨rfl, rfl, rfl⟩ := H
  go_enter Try.func45, Try.ntmps45
  go_wp2_with (first | ((with_reducible refine gate_dst (N := 2) rfl ?_); refine box_event ?hg (N := 2) ?hd (cs := #[.int .i64 0, .slice none 0 0]) (t := 25) ?hr ?_; (case hd => rfl); (case hg => rfl); (case hr => first | (go_simp; done) | (go_simp; rfl)); intro gb152 hg w84 hbox hb; replace HB := ak (below_step (by repeat (first | (with_reducible first | exact HB.out | apply below_alloc | apply pw_below_drewN | apply below_drew1 | refine below_set ?_ (IsS95.ge HI0.out)) | exact HB.out)) hb); have BK152 := ak (hbox); have GW152 := ak ((by rw [hg]; exact (keep_size (w := w) (g := g) (row := none) (by repeat (first | (with_reducible first | exact HK.out | apply KeepBut.set_ | apply keep_drewN | apply keep_drew | apply keep_alloc) | exact HK.out))) : w.heap.size ≤ gb152)); have GE152 := ak ((Nat.le_trans HW0.out (by rw [hg]; exact (keep_size (w := w) (g := g) (row := none) (by repeat (first | (with_reducible first | exact HK.out | apply KeepBut.set_ | apply keep_drewN | apply keep_drew | apply keep_alloc) | exact HK.out))) : w.heap.size ≤ gb152) : w0.heap.size ≤ gb152)); replace HK := ak (KeepBut.trans (by repeat (first | (with_reducible first | exact HK.out | apply KeepBut.set_ | apply keep_drewN | apply keep_drew | apply keep_alloc) | exact HK.out)) (KeepBut.of_below hb g none) (.inl rfl)); have NB0_152 := ak ((by rw [hg]; exact Nat.ne_of_lt (IsS95.lt (show IsS95 w0 _ g s0_0 s0_1 from by repeat (first | (with_reducible first | exact HI0.out | apply IsS95.alloc | apply IsS95.drewN | apply IsS95.drew | apply IsS95.set_1) | exact HI0.out))) : g ≠ gb152)); have NB152_0 := ak ((by rw [hg]; exact Nat.ne_of_gt (IsS95.lt (show IsS95 w0 _ g s0_0 s0_1 from by repeat (first | (with_reducible first | exact HI0.out | apply IsS95.alloc | apply IsS95.drewN | apply IsS95.drew | apply IsS95.set_1) | exact HI0.out))) : gb152 ≠ g)); replace HI0 := ak (IsS95.below (by repeat (first | (with_reducible first | exact HI0.out | apply IsS95.alloc | apply IsS95.drewN | apply IsS95.drew | apply IsS95.set_1) | exact HI0.out)) hb); clear hb hbox hg) | ((with_reducible refine gate_callee (f := 86) rfl ?_); refine goesL_ (some 6) rfl rfl Try.func86 (by kernel_rfl) rfl #[.pointer (some ⟨g, 0, none⟩)] rfl (by (try simp only [List.map_toArray, List.map_cons, List.map_nil]); first | done | rfl | (simp only [List.length_drop, List.length_take]; rfl)) ?_; (with_reducible refine (spec_l30Net.calls k g s0_0 s0_1 t153 t154 t157 w0 _ ?side1 ?side2 A2.out).mono ?_); (case side1 => repeat (first | (with_reducible first | exact HI0.out | apply IsS95.alloc | apply IsS95.drewN | apply IsS95.drew | apply IsS95.set_1 | refine IsS95.far ?_ NB0_152.out _) | exact HI0.out)); (case side2 => repeat (first | (with_reducible first | exact HB.out | apply below_alloc | apply pw_below_drewN | apply below_drew1 | refine below_set ?_ (IsS95.ge HI0.out) | refine below_set ?_ GE152.out) | exact HB.out)); rintro e w85 ⟨v155, rfl, ho0, hi, hb, hk⟩; refine ⟨_, rfl, ?_⟩; replace BK152 := ak (KeepBut.blk hk (g' := gb152) (o := .cells #[.int .i64 0, .slice none 0 0] 25 (0, 0)) (bk BK152) NB152_0.out (by simp)); have HO156 := ak (Kd.R_lower ho0 (keep_size (w := w) (g := g) (row := none) (by repeat (first | (with_reducible first | exact HK.out | apply KeepBut.set_ | apply keep_drewN | apply keep_drew | apply keep_alloc | refine keep_far ?_ GW152.out _) | exact HK.out)))); replace HK := ak (KeepBut.trans (by repeat (first | (with_reducible first | exact HK.out | apply KeepBut.set_ | apply keep_drewN | apply keep_drew | apply keep_alloc | refine keep_far ?_ GW152.out _) | exact HK.out)) hk (.inl rfl)); replace HB := ak (hb); replace HI0 := ak (hi); (try clear hb); (try clear hb2); (try clear hk); (try clear hi); (try clear ho0)) | ((with_reducible refine gate_dst (N := 3) rfl ?_); refine box_event ?hg (N := 3) ?hd (cs := #[.int .i64 0, .slice none 0 0]) (t := 25) ?hr ?_; (case hd => rfl); (case hg => rfl); (case hr => first | (go_simp; done) | (go_simp; rfl)); intro gb158 hg w86 hbox hb; replace HO156 := ak (Kd.R_below (rk HO156) hb); replace HB := ak (below_step (by repeat (first | (with_reducible first | exact HB.out | apply below_alloc | apply pw_below_drewN | apply below_drew1 | refine below_set ?_ (IsS95.ge HI0.out) | refine below_set ?_ GE152.out) | exact HB.out)) hb); have BK158 := ak (hbox); have GW158 := ak ((by rw [hg]; exact (keep_size (w := w) (g := g) (row := none) (by repeat (first | (with_reducible first | exact HK.out | apply KeepBut.set_ | apply keep_drewN | apply keep_drew | apply keep_alloc | refine keep_far ?_ GW152.out _) | exact HK.out))) : w.heap.size ≤ gb158)); have GE158 := ak ((Nat.le_trans HW0.out (by rw [hg]; exact (keep_size (w := w) (g := g) (row := none) (by repeat (first | (with_reducible first | exact HK.out | apply KeepBut.set_ | apply keep_drewN | apply keep_drew | apply keep_alloc | refine keep_far ?_ GW152.out _) | exact HK.out))) : w.heap.size ≤ gb158) : w0.heap.size ≤ gb158)); replace HK := ak (KeepBut.trans (by repeat (first | (with_reducible first | exact HK.out | apply KeepBut.set_ | apply keep_drewN | apply keep_drew | apply keep_alloc | refine keep_far ?_ GW152.out _) | exact HK.out)) (KeepBut.of_below hb g none) (.inl rfl)); have NB152_158 := ak ((by rw [hg]; exact Nat.ne_of_lt (blk_lt (bk BK152)) : gb152 ≠ gb158)); have NB158_152 := ak ((by rw [hg]; exact Nat.ne_of_gt (blk_lt (bk BK152)) : gb158 ≠ gb152)); replace BK152 := ak (blk_below (bk BK152) hb); have NB0_158 := ak ((by rw [hg]; exact Nat.ne_of_lt (IsS95.lt (show IsS95 w0 _ g s0_0 t157 from by repeat (first | (with_reducible first | exact HI0.out | apply IsS95.alloc | apply IsS95.drewN | apply IsS95.drew | apply IsS95.set_1 | refine IsS95.far ?_ NB0_152.out _) | exact HI0.out))) : g ≠ gb158)); have NB158_0 := ak ((by rw [hg]; exact Nat.ne_of_gt (IsS95.lt (show IsS95 w0 _ g s0_0 t157 from by repeat (first | (with_reducible first | exact HI0.out | apply IsS95.alloc | apply IsS95.drewN | apply IsS95.drew | apply IsS95.set_1 | refine IsS95.far ?_ NB0_152.out _) | exact HI0.out))) : gb158 ≠ g)); replace HI0 := ak (IsS95.below (by repeat (first | (with_reducible first | exact HI0.out | apply IsS95.alloc | apply IsS95.drewN | apply IsS95.drew | apply IsS95.set_1 | refine IsS95.far ?_ NB0_152.out _) | exact HI0.out)) hb); clear hb hbox hg; have hnb87 := NB158_152.out; have hnc87 := NB152_158.out; have hnb88 := NB158_0.out; have hnc88 := NB0_158.out; have hcz89_0 := bc w86 BK158 0 (.int .i64 0) rfl; have hcz89_1 := bc w86 BK158 1 (.slice none 0 0) rfl; have hfz89_0 := fz BK158 0; have hfz89_1 := fz BK158 1; obtain ⟨Ao90, co90, eo90⟩ := Kd.R_slice HO156.out; subst eo90; have hnb91 := NB152_0.out; have hnc91 := NB0_152.out; have hcz92_0 := bc w86 BK152 0 (.int .i64 0) rfl; have hcz92_1 := bc w86 BK152 1 (.slice none 0 0) rfl; have hfz92_0 := fz BK152 0; have hfz92_1 := fz BK152 1))
  refine bodyPost_ret (results_cell_row rfl _ _ gb152 25 #[.int .i64 t153, .slice Ao90 t154.length co90] (0, 0) _ rfl (by (with_reducible repeat (first | refine blk_drewN ?_ _ | refine blk_drew ?_ | refine blk_alloc ?_ _)); refine blk_put (cs := #[.int .i64 t153, .slice none 0 0]) ?_ 1 _ rfl; refine blk_put (cs := #[.int .i64 0, .slice none 0 0]) ?_ 0 _ rfl; refine blk_far ?_ NB152_158.out _; refine blk_far ?_ NB152_158.out _; (with_reducible repeat (first | refine blk_drewN ?_ _ | refine blk_drew ?_ | refine blk_alloc ?_ _)); exact BK152.out) Try.underlying25 rfl (by kernel_rfl)) rfl ?_
  exact ⟨_, by first | rfl | (simp [errW_none, errW_some] <;> rfl) | (simp [*, errW_none, errW_some] <;> rfl), by (with_reducible repeat (first | apply Kd.R_alloc | apply Kd.R_drewN | apply Kd.R_drew)); exact Kd.R_mono (Kd.R_far (p := ⟨gb152, 1, none⟩) (Kd.R_far (p := ⟨gb152, 0, none⟩) (Kd.R_far (p := ⟨gb158, 1, none⟩) (Kd.R_far (p := ⟨gb158, 0, none⟩) (Kd.R_types (Kd.R_types HO156.out BK158.out (by decide)) BK152.out (by decide)) (fun _ hk => hk.1.2) (.int .i64 t153)) (fun _ hk => hk.1.2) (.slice Ao90 t154.length co90)) (fun _ hk => hk.2) (.int .i64 t153)) (fun _ hk => hk.2) (.slice Ao90 t154.length co90)) (fun _ hk => trivial), by repeat (first | (with_reducible first | exact HI0.out | apply IsS95.alloc | apply IsS95.drewN | apply IsS95.drew | apply IsS95.set_1 | refine IsS95.far ?_ NB0_152.out _ | refine IsS95.far ?_ NB0_158.out _) | exact HI0.out), by repeat (first | (with_reducible first | exact HB.out | apply below_alloc | apply pw_below_drewN | apply below_drew1 | refine below_set ?_ (IsS95.ge HI0.out) | refine below_set ?_ GE152.out | refine below_set ?_ GE158.out) | exact HB.out), by repeat (first | (with_reducible first | exact HK.out | apply KeepBut.set_ | apply keep_drewN | apply keep_drew | apply keep_alloc | refine keep_far ?_ GW152.out _ | refine keep_far ?_ GW158.out _) | exact HK.out)⟩
 rw [if_pos c3] at H
 have c3b0 : decide (0 < (t154.length : Int)) = true := decide_eq_true c3
 have c3b1 : decide (0 < t154.length) = true := decide_eq_true (by omega)
 clear c3
 replace H := Option.bind_eq_some_iff.mp H
 obtain ⟨⟨t159, t160⟩, A40, H⟩ := H
 have A4 := ak A40
 clear A40
 replace H := Option.bind_eq_some_iff.mp H
 obtain ⟨⟨t161, t162⟩, A50, H⟩ := H
 have A5 := ak A50
 clear A50
 by_cases c6 : t161 = 0
 ·rw [if_pos c6] at H
  have c6b0 : (t161 == 0) = true := beq_iff_eq.mpr c6
  have c6b1 : (t161 != 0) = false := bne_eq_false_iff_eq.mpr c6
  clear c6
  by_cases c7 : 0 ≤ t159
  rotate_left
  ·rw [if_neg c7] at H
   exact absurd H (by simp)
  rw [if_pos c7] at H
  have c7b0 : decide (0 ≤ t159) = true := decide_eq_true c7
  clear c7
  by_cases c8 : t159 < (t154.length : Int)
  rotate_left
  ·rw [if_neg c8] at H
   exact absurd H (by simp)
  rw [if_pos c8] at H
  have c8b0 : decide (t159 < (t154.length : Int)) = true := decide_eq_true c8
  clear c8
  obtain ⟨y164, hy164⟩ : ∃ y_ : List Int, y_ = (([(-1), 8, (rd_T58 t154 t159).f0] : List Int)) := ⟨_, rfl⟩
  replace H : ((spec_l30Rd_one.f k s0_0 t162 y164).bind fun bt167 => (some (t153, (t154.set (t159 : Int).toNat (⟨(rd_T58 t154 t159).f0, bt167.1, (rd_T58 t154 t159).f2, (rd_T58 t154 t159).f3, (rd_T58 t154 t159).f4⟩ : S58)), bt167.2))) = some (r1, r2, r3) := by first | (rw [hy164]; with_reducible exact H) | (have H2_ := (Option.bind_some _ _).symm.trans H; rw [hy164]; with_reducible exact H2_) | (have H2_ := (Option.bind_some _ _).symm.trans H; with_reducible exact H2_) | with_reducible exact H | (rw [hy164]; exact H) | exact H
  have Ny164 := ak hy164
  clear hy164
  replace H := Option.bind_eq_some_iff.mp H
  obtain ⟨⟨t167, t168⟩, A90, H⟩ := H
  have A9 := ak A90
  clear A90
  obtain ⟨y169, hy169⟩ : ∃ y_ : List (S58), y_ = (t154.set (t159 : Int).toNat (⟨(rd_T58 t154 t159).f0, t167, (rd_T58 t154 t159).f2, (rd_T58 t154 t159).f3, (rd_T58 t154 t159).f4⟩ : S58)) := ⟨_, rfl⟩
  replace H : (some (t153, y169, t168)) = some (r1, r2, r3) := by first | (rw [hy169]; with_reducible exact H) | (have H2_ := (Option.bind_some _ _).symm.trans H; rw [hy169]; with_reducible exact H2_) | (have H2_ := (Option.bind_some _ _).symm.trans H; with_reducible exact H2_) | with_reducible exact H | (rw [hy169]; exact H) | exact H
  have Ny169 := ak hy169
  clear hy169
  simp only [Option.some.injEq, Prod.mk.injEq] at H
  obtain ⟨rfl, rfl, rfl⟩ := H
  go_enter Try.func45, Try.ntmps45
  try go_wp2_with (first | ((with_reducible refine gate_dst (N := 2) rfl ?_); refine box_event ?hg (N := 2) ?hd (cs := #[.int .i64 0, .slice none 0 0]) (t := 25) ?hr ?_; (case hd => rfl); (case hg => rfl); (case hr => first | (go_simp; done) | (go_simp; rfl)); intro gb152 hg w11 hbox hb; replace HB := ak (below_step (by repeat (first | (with_reducible first | exact HB.out | apply below_alloc | apply pw_below_drewN | apply below_drew1 | refine below_set ?_ (IsS95.ge HI0.out)) | exact HB.out)) hb); have BK152 := ak (hbox); have GW152 := ak ((by rw [hg]; exact (keep_size (w := w) (g := g) (row := none) (by repeat (first | (with_reducible first | exact HK.out | apply KeepBut.set_ | apply keep_drewN | apply keep_drew | apply keep_alloc) | exact HK.out))) : w.heap.size ≤ gb152)); have GE152 := ak ((Nat.le_trans HW0.out (by rw [hg]; exact (keep_size (w := w) (g := g) (row := none) (by repeat (first | (with_reducible first | exact HK.out | apply KeepBut.set_ | apply keep_drewN | apply keep_drew | apply keep_alloc) | exact HK.out))) : w.heap.size ≤ gb152) : w0.heap.size ≤ gb152)); replace HK := ak (KeepBut.trans (by repeat (first | (with_reducible first | exact HK.out | apply KeepBut.set_ | apply keep_drewN | apply keep_drew | apply keep_alloc) | exact HK.out)) (KeepBut.of_below hb g none) (.inl rfl)); have NB0_152 := ak ((by rw [hg]; exact Nat.ne_of_lt (IsS95.lt (show IsS95 w0 _ g s0_0 s0_1 from by repeat (first | (with_reducible first | exact HI0.out | apply IsS95.alloc | apply IsS95.drewN | apply IsS95.drew | apply IsS95.set_1) | exact HI0.out))) : g ≠ gb152)); have NB152_0 := ak ((by rw [hg]; exact Nat.ne_of_gt (IsS95.lt (show IsS95 w0 _ g s0_0 s0_1 from by repeat (first | (with_reducible first | exact HI0.out | apply IsS95.alloc | apply IsS95.drewN | apply IsS95.drew | apply IsS95.set_1) | exact HI0.out))) : gb152 ≠ g)); replace HI0 := ak (IsS95.below (by repeat (first | (with_reducible first | exact HI0.out | apply IsS95.alloc | apply IsS95.drewN | apply IsS95.drew | apply IsS95.set_1) | exact HI0.out)) hb); clear hb hbox hg) | ((with_reducible refine gate_callee (f := 86) rfl ?_); refine goesL_ (some 6) rfl rfl Try.func86 (by kernel_rfl) rfl #[.pointer (some ⟨g, 0, none⟩)] rfl (by (try simp only [List.map_toArray, List.map_cons, List.map_nil]); first | done | rfl | (simp only [List.length_drop, List.length_take]; rfl)) ?_; (with_reducible refine (spec_l30Net.calls k g s0_0 s0_1 t153 t154 t157 w0 _ ?side1 ?side2 A2.out).mono ?_); (case side1 => repeat (first | (with_reducible first | exact HI0.out | apply IsS95.alloc | apply IsS95.drewN | apply IsS95.drew | apply IsS95.set_1 | refine IsS95.far ?_ NB0_152.out _) | exact HI0.out)); (case side2 => repeat (first | (with_reducible first | exact HB.out | apply below_alloc | apply pw_below_drewN | apply below_drew1 | refine below_set ?_ (IsS95.ge HI0.out) | refine below_set ?_ GE152.out) | exact HB.out)); rintro e w12 ⟨v155, rfl, ho0, hi, hb, hk⟩; refine ⟨_, rfl, ?_⟩; replace BK152 := ak (KeepBut.blk hk (g' := gb152) (o := .cells #[.int .i64 0, .slice none 0 0] 25 (0, 0)) (bk BK152) NB152_0.out (by simp)); have HO156 := ak (Kd.R_lower ho0 (keep_size (w := w) (g := g) (row := none) (by repeat (first | (with_reducible first | exact HK.out | apply KeepBut.set_ | apply keep_drewN | apply keep_drew | apply keep_alloc | refine keep_far ?_ GW152.out _) | exact HK.out)))); replace HK := ak (KeepBut.trans (by repeat (first | (with_reducible first | exact HK.out | apply KeepBut.set_ | apply keep_drewN | apply keep_drew | apply keep_alloc | refine keep_far ?_ GW152.out _) | exact HK.out)) hk (.inl rfl)); replace HB := ak (hb); replace HI0 := ak (hi); (try clear hb); (try clear hb2); (try clear hk); (try clear hi); (try clear ho0)) | ((with_reducible refine gate_dst (N := 3) rfl ?_); refine box_event ?hg (N := 3) ?hd (cs := #[.int .i64 0, .slice none 0 0]) (t := 25) ?hr ?_; (case hd => rfl); (case hg => rfl); (case hr => first | (go_simp; done) | (go_simp; rfl)); intro gb158 hg w13 hbox hb; replace HO156 := ak (Kd.R_below (rk HO156) hb); replace HB := ak (below_step (by repeat (first | (with_reducible first | exact HB.out | apply below_alloc | apply pw_below_drewN | apply below_drew1 | refine below_set ?_ (IsS95.ge HI0.out) | refine below_set ?_ GE152.out) | exact HB.out)) hb); have BK158 := ak (hbox); have GW158 := ak ((by rw [hg]; exact (keep_size (w := w) (g := g) (row := none) (by repeat (first | (with_reducible first | exact HK.out | apply KeepBut.set_ | apply keep_drewN | apply keep_drew | apply keep_alloc | refine keep_far ?_ GW152.out _) | exact HK.out))) : w.heap.size ≤ gb158)); have GE158 := ak ((Nat.le_trans HW0.out (by rw [hg]; exact (keep_size (w := w) (g := g) (row := none) (by repeat (first | (with_reducible first | exact HK.out | apply KeepBut.set_ | apply keep_drewN | apply keep_drew | apply keep_alloc | refine keep_far ?_ GW152.out _) | exact HK.out))) : w.heap.size ≤ gb158) : w0.heap.size ≤ gb158)); replace HK := ak (KeepBut.trans (by repeat (first | (with_reducible first | exact HK.out | apply KeepBut.set_ | apply keep_drewN | apply keep_drew | apply keep_alloc | refine keep_far ?_ GW152.out _) | exact HK.out)) (KeepBut.of_below hb g none) (.inl rfl)); have NB152_158 := ak ((by rw [hg]; exact Nat.ne_of_lt (blk_lt (bk BK152)) : gb152 ≠ gb158)); have NB158_152 := ak ((by rw [hg]; exact Nat.ne_of_gt (blk_lt (bk BK152)) : gb158 ≠ gb152)); replace BK152 := ak (blk_below (bk BK152) hb); have NB0_158 := ak ((by rw [hg]; exact Nat.ne_of_lt (IsS95.lt (show IsS95 w0 _ g s0_0 t157 from by repeat (first | (with_reducible first | exact HI0.out | apply IsS95.alloc | apply IsS95.drewN | apply IsS95.drew | apply IsS95.set_1 | refine IsS95.far ?_ NB0_152.out _) | exact HI0.out))) : g ≠ gb158)); have NB158_0 := ak ((by rw [hg]; exact Nat.ne_of_gt (IsS95.lt (show IsS95 w0 _ g s0_0 t157 from by repeat (first | (with_reducible first | exact HI0.out | apply IsS95.alloc | apply IsS95.drewN | apply IsS95.drew | apply IsS95.set_1 | refine IsS95.far ?_ NB0_152.out _) | exact HI0.out))) : gb158 ≠ g)); replace HI0 := ak (IsS95.below (by repeat (first | (with_reducible first | exact HI0.out | apply IsS95.alloc | apply IsS95.drewN | apply IsS95.drew | apply IsS95.set_1 | refine IsS95.far ?_ NB0_152.out _) | exact HI0.out)) hb); clear hb hbox hg; have hnb14 := NB158_152.out; have hnc14 := NB152_158.out; have hnb15 := NB158_0.out; have hnc15 := NB0_158.out; have hcz16_0 := bc w13 BK158 0 (.int .i64 0) rfl; have hcz16_1 := bc w13 BK158 1 (.slice none 0 0) rfl; have hfz16_0 := fz BK158 0; have hfz16_1 := fz BK158 1; obtain ⟨Ao17, co17, eo17⟩ := Kd.R_slice HO156.out; subst eo17) | ((with_reducible refine gate_callee (f := 87) rfl ?_); refine goesL_ (some 15) rfl rfl Try.func87 (by kernel_rfl) rfl #[.pointer (some ⟨g, 0, none⟩), .int .i64 (t154.length : Int)] rfl (by (try simp only [List.map_toArray, List.map_cons, List.map_nil]); first | done | rfl | (simp only [List.length_drop, List.length_take]; rfl)) ?_; (with_reducible refine (spec_l30Rd_pick.calls k g s0_0 t157 (t154.length : Int) t159 t160 w0 _ ?side1 ?side2 A4.out).mono ?_); (case side1 => repeat (first | (with_reducible first | exact HI0.out | apply IsS95.alloc | apply IsS95.drewN | apply IsS95.drew | apply IsS95.set_1 | refine IsS95.far ?_ NB0_152.out _ | refine IsS95.far ?_ NB0_158.out _) | exact HI0.out)); (case side2 => repeat (first | (with_reducible first | exact HB.out | apply below_alloc | apply pw_below_drewN | apply below_drew1 | refine below_set ?_ (IsS95.ge HI0.out) | refine below_set ?_ GE152.out | refine below_set ?_ GE158.out) | exact HB.out)); rintro e w18 ⟨rfl, hi, hb, hk⟩; refine ⟨_, rfl, ?_⟩; replace BK152 := ak (KeepBut.blk hk (g' := gb152) (o := .cells #[.int .i64 0, .slice none 0 0] 25 (0, 0)) (by (with_reducible repeat (first | refine blk_drewN ?_ _ | refine blk_drew ?_ | refine blk_alloc ?_ _)); refine blk_far ?_ NB152_158.out _; refine blk_far ?_ NB152_158.out _; (with_reducible repeat (first | refine blk_drewN ?_ _ | refine blk_drew ?_ | refine blk_alloc ?_ _)); exact BK152.out) NB152_0.out (by simp)); replace HO156 := ak (Kd.R_mono (Kd.R_keep (IsS95.apart (show IsS95 w0 _ g s0_0 t157 from by repeat (first | (with_reducible first | exact HI0.out | apply IsS95.alloc | apply IsS95.drewN | apply IsS95.drew | apply IsS95.set_1 | refine IsS95.far ?_ NB0_152.out _ | refine IsS95.far ?_ NB0_158.out _) | exact HI0.out)) (by (with_reducible repeat (first | apply Kd.R_alloc | apply Kd.R_drewN | apply Kd.R_drew)); exact (Kd.R_mono (Kd.R_far (p := ⟨gb158, 1, none⟩) (Kd.R_far (p := ⟨gb158, 0, none⟩) (Kd.R_types HO156.out BK158.out (by decide)) (fun _ hk => hk.2) (.int .i64 t153)) (fun _ hk => hk.2) (.slice Ao17 t154.length co17)) (fun _ h_ => h_.1))) (by decide)) hk (fun _ h => h.2)) (fun _ h => h.1)); replace BK158 := ak (KeepBut.blk hk (g' := gb158) (o := .cells #[.int .i64 t153, .slice Ao17 t154.length co17] 25 (0, 0)) (by (with_reducible repeat (first | refine blk_drewN ?_ _ | refine blk_drew ?_ | refine blk_alloc ?_ _)); refine blk_put (cs := #[.int .i64 t153, .slice none 0 0]) ?_ 1 _ rfl; refine blk_put (cs := #[.int .i64 0, .slice none 0 0]) ?_ 0 _ rfl; (with_reducible repeat (first | refine blk_drewN ?_ _ | refine blk_drew ?_ | refine blk_alloc ?_ _)); exact BK158.out) NB158_0.out (by simp)); replace HK := ak (KeepBut.trans (by repeat (first | (with_reducible first | exact HK.out | apply KeepBut.set_ | apply keep_drewN | apply keep_drew | apply keep_alloc | refine keep_far ?_ GW152.out _ | refine keep_far ?_ GW158.out _) | exact HK.out)) hk (.inl rfl)); replace HB := ak (hb); replace HI0 := ak (hi); (try clear hb); (try clear hb2); (try clear hk); (try clear hi)) | ((with_reducible refine gate_callee (f := 87) rfl ?_); refine goesL_ (some 17) rfl rfl Try.func87 (by kernel_rfl) rfl #[.pointer (some ⟨g, 0, none⟩), .int .i64 16] rfl (by (try simp only [List.map_toArray, List.map_cons, List.map_nil]); first | done | rfl | (simp only [List.length_drop, List.length_take]; rfl)) ?_; (with_reducible refine (spec_l30Rd_pick.calls k g s0_0 t160 16 t161 t162 w0 _ ?side1 ?side2 A5.out).mono ?_); (case side1 => repeat (first | (with_reducible first | exact HI0.out | apply IsS95.alloc | apply IsS95.drewN | apply IsS95.drew | apply IsS95.set_1 | refine IsS95.far ?_ NB0_152.out _ | refine IsS95.far ?_ NB0_158.out _) | exact HI0.out)); (case side2 => repeat (first | (with_reducible first | exact HB.out | apply below_alloc | apply pw_below_drewN | apply below_drew1 | refine below_set ?_ (IsS95.ge HI0.out) | refine below_set ?_ GE152.out | refine below_set ?_ GE158.out) | exact HB.out)); rintro e w19 ⟨rfl, hi, hb, hk⟩; refine ⟨_, rfl, ?_⟩; replace BK152 := ak (KeepBut.blk hk (g' := gb152) (o := .cells #[.int .i64 0, .slice none 0 0] 25 (0, 0)) (bk BK152) NB152_0.out (by simp)); replace HO156 := ak (Kd.R_mono (Kd.R_keep (IsS95.apart (show IsS95 w0 _ g s0_0 t160 from by repeat (first | (with_reducible first | exact HI0.out | apply IsS95.alloc | apply IsS95.drewN | apply IsS95.drew | apply IsS95.set_1 | refine IsS95.far ?_ NB0_152.out _ | refine IsS95.far ?_ NB0_158.out _) | exact HI0.out)) (rk HO156) (by decide)) hk (fun _ h => h.2)) (fun _ h => h.1)); replace BK158 := ak (KeepBut.blk hk (g' := gb158) (o := .cells #[.int .i64 t153, .slice Ao17 t154.length co17] 25 (0, 0)) (bk BK158) NB158_0.out (by simp)); replace HK := ak (KeepBut.trans (by repeat (first | (with_reducible first | exact HK.out | apply KeepBut.set_ | apply keep_drewN | apply keep_drew | apply keep_alloc | refine keep_far ?_ GW152.out _ | refine keep_far ?_ GW158.out _) | exact HK.out)) hk (.inl rfl)); replace HB := ak (hb); replace HI0 := ak (hi); (try clear hb); (try clear hb2); (try clear hk); (try clear hi)))
  replace HO156 := ak (Kd.R_drew HO156.out)
  replace BK152 := ak (blk_drew BK152.out)
  replace BK158 := ak (blk_drew BK158.out)
  replace HI0 := ak (IsS95.drew HI0.out)
  replace HK := ak (keep_drew HK.out)
  replace HB := ak (below_drew1 HB.out)
  have p163 : 0 ≤ (t159 : Int) := oT (by first | (with_reducible assumption) | assumption)
  have q163 : t159 < (t154.length : Int) := oT (by first | (with_reducible assumption) | assumption)
  obtain ⟨ad163, e163, hx163_0, hx163_1, hx163_2, hx163_3, hx163_4⟩ := at_T58 (Kd.R_reads' HO156.out).2.2 t159 p163 q163
  cases e163
  replace p163 := eq_true p163
  replace q163 := eq_true q163
  refine start_ (n := 15) (S := fun w' => w'.cell? ⟨gb158, 0, none⟩ = some (.int .i64 t153) ∧ w'.cell? ⟨gb158, 1, none⟩ = some (.slice (some ad163) t154.length co17) ∧ w'.cell? (ad163.add ((t159).toNat * 5)) = some (.int .i64 ((rd_T58 t154 t159).f0)) ∧ w'.cell? ⟨(ad163.add ((t159).toNat * 5)).block, (ad163.add ((t159).toNat * 5)).off + 1, none⟩ = some (.int .i64 ((rd_T58 t154 t159).f1)) ∧ w'.cell? ⟨(ad163.add ((t159).toNat * 5)).block, (ad163.add ((t159).toNat * 5)).off + 2, none⟩ = some (.int .i64 ((rd_T58 t154 t159).f2)) ∧ w'.cell? ⟨(ad163.add ((t159).toNat * 5)).block, (ad163.add ((t159).toNat * 5)).off + 3, none⟩ = some (.int .i64 ((rd_T58 t154 t159).f3)) ∧ w'.cell? ⟨(ad163.add ((t159).toNat * 5)).block, (ad163.add ((t159).toNat * 5)).off + 4, none⟩ = some (.int .i64 ((rd_T58 t154 t159).f4))) (ds := [14]) (ms 15 0) (by kernel_rfl) rfl (by kernel_rfl) ⟨(blk_cell BK158.out 0).trans rfl, (blk_cell BK158.out 1).trans rfl, hx163_0, hx163_1, hx163_2, hx163_3, hx163_4⟩ (fun hHeld => ?_); refine with_tabW spec_l30AnyNet.tab6 spec_l30AnyNet.bits6 (fun HT_ HW_ => ?_)
  generalize w19.drew = w20 at HO156 BK152 BK158 HI0 HK HB hx163_0 hx163_1 hx163_2 hx163_3 hx163_4 hHeld ⊢
  refine pu 0 20 ?_ (ms 15 1) rfl rfl HT_ (by kernel_rfl) (fun _ _ _ h => h) (by rfl) ?_ ?_ ?_ ?_
  rotate_left
  ·intro w'
   go_simp
   with_reducible rfl
  rotate_left
  ·simp only [SX]
   rfl
  refine pu 2 22 ?_ (ms 15 5) rfl rfl HT_ (by kernel_rfl) (fun _ _ _ h => h) (by rfl) ?_ ?_ ?_ ?_
  rotate_left
  ·intro w'
   go_simp
   with_reducible rfl
  rotate_left
  ·simp only [SX]
   rfl
  refine pu 3 23 ?_ (ms 15 13) rfl rfl HT_ (by kernel_rfl) (fun _ _ _ h => h) (by rfl) ?_ ?_ ?_ ?_
  rotate_left
  ·intro w'
   go_simp
   with_reducible rfl
  rotate_left
  ·simp only [SX]
   rfl
  refine pu 4 24 ?_ (ms 15 29) rfl rfl HT_ (by kernel_rfl) (fun _ _ _ h => h) (by rfl) ?_ ?_ ?_ ?_
  rotate_left
  ·intro w'
   go_simp
   with_reducible rfl
  rotate_left
  ·simp only [SX]
   rfl
  refine pu 6 26 ?_ (ms 15 93) rfl rfl HT_ (by kernel_rfl) (fun _ _ _ h => h) (by rfl) ?_ ?_ ?_ ?_
  rotate_left
  ·intro w'
   go_simp
   with_reducible rfl
  rotate_left
  ·simp only [SX]
   rfl
  refine tk 1 21 ?_ (ms 15 95) rfl rfl HT_ HW_ (by kernel_rfl) (fun _ _ _ h => h) (by rfl) ?_ hHeld ?_ ?_ ?_
  rotate_left
  ·rintro w' ⟨s0, s1, s2, s3, s4, s5, s6⟩
   go_simp
   with_reducible rfl
  rotate_left
  ·simp only [SX]
   rfl
  refine tk 5 25 ?_ (ms 15 127) rfl rfl HT_ HW_ (by kernel_rfl) (fun _ _ _ h => h) (by rfl) ?_ hHeld ?_ ?_ ?_
  rotate_left
  ·rintro w' ⟨s0, s1, s2, s3, s4, s5, s6⟩
   go_simp
   with_reducible rfl
  rotate_left
  ·simp only [SX]
   rfl
  refine pu 7 27 ?_ (ms 15 255) rfl rfl HT_ (by kernel_rfl) (fun _ _ _ h => h) (by rfl) ?_ ?_ ?_ ?_
  rotate_left
  ·intro w'
   go_simp
   with_reducible rfl
  rotate_left
  ·simp only [SX]
   rfl
  refine pu 8 28 ?_ (ms 15 511) rfl rfl HT_ (by kernel_rfl) (fun _ _ _ h => h) (by rfl) ?_ ?_ ?_ ?_
  rotate_left
  ·intro w'
   go_simp
   with_reducible rfl
  rotate_left
  ·simp only [SX]
   rfl
  refine tk 9 29 ?_ (ms 15 1023) rfl rfl HT_ HW_ (by kernel_rfl) (fun _ _ _ h => h) (by rfl) ?_ hHeld ?_ ?_ ?_
  rotate_left
  ·rintro w' ⟨s0, s1, s2, s3, s4, s5, s6⟩
   go_simp
   with_reducible rfl
  rotate_left
  ·simp only [SX]
   rfl
  refine one_ (i := 10) (N := some 30) (ms 15 2047) rfl rfl (one_of HT_.out (by kernel_rfl)) (by decide) (fun K hK => ?_)
  refine Kd.R_lit_step (Kd.int .i64) _ 3 ?hg (N := 30) ?hd (xs := ([(-1), 8, (rd_T58 t154 t159).f0] : List Int)) (inner := [.int .i64 (-1), .int .i64 8, .int .i64 ((rd_T58 t154 t159).f0)]) (ok := fun _ => True) (okp := fun _ => True) ?hr ?hp (fun _ hk => hk) trivial (Below.refl _ _) (Nat.le_refl _) (by simp) ?_; (case hd => rfl); (case hg => rfl); (case hr => first | (go_simp; done) | (go_simp; rfl)); (case hp => exact (Reps.one (show Kd.M (Kd.int .i64) _ _ _ (-1) [.int .i64 (-1)] from rfl) (Reps.one (show Kd.M (Kd.int .i64) _ _ _ 8 [.int .i64 8] from rfl) (Reps.one (show Kd.M (Kd.int .i64) _ _ _ ((rd_T58 t154 t159).f0) [.int .i64 ((rd_T58 t154 t159).f0)] from rfl) (Reps.none _ _)))))
  intro v165 w21 ho22 hb hg_ hnew_
  have HS2_ := (hb.cell (World.block_lt_of_cell? _ _ (hHeld.2.2.1))).trans (hHeld.2.2.1)
  have HS3_ := (hb.cell (World.block_lt_of_cell? _ _ (hHeld.2.2.2.1))).trans (hHeld.2.2.2.1)
  have HS4_ := (hb.cell (World.block_lt_of_cell? _ _ (hHeld.2.2.2.2.1))).trans (hHeld.2.2.2.2.1)
  have HS5_ := (hb.cell (World.block_lt_of_cell? _ _ (hHeld.2.2.2.2.2.1))).trans (hHeld.2.2.2.2.2.1)
  have HS6_ := (hb.cell (World.block_lt_of_cell? _ _ (hHeld.2.2.2.2.2.2))).trans (hHeld.2.2.2.2.2.2)
  clear hg_ hnew_
  (first | rw [← Ny164.out] at ho22 | (simp only [Int.reduceToNat] at ho22; rw [← Ny164.out] at ho22))
  replace HO156 := ak (Kd.R_below (rk HO156) hb)
  have HO166 := ak (Kd.R_lower ho22 (keep_size (w := w) (g := g) (row := none) (by repeat (first | (with_reducible first | exact HK.out | apply KeepBut.set_ | apply keep_drewN | apply keep_drew | apply keep_alloc | refine keep_far ?_ GW152.out _ | refine keep_far ?_ GW158.out _) | exact HK.out))))
  replace BK152 := ak (blk_below (bk BK152) hb)
  replace BK158 := ak (blk_below (bk BK158) hb)
  replace HK := ak (KeepBut.trans (by repeat (first | (with_reducible first | exact HK.out | apply KeepBut.set_ | apply keep_drewN | apply keep_drew | apply keep_alloc | refine keep_far ?_ GW152.out _ | refine keep_far ?_ GW158.out _) | exact HK.out)) (KeepBut.of_below hb g none) (.inl rfl))
  replace HB := ak (below_step (by repeat (first | (with_reducible first | exact HB.out | apply below_alloc | apply pw_below_drewN | apply below_drew1 | refine below_set ?_ (IsS95.ge HI0.out) | refine below_set ?_ GE152.out | refine below_set ?_ GE158.out) | exact HB.out)) hb)
  replace HI0 := ak (IsS95.below (by repeat (first | (with_reducible first | exact HI0.out | apply IsS95.alloc | apply IsS95.drewN | apply IsS95.drew | apply IsS95.set_1 | refine IsS95.far ?_ NB0_152.out _ | refine IsS95.far ?_ NB0_158.out _) | exact HI0.out)) hb)
  clear hb ho22
  obtain ⟨Ao23, co23, eo23⟩ := Kd.R_slice HO166.out
  (first | subst eo23 | (injection eo23 with f1_ f2_ f3_; have f4_ := f1_.symm; have f5_ := f3_.symm; clear f1_ f2_ f3_; subst f4_; subst f5_))
  refine hK.out _ _ ⟨(blk_cell BK158.out 0).trans rfl, (blk_cell BK158.out 1).trans rfl, HS2_, HS3_, HS4_, HS5_, HS6_⟩ (fun hHeld => ?_)
  clear hK K
  refine norm_ (a' := ?_) ?_ ?_
  rotate_left
  ·show Act.put _ (some 30) _ = _
   simp only [SX]
   rfl
  refine one_ (i := 11) (N := some 31) (ms 15 4095) rfl rfl (one_of HT_.out (by kernel_rfl)) (by decide) (fun K hK => ?_)
  refine goes_ Try.func47 (by kernel_rfl) rfl #[.pointer (some ⟨g, 0, none⟩), .slice Ao23 y164.length co23] (by rfl) rfl rfl (by (try simp only [List.map_toArray, List.map_cons, List.map_nil]); first | done | rfl | (simp only [List.length_drop, List.length_take]; rfl)) ?_
  with_reducible refine (spec_l30Rd_one.calls k g s0_0 t162 _ _ y164 t167 t168 w0 _ ?side1 ?side2 ?side3 ?side4 ?side5 A9.out).mono ?_
  (case side1 => repeat (first | (with_reducible first | exact HI0.out | apply IsS95.alloc | apply IsS95.drewN | apply IsS95.drew | apply IsS95.set_1 | refine IsS95.far ?_ NB0_152.out _ | refine IsS95.far ?_ NB0_158.out _) | exact HI0.out))
  (case side2 => repeat (first | (with_reducible first | exact HB.out | apply below_alloc | apply pw_below_drewN | apply below_drew1 | refine below_set ?_ (IsS95.ge HI0.out) | refine below_set ?_ GE152.out | refine below_set ?_ GE158.out) | exact HB.out))
  (case side3 => repeat (first | exact (Kd.R_reads' HO166.out).2.2 | (with_reducible refine Kd.C_alloc ?_ _) | (with_reducible refine Kd.C_drewN ?_ _) | (with_reducible refine Kd.C_drew ?_)))
  (case side4 => exact (Kd.R_reads' HO166.out).2.1)
  (case side5 => exact far_slice (IsS95.own_ne HI0.out HO166.out (by decide)))
  rintro e w24 ⟨rfl, hi, hb, hk⟩
  have HS2_ := keep_cell hk (hHeld.2.2.1) (by first | (rw [add_block]; exact Kd.own_blk (IsS95.own_ne HI0.out HO156.out (by decide))) | (show (Addr.add _ _).block ≠ _; rw [add_block]; exact Kd.own_blk (IsS95.own_ne HI0.out HO156.out (by decide))) | exact Kd.own_blk (IsS95.own_ne HI0.out HO156.out (by decide)))
  have HS3_ := keep_cell hk (hHeld.2.2.2.1) (by first | (rw [add_block]; exact Kd.own_blk (IsS95.own_ne HI0.out HO156.out (by decide))) | (show (Addr.add _ _).block ≠ _; rw [add_block]; exact Kd.own_blk (IsS95.own_ne HI0.out HO156.out (by decide))) | exact Kd.own_blk (IsS95.own_ne HI0.out HO156.out (by decide)))
  have HS4_ := keep_cell hk (hHeld.2.2.2.2.1) (by first | (rw [add_block]; exact Kd.own_blk (IsS95.own_ne HI0.out HO156.out (by decide))) | (show (Addr.add _ _).block ≠ _; rw [add_block]; exact Kd.own_blk (IsS95.own_ne HI0.out HO156.out (by decide))) | exact Kd.own_blk (IsS95.own_ne HI0.out HO156.out (by decide)))
  have HS5_ := keep_cell hk (hHeld.2.2.2.2.2.1) (by first | (rw [add_block]; exact Kd.own_blk (IsS95.own_ne HI0.out HO156.out (by decide))) | (show (Addr.add _ _).block ≠ _; rw [add_block]; exact Kd.own_blk (IsS95.own_ne HI0.out HO156.out (by decide))) | exact Kd.own_blk (IsS95.own_ne HI0.out HO156.out (by decide)))
  have HS6_ := keep_cell hk (hHeld.2.2.2.2.2.2) (by first | (rw [add_block]; exact Kd.own_blk (IsS95.own_ne HI0.out HO156.out (by decide))) | (show (Addr.add _ _).block ≠ _; rw [add_block]; exact Kd.own_blk (IsS95.own_ne HI0.out HO156.out (by decide))) | exact Kd.own_blk (IsS95.own_ne HI0.out HO156.out (by decide)))
  refine ⟨_, rfl, ?_⟩
  replace BK152 := ak (KeepBut.blk hk (g' := gb152) (o := .cells #[.int .i64 0, .slice none 0 0] 25 (0, 0)) (bk BK152) NB152_0.out (by simp))
  replace HO156 := ak (Kd.R_mono (Kd.R_keep (IsS95.apart (show IsS95 w0 _ g s0_0 t162 from by repeat (first | (with_reducible first | exact HI0.out | apply IsS95.alloc | apply IsS95.drewN | apply IsS95.drew | apply IsS95.set_1 | refine IsS95.far ?_ NB0_152.out _ | refine IsS95.far ?_ NB0_158.out _) | exact HI0.out)) (rk HO156) (by decide)) hk (fun _ h => h.2)) (fun _ h => h.1))
  replace BK158 := ak (KeepBut.blk hk (g' := gb158) (o := .cells #[.int .i64 t153, .slice (some ad163) t154.length co17] 25 (0, 0)) (bk BK158) NB158_0.out (by simp))
  replace HO166 := ak (Kd.R_mono (Kd.R_keep (IsS95.apart (show IsS95 w0 _ g s0_0 t162 from by repeat (first | (with_reducible first | exact HI0.out | apply IsS95.alloc | apply IsS95.drewN | apply IsS95.drew | apply IsS95.set_1 | refine IsS95.far ?_ NB0_152.out _ | refine IsS95.far ?_ NB0_158.out _) | exact HI0.out)) (rk HO166) (by decide)) hk (fun _ h => h.2)) (fun _ h => h.1))
  replace HK := ak (KeepBut.trans (by repeat (first | (with_reducible first | exact HK.out | apply KeepBut.set_ | apply keep_drewN | apply keep_drew | apply keep_alloc | refine keep_far ?_ GW152.out _ | refine keep_far ?_ GW158.out _) | exact HK.out)) hk (.inl rfl))
  replace HB := ak (hb)
  replace HI0 := ak (hi)
  (try clear hb)
  (try clear hb2)
  (try clear hk)
  (try clear hi)
  have p10 : 0 ≤ (t159 : Int) := oT (by first | (with_reducible assumption) | assumption)
  have q10 : (t159 : Int) < ((t154.length : Int) : Int) := oT (by first | (with_reducible assumption) | assumption)
  obtain ⟨go10, co10, eo10, gb10, gl10, cl10, HG10⟩ := Kd.R_form HO156.out (by omega)
  (first | cases eo10 | (injection eo10 with ea_ en_ ec_; (first | subst ea_ | (injection ea_ with ea_; subst ea_)); subst ec_; clear en_))
  have GB10 := ak gb10
  have GG10 := ak HG10
  clear gb10 gl10 HG10
  (first | simp only [add_plain] at hx163_0 | skip)
  (first | simp only [add_plain] at hx163_1 | skip)
  (first | simp only [add_plain] at hx163_2 | skip)
  (first | simp only [add_plain] at hx163_3 | skip)
  (first | simp only [add_plain] at hx163_4 | skip)
  obtain ⟨ce10, hcl10, hM10, hcc10, hfr10⟩ := Kd.R_elem HO156.out z58 (t159 : Int) p10 q10
  obtain rfl := k58_openM hM10
  have hx10_0 : World.cell? _ ⟨go10, (t159 : Int).toNat * 5, none⟩ = some (.int .i64 ((rd_T58 t154 t159).f0)) := hcc10 0 _ rfl
  have hx10_1 : World.cell? _ ⟨go10, (t159 : Int).toNat * 5 + 1, none⟩ = some (.int .i64 ((rd_T58 t154 t159).f1)) := hcc10 1 _ rfl
  have hx10_2 : World.cell? _ ⟨go10, (t159 : Int).toNat * 5 + 2, none⟩ = some (.int .i64 ((rd_T58 t154 t159).f2)) := hcc10 2 _ rfl
  have hx10_3 : World.cell? _ ⟨go10, (t159 : Int).toNat * 5 + 3, none⟩ = some (.int .i64 ((rd_T58 t154 t159).f3)) := hcc10 3 _ rfl
  have hx10_4 : World.cell? _ ⟨go10, (t159 : Int).toNat * 5 + 4, none⟩ = some (.int .i64 ((rd_T58 t154 t159).f4)) := hcc10 4 _ rfl
  have hf10_0 : World.frozen? _ ⟨go10, (t159 : Int).toNat * 5, none⟩ = false := hfr10 0
  have hf10_1 : World.frozen? _ ⟨go10, (t159 : Int).toNat * 5 + 1, none⟩ = false := hfr10 1
  have hf10_2 : World.frozen? _ ⟨go10, (t159 : Int).toNat * 5 + 2, none⟩ = false := hfr10 2
  have hf10_3 : World.frozen? _ ⟨go10, (t159 : Int).toNat * 5 + 3, none⟩ = false := hfr10 3
  have hf10_4 : World.frozen? _ ⟨go10, (t159 : Int).toNat * 5 + 4, none⟩ = false := hfr10 4
  clear hcl10 hcc10 hfr10 hM10
  replace p10 := eq_true p10
  replace q10 := eq_true q10
  have HN0_go10 := ak (show g ≠ go10 from by have h_ := IsS95.own_ne HI0.out HO156.out (by decide); intro e_; exact h_ (by rw [e_]; rfl))
  obtain ⟨ce25, hcl25, hM25, hcc25, hfr25⟩ := Kd.R_elem HO156.out z58 (t159 : Int) (oT (by first | (with_reducible assumption) | assumption)) (by have h_ : (t159 : Int) < ((t154.length : Int) : Int) := oT (by first | (with_reducible assumption) | assumption); first | exact h_ | (have e_ := (Kd.R_reads' HO156.out).1; omega) | simpa using h_)
  obtain rfl := k58_openM hM25
  have HP25 := (Kd.R_seg HO156.out (t159 : Int) (oT (by first | (with_reducible assumption) | assumption)) (by have h_ : (t159 : Int) < ((t154.length : Int) : Int) := oT (by first | (with_reducible assumption) | assumption); first | exact h_ | (have e_ := (Kd.R_reads' HO156.out).1; omega) | simpa using h_) (seg := [.int .i64 t167]) (j := 1) hcl25 hcc25 (show 2 ≤ 5 from by decide) (x' := (⟨(rd_T58 t154 t159).f0, t167, (rd_T58 t154 t159).f2, (rd_T58 t154 t159).f3, (rd_T58 t154 t159).f4⟩ : S58)) (k58_mkM _ _ _ (⟨(rd_T58 t154 t159).f0, t167, (rd_T58 t154 t159).f2, (rd_T58 t154 t159).f3, (rd_T58 t154 t159).f4⟩ : S58) ) (fun _ hk => hk)).1
  rw [← Ny169.out] at HP25
  have HQ25 := ak HP25
  clear hcl25 hcc25 hfr25 hM25 HP25
  refine hK.out _ _ ⟨(blk_cell BK158.out 0).trans rfl, (blk_cell BK158.out 1).trans rfl, HS2_, HS3_, HS4_, HS5_, HS6_⟩ (fun hHeld => ?_)
  clear hK K
  refine norm_ (a' := ?_) ?_ ?_
  rotate_left
  ·show Act.put _ (some 31) _ = _
   simp only [SX]
   rfl
  refine pu 12 32 ?_ (ms 15 8191) rfl rfl HT_ (by kernel_rfl) (fun _ _ _ h => h) (by rfl) ?_ ?_ ?_ ?_
  rotate_left
  ·intro w'
   go_simp
   with_reducible rfl
  rotate_left
  ·simp only [SX]
   rfl
  refine pu 13 33 ?_ (ms 15 16383) rfl rfl HT_ (by kernel_rfl) (fun _ _ _ h => h) (by rfl) ?_ ?_ ?_ ?_
  rotate_left
  ·intro w'
   go_simp
   with_reducible rfl
  rotate_left
  ·simp only [SX]
   rfl
  refine last_ (i := 14) (N := none) (ms 15 32767) rfl rfl (one_of HT_.out (by kernel_rfl)) (by decide) (fun K hK => ?_)
  refine skip_ (w1 := ?_) (by rfl) rfl ?_ ?_
  rotate_left
  ·go_simp
   rfl
  refine hK.out _ _ ?_
  clear hK K
  refine done_ (done_of HT_.out (by kernel_rfl)) ?_
  have n0_ : Aside0 (Kd.R k58 58 (w24.setCell ⟨go10, (t159 : Int).toNat * 5 + 1, none⟩ (.int .i64 t167)) w.heap.size (fun _ => True) (.slice (some ⟨go10, 0, none⟩) t154.length co17) y169) := ⟨by (with_reducible repeat (first | apply Kd.R_alloc | apply Kd.R_drewN | apply Kd.R_drew)); exact HQ25.out⟩
  have n1_ : Aside0 (Kd.R (Kd.int .i64) 3 (w24.setCell ⟨go10, (t159 : Int).toNat * 5 + 1, none⟩ (.int .i64 t167)) w.heap.size (fun _ => True) (.slice Ao23 y164.length co23) y164) := ⟨by (with_reducible repeat (first | apply Kd.R_alloc | apply Kd.R_drewN | apply Kd.R_drew)); exact Kd.R_mono (Kd.R_far (p := ⟨go10, (t159 : Int).toNat * 5 + 1, none⟩) (Kd.R_types HO166.out GG10.out (by decide)) (fun _ hk => hk.2) (.int .i64 t167)) (fun _ hk => trivial)⟩
  have n2_ : Aside0 ((w24.setCell ⟨go10, (t159 : Int).toNat * 5 + 1, none⟩ (.int .i64 t167)).heap[gb152]? = some (.cells #[.int .i64 0, .slice none 0 0] 25 (0, 0))) := ⟨by (with_reducible repeat (first | refine blk_drewN ?_ _ | refine blk_drew ?_ | refine blk_alloc ?_ _)); refine blk_far ?_ (by have h_ := Kd.R_ne HO156.out BK152.out (by decide); intro e_; exact h_ (by rw [e_]; rfl)) _; (with_reducible repeat (first | refine blk_drewN ?_ _ | refine blk_drew ?_ | refine blk_alloc ?_ _)); exact BK152.out⟩
  have n3_ : Aside0 ((w24.setCell ⟨go10, (t159 : Int).toNat * 5 + 1, none⟩ (.int .i64 t167)).heap[gb158]? = some (.cells #[.int .i64 t153, .slice (some ⟨go10, 0, none⟩) t154.length co17] 25 (0, 0))) := ⟨by (with_reducible repeat (first | refine blk_drewN ?_ _ | refine blk_drew ?_ | refine blk_alloc ?_ _)); refine blk_far ?_ (by have h_ := Kd.R_ne HO156.out BK158.out (by decide); intro e_; exact h_ (by rw [e_]; rfl)) _; (with_reducible repeat (first | refine blk_drewN ?_ _ | refine blk_drew ?_ | refine blk_alloc ?_ _)); exact BK158.out⟩
  have n4_ : Aside0 (IsS95 w0 (w24.setCell ⟨go10, (t159 : Int).toNat * 5 + 1, none⟩ (.int .i64 t167)) g s0_0 t168) := ⟨by repeat (first | (with_reducible first | exact HI0.out | apply IsS95.alloc | apply IsS95.drewN | apply IsS95.drew | apply IsS95.set_1 | refine IsS95.far ?_ HN0_go10.out _ | refine IsS95.far ?_ NB0_152.out _ | refine IsS95.far ?_ NB0_158.out _) | exact HI0.out)⟩
  have n5_ : Aside0 (KeepBut w (w24.setCell ⟨go10, (t159 : Int).toNat * 5 + 1, none⟩ (.int .i64 t167)) g none) := ⟨by repeat (first | (with_reducible first | exact HK.out | apply KeepBut.set_ | apply keep_drewN | apply keep_drew | apply keep_alloc | refine keep_far ?_ GB10.out _ | refine keep_far ?_ GW152.out _ | refine keep_far ?_ GW158.out _) | exact HK.out)⟩
  have n6_ : Aside0 (Below w0.heap.size w0 (w24.setCell ⟨go10, (t159 : Int).toNat * 5 + 1, none⟩ (.int .i64 t167))) := ⟨by repeat (first | (with_reducible first | exact HB.out | apply below_alloc | apply pw_below_drewN | apply below_drew1 | refine below_set ?_ (Nat.le_trans HL.out GB10.out) | refine below_set ?_ (IsS95.ge HI0.out) | refine below_set ?_ GE152.out | refine below_set ?_ GE158.out) | exact HB.out)⟩
  (try clear HO156)
  (try clear HO166)
  (try clear BK152)
  (try clear BK158)
  (try clear HI0)
  (try clear HK)
  (try clear HB)
  generalize (w24.setCell ⟨go10, (t159 : Int).toNat * 5 + 1, none⟩ (.int .i64 t167)) = w26 at n0_ n1_ n2_ n3_ n4_ n5_ n6_ ⊢
  have HO156 := n0_
  have HO166 := n1_
  have BK152 := n2_
  have BK158 := n3_
  have HI0 := n4_
  have HK := n5_
  have HB := n6_
  clear n0_ n1_ n2_ n3_ n4_ n5_ n6_
  have hcz27_0 := bc w26 BK158 0 (.int .i64 t153) rfl
  have hcz27_1 := bc w26 BK158 1 (.slice (some ⟨go10, 0, none⟩) t154.length co17) rfl
  have hfz27_0 := fz BK158 0
  have hfz27_1 := fz BK158 1
  have hnb28 := NB152_0.out
  have hnc28 := NB0_152.out
  have hcz29_0 := bc w26 BK152 0 (.int .i64 0) rfl
  have hcz29_1 := bc w26 BK152 1 (.slice none 0 0) rfl
  have hfz29_0 := fz BK152 0
  have hfz29_1 := fz BK152 1
  try go_wp2
  refine bodyPost_ret (results_cell_row rfl _ _ gb152 25 #[.int .i64 t153, .slice (some ⟨go10, 0, none⟩) t154.length co17] (0, 0) _ rfl (by (with_reducible repeat (first | refine blk_drewN ?_ _ | refine blk_drew ?_ | refine blk_alloc ?_ _)); refine blk_put (cs := #[.int .i64 t153, .slice none 0 0]) ?_ 1 _ rfl; refine blk_put (cs := #[.int .i64 0, .slice none 0 0]) ?_ 0 _ rfl; (with_reducible repeat (first | refine blk_drewN ?_ _ | refine blk_drew ?_ | refine blk_alloc ?_ _)); exact BK152.out) Try.underlying25 rfl (by kernel_rfl)) rfl ?_
  exact ⟨_, by first | rfl | (simp [errW_none, errW_some] <;> rfl) | (simp [*, errW_none, errW_some] <;> rfl), by (with_reducible repeat (first | apply Kd.R_alloc | apply Kd.R_drewN | apply Kd.R_drew)); exact Kd.R_mono (Kd.R_far (p := ⟨gb152, 1, none⟩) (Kd.R_far (p := ⟨gb152, 0, none⟩) (Kd.R_types HO156.out BK152.out (by decide)) (fun _ hk => hk.2) (.int .i64 t153)) (fun _ hk => hk.2) (.slice (some ⟨go10, 0, none⟩) t154.length co17)) (fun _ hk => trivial), by repeat (first | (with_reducible first | exact HI0.out | apply IsS95.alloc | apply IsS95.drewN | apply IsS95.drew | apply IsS95.set_1 | refine IsS95.far ?_ NB0_152.out _ | refine IsS95.far ?_ NB0_158.out _) | exact HI0.out), by repeat (first | (with_reducible first | exact HB.out | apply below_alloc | apply pw_below_drewN | apply below_drew1 | refine below_set ?_ (IsS95.ge HI0.out) | refine below_set ?_ GE152.out | refine below_set ?_ GE158.out) | exact HB.out), by repeat (first | (with_reducible first | exact HK.out | apply KeepBut.set_ | apply keep_drewN | apply keep_drew | apply keep_alloc | refine keep_far ?_ GW152.out _ | refine keep_far ?_ GW158.out _) | exact HK.out)⟩
 rw [if_neg c6] at H
 have c6b0 : (t161 == 0) = false := beq_eq_false_iff_ne.mpr c6
 have c6b1 : (t161 != 0) = true := bne_iff_ne.mpr c6
 by_cases c30 : t161 = 1
 ·rw [if_pos c30] at H
  have c30b0 : (t161 == 1) = true := beq_iff_eq.mpr c30
  have c30b1 : (t161 != 1) = false := bne_eq_false_iff_eq.mpr c30
  clear c30
  obtain ⟨y170, hy170⟩ : ∃ y_ : List Int, y_ = (([(-1), 100] : List Int)) := ⟨_, rfl⟩
  replace H : ((spec_l30Rd_one.f k s0_0 t162 y170).bind fun bt173 => (if 0 ≤ t159 then (if t159 < (t154.length : Int) then (some (t153, (t154.set (t159 : Int).toNat (⟨(rd_T58 t154 t159).f0, (rd_T58 t154 t159).f1, bt173.1, (rd_T58 t154 t159).f3, (rd_T58 t154 t159).f4⟩ : S58)), bt173.2)) else (none)) else (none))) = some (r1, r2, r3) := by first | (rw [hy170]; with_reducible exact H) | (have H2_ := (Option.bind_some _ _).symm.trans H; rw [hy170]; with_reducible exact H2_) | (have H2_ := (Option.bind_some _ _).symm.trans H; with_reducible exact H2_) | with_reducible exact H | (rw [hy170]; exact H) | exact H
  have Ny170 := ak hy170
  clear hy170
  replace H := Option.bind_eq_some_iff.mp H
  obtain ⟨⟨t173, t174⟩, A310, H⟩ := H
  have A31 := ak A310
  clear A310
  by_cases c32 : 0 ≤ t159
  rotate_left
  ·rw [if_neg c32] at H
   exact absurd H (by simp)
  rw [if_pos c32] at H
  have c32b0 : decide (0 ≤ t159) = true := decide_eq_true c32
  clear c32
  by_cases c33 : t159 < (t154.length : Int)
  rotate_left
  ·rw [if_neg c33] at H
   exact absurd H (by simp)
  rw [if_pos c33] at H
  have c33b0 : decide (t159 < (t154.length : Int)) = true := decide_eq_true c33
  clear c33
  obtain ⟨y175, hy175⟩ : ∃ y_ : List (S58), y_ = (t154.set (t159 : Int).toNat (⟨(rd_T58 t154 t159).f0, (rd_T58 t154 t159).f1, t173, (rd_T58 t154 t159).f3, (rd_T58 t154 t159).f4⟩ : S58)) := ⟨_, rfl⟩
  replace H : (some (t153, y175, t174)) = some (r1, r2, r3) := by first | (rw [hy175]; with_reducible exact H) | (have H2_ := (Option.bind_some _ _).symm.trans H; rw [hy175]; with_reducible exact H2_) | (have H2_ := (Option.bind_some _ _).symm.trans H; with_reducible exact H2_) | with_reducible exact H | (rw [hy175]; exact H) | exact H
  have Ny175 := ak hy175
  clear hy175
  simp only [Option.some.injEq, Prod.mk.injEq] at H
  obtain ⟨rfl, rfl, rfl⟩ := H
  go_enter Try.func45, Try.ntmps45
  try go_wp2_with (first | ((with_reducible refine gate_dst (N := 2) rfl ?_); refine box_event ?hg (N := 2) ?hd (cs := #[.int .i64 0, .slice none 0 0]) (t := 25) ?hr ?_; (case hd => rfl); (case hg => rfl); (case hr => first | (go_simp; done) | (go_simp; rfl)); intro gb152 hg w35 hbox hb; replace HB := ak (below_step (by repeat (first | (with_reducible first | exact HB.out | apply below_alloc | apply pw_below_drewN | apply below_drew1 | refine below_set ?_ (IsS95.ge HI0.out)) | exact HB.out)) hb); have BK152 := ak (hbox); have GW152 := ak ((by rw [hg]; exact (keep_size (w := w) (g := g) (row := none) (by repeat (first | (with_reducible first | exact HK.out | apply KeepBut.set_ | apply keep_drewN | apply keep_drew | apply keep_alloc) | exact HK.out))) : w.heap.size ≤ gb152)); have GE152 := ak ((Nat.le_trans HW0.out (by rw [hg]; exact (keep_size (w := w) (g := g) (row := none) (by repeat (first | (with_reducible first | exact HK.out | apply KeepBut.set_ | apply keep_drewN | apply keep_drew | apply keep_alloc) | exact HK.out))) : w.heap.size ≤ gb152) : w0.heap.size ≤ gb152)); replace HK := ak (KeepBut.trans (by repeat (first | (with_reducible first | exact HK.out | apply KeepBut.set_ | apply keep_drewN | apply keep_drew | apply keep_alloc) | exact HK.out)) (KeepBut.of_below hb g none) (.inl rfl)); have NB0_152 := ak ((by rw [hg]; exact Nat.ne_of_lt (IsS95.lt (show IsS95 w0 _ g s0_0 s0_1 from by repeat (first | (with_reducible first | exact HI0.out | apply IsS95.alloc | apply IsS95.drewN | apply IsS95.drew | apply IsS95.set_1) | exact HI0.out))) : g ≠ gb152)); have NB152_0 := ak ((by rw [hg]; exact Nat.ne_of_gt (IsS95.lt (show IsS95 w0 _ g s0_0 s0_1 from by repeat (first | (with_reducible first | exact HI0.out | apply IsS95.alloc | apply IsS95.drewN | apply IsS95.drew | apply IsS95.set_1) | exact HI0.out))) : gb152 ≠ g)); replace HI0 := ak (IsS95.below (by repeat (first | (with_reducible first | exact HI0.out | apply IsS95.alloc | apply IsS95.drewN | apply IsS95.drew | apply IsS95.set_1) | exact HI0.out)) hb); clear hb hbox hg) | ((with_reducible refine gate_callee (f := 86) rfl ?_); refine goesL_ (some 6) rfl rfl Try.func86 (by kernel_rfl) rfl #[.pointer (some ⟨g, 0, none⟩)] rfl (by (try simp only [List.map_toArray, List.map_cons, List.map_nil]); first | done | rfl | (simp only [List.length_drop, List.length_take]; rfl)) ?_; (with_reducible refine (spec_l30Net.calls k g s0_0 s0_1 t153 t154 t157 w0 _ ?side1 ?side2 A2.out).mono ?_); (case side1 => repeat (first | (with_reducible first | exact HI0.out | apply IsS95.alloc | apply IsS95.drewN | apply IsS95.drew | apply IsS95.set_1 | refine IsS95.far ?_ NB0_152.out _) | exact HI0.out)); (case side2 => repeat (first | (with_reducible first | exact HB.out | apply below_alloc | apply pw_below_drewN | apply below_drew1 | refine below_set ?_ (IsS95.ge HI0.out) | refine below_set ?_ GE152.out) | exact HB.out)); rintro e w36 ⟨v155, rfl, ho0, hi, hb, hk⟩; refine ⟨_, rfl, ?_⟩; replace BK152 := ak (KeepBut.blk hk (g' := gb152) (o := .cells #[.int .i64 0, .slice none 0 0] 25 (0, 0)) (bk BK152) NB152_0.out (by simp)); have HO156 := ak (Kd.R_lower ho0 (keep_size (w := w) (g := g) (row := none) (by repeat (first | (with_reducible first | exact HK.out | apply KeepBut.set_ | apply keep_drewN | apply keep_drew | apply keep_alloc | refine keep_far ?_ GW152.out _) | exact HK.out)))); replace HK := ak (KeepBut.trans (by repeat (first | (with_reducible first | exact HK.out | apply KeepBut.set_ | apply keep_drewN | apply keep_drew | apply keep_alloc | refine keep_far ?_ GW152.out _) | exact HK.out)) hk (.inl rfl)); replace HB := ak (hb); replace HI0 := ak (hi); (try clear hb); (try clear hb2); (try clear hk); (try clear hi); (try clear ho0)) | ((with_reducible refine gate_dst (N := 3) rfl ?_); refine box_event ?hg (N := 3) ?hd (cs := #[.int .i64 0, .slice none 0 0]) (t := 25) ?hr ?_; (case hd => rfl); (case hg => rfl); (case hr => first | (go_simp; done) | (go_simp; rfl)); intro gb158 hg w37 hbox hb; replace HO156 := ak (Kd.R_below (rk HO156) hb); replace HB := ak (below_step (by repeat (first | (with_reducible first | exact HB.out | apply below_alloc | apply pw_below_drewN | apply below_drew1 | refine below_set ?_ (IsS95.ge HI0.out) | refine below_set ?_ GE152.out) | exact HB.out)) hb); have BK158 := ak (hbox); have GW158 := ak ((by rw [hg]; exact (keep_size (w := w) (g := g) (row := none) (by repeat (first | (with_reducible first | exact HK.out | apply KeepBut.set_ | apply keep_drewN | apply keep_drew | apply keep_alloc | refine keep_far ?_ GW152.out _) | exact HK.out))) : w.heap.size ≤ gb158)); have GE158 := ak ((Nat.le_trans HW0.out (by rw [hg]; exact (keep_size (w := w) (g := g) (row := none) (by repeat (first | (with_reducible first | exact HK.out | apply KeepBut.set_ | apply keep_drewN | apply keep_drew | apply keep_alloc | refine keep_far ?_ GW152.out _) | exact HK.out))) : w.heap.size ≤ gb158) : w0.heap.size ≤ gb158)); replace HK := ak (KeepBut.trans (by repeat (first | (with_reducible first | exact HK.out | apply KeepBut.set_ | apply keep_drewN | apply keep_drew | apply keep_alloc | refine keep_far ?_ GW152.out _) | exact HK.out)) (KeepBut.of_below hb g none) (.inl rfl)); have NB152_158 := ak ((by rw [hg]; exact Nat.ne_of_lt (blk_lt (bk BK152)) : gb152 ≠ gb158)); have NB158_152 := ak ((by rw [hg]; exact Nat.ne_of_gt (blk_lt (bk BK152)) : gb158 ≠ gb152)); replace BK152 := ak (blk_below (bk BK152) hb); have NB0_158 := ak ((by rw [hg]; exact Nat.ne_of_lt (IsS95.lt (show IsS95 w0 _ g s0_0 t157 from by repeat (first | (with_reducible first | exact HI0.out | apply IsS95.alloc | apply IsS95.drewN | apply IsS95.drew | apply IsS95.set_1 | refine IsS95.far ?_ NB0_152.out _) | exact HI0.out))) : g ≠ gb158)); have NB158_0 := ak ((by rw [hg]; exact Nat.ne_of_gt (IsS95.lt (show IsS95 w0 _ g s0_0 t157 from by repeat (first | (with_reducible first | exact HI0.out | apply IsS95.alloc | apply IsS95.drewN | apply IsS95.drew | apply IsS95.set_1 | refine IsS95.far ?_ NB0_152.out _) | exact HI0.out))) : gb158 ≠ g)); replace HI0 := ak (IsS95.below (by repeat (first | (with_reducible first | exact HI0.out | apply IsS95.alloc | apply IsS95.drewN | apply IsS95.drew | apply IsS95.set_1 | refine IsS95.far ?_ NB0_152.out _) | exact HI0.out)) hb); clear hb hbox hg; have hnb38 := NB158_152.out; have hnc38 := NB152_158.out; have hnb39 := NB158_0.out; have hnc39 := NB0_158.out; have hcz40_0 := bc w37 BK158 0 (.int .i64 0) rfl; have hcz40_1 := bc w37 BK158 1 (.slice none 0 0) rfl; have hfz40_0 := fz BK158 0; have hfz40_1 := fz BK158 1; obtain ⟨Ao41, co41, eo41⟩ := Kd.R_slice HO156.out; subst eo41) | ((with_reducible refine gate_callee (f := 87) rfl ?_); refine goesL_ (some 15) rfl rfl Try.func87 (by kernel_rfl) rfl #[.pointer (some ⟨g, 0, none⟩), .int .i64 (t154.length : Int)] rfl (by (try simp only [List.map_toArray, List.map_cons, List.map_nil]); first | done | rfl | (simp only [List.length_drop, List.length_take]; rfl)) ?_; (with_reducible refine (spec_l30Rd_pick.calls k g s0_0 t157 (t154.length : Int) t159 t160 w0 _ ?side1 ?side2 A4.out).mono ?_); (case side1 => repeat (first | (with_reducible first | exact HI0.out | apply IsS95.alloc | apply IsS95.drewN | apply IsS95.drew | apply IsS95.set_1 | refine IsS95.far ?_ NB0_152.out _ | refine IsS95.far ?_ NB0_158.out _) | exact HI0.out)); (case side2 => repeat (first | (with_reducible first | exact HB.out | apply below_alloc | apply pw_below_drewN | apply below_drew1 | refine below_set ?_ (IsS95.ge HI0.out) | refine below_set ?_ GE152.out | refine below_set ?_ GE158.out) | exact HB.out)); rintro e w42 ⟨rfl, hi, hb, hk⟩; refine ⟨_, rfl, ?_⟩; replace BK152 := ak (KeepBut.blk hk (g' := gb152) (o := .cells #[.int .i64 0, .slice none 0 0] 25 (0, 0)) (by (with_reducible repeat (first | refine blk_drewN ?_ _ | refine blk_drew ?_ | refine blk_alloc ?_ _)); refine blk_far ?_ NB152_158.out _; refine blk_far ?_ NB152_158.out _; (with_reducible repeat (first | refine blk_drewN ?_ _ | refine blk_drew ?_ | refine blk_alloc ?_ _)); exact BK152.out) NB152_0.out (by simp)); replace HO156 := ak (Kd.R_mono (Kd.R_keep (IsS95.apart (show IsS95 w0 _ g s0_0 t157 from by repeat (first | (with_reducible first | exact HI0.out | apply IsS95.alloc | apply IsS95.drewN | apply IsS95.drew | apply IsS95.set_1 | refine IsS95.far ?_ NB0_152.out _ | refine IsS95.far ?_ NB0_158.out _) | exact HI0.out)) (by (with_reducible repeat (first | apply Kd.R_alloc | apply Kd.R_drewN | apply Kd.R_drew)); exact (Kd.R_mono (Kd.R_far (p := ⟨gb158, 1, none⟩) (Kd.R_far (p := ⟨gb158, 0, none⟩) (Kd.R_types HO156.out BK158.out (by decide)) (fun _ hk => hk.2) (.int .i64 t153)) (fun _ hk => hk.2) (.slice Ao41 t154.length co41)) (fun _ h_ => h_.1))) (by decide)) hk (fun _ h => h.2)) (fun _ h => h.1)); replace BK158 := ak (KeepBut.blk hk (g' := gb158) (o := .cells #[.int .i64 t153, .slice Ao41 t154.length co41] 25 (0, 0)) (by (with_reducible repeat (first | refine blk_drewN ?_ _ | refine blk_drew ?_ | refine blk_alloc ?_ _)); refine blk_put (cs := #[.int .i64 t153, .slice none 0 0]) ?_ 1 _ rfl; refine blk_put (cs := #[.int .i64 0, .slice none 0 0]) ?_ 0 _ rfl; (with_reducible repeat (first | refine blk_drewN ?_ _ | refine blk_drew ?_ | refine blk_alloc ?_ _)); exact BK158.out) NB158_0.out (by simp)); replace HK := ak (KeepBut.trans (by repeat (first | (with_reducible first | exact HK.out | apply KeepBut.set_ | apply keep_drewN | apply keep_drew | apply keep_alloc | refine keep_far ?_ GW152.out _ | refine keep_far ?_ GW158.out _) | exact HK.out)) hk (.inl rfl)); replace HB := ak (hb); replace HI0 := ak (hi); (try clear hb); (try clear hb2); (try clear hk); (try clear hi)) | ((with_reducible refine gate_callee (f := 87) rfl ?_); refine goesL_ (some 17) rfl rfl Try.func87 (by kernel_rfl) rfl #[.pointer (some ⟨g, 0, none⟩), .int .i64 16] rfl (by (try simp only [List.map_toArray, List.map_cons, List.map_nil]); first | done | rfl | (simp only [List.length_drop, List.length_take]; rfl)) ?_; (with_reducible refine (spec_l30Rd_pick.calls k g s0_0 t160 16 t161 t162 w0 _ ?side1 ?side2 A5.out).mono ?_); (case side1 => repeat (first | (with_reducible first | exact HI0.out | apply IsS95.alloc | apply IsS95.drewN | apply IsS95.drew | apply IsS95.set_1 | refine IsS95.far ?_ NB0_152.out _ | refine IsS95.far ?_ NB0_158.out _) | exact HI0.out)); (case side2 => repeat (first | (with_reducible first | exact HB.out | apply below_alloc | apply pw_below_drewN | apply below_drew1 | refine below_set ?_ (IsS95.ge HI0.out) | refine below_set ?_ GE152.out | refine below_set ?_ GE158.out) | exact HB.out)); rintro e w43 ⟨rfl, hi, hb, hk⟩; refine ⟨_, rfl, ?_⟩; replace BK152 := ak (KeepBut.blk hk (g' := gb152) (o := .cells #[.int .i64 0, .slice none 0 0] 25 (0, 0)) (bk BK152) NB152_0.out (by simp)); replace HO156 := ak (Kd.R_mono (Kd.R_keep (IsS95.apart (show IsS95 w0 _ g s0_0 t160 from by repeat (first | (with_reducible first | exact HI0.out | apply IsS95.alloc | apply IsS95.drewN | apply IsS95.drew | apply IsS95.set_1 | refine IsS95.far ?_ NB0_152.out _ | refine IsS95.far ?_ NB0_158.out _) | exact HI0.out)) (rk HO156) (by decide)) hk (fun _ h => h.2)) (fun _ h => h.1)); replace BK158 := ak (KeepBut.blk hk (g' := gb158) (o := .cells #[.int .i64 t153, .slice Ao41 t154.length co41] 25 (0, 0)) (bk BK158) NB158_0.out (by simp)); replace HK := ak (KeepBut.trans (by repeat (first | (with_reducible first | exact HK.out | apply KeepBut.set_ | apply keep_drewN | apply keep_drew | apply keep_alloc | refine keep_far ?_ GW152.out _ | refine keep_far ?_ GW158.out _) | exact HK.out)) hk (.inl rfl)); replace HB := ak (hb); replace HI0 := ak (hi); (try clear hb); (try clear hb2); (try clear hk); (try clear hi)))
  replace HO156 := ak (Kd.R_drew HO156.out)
  replace BK152 := ak (blk_drew BK152.out)
  replace BK158 := ak (blk_drew BK158.out)
  replace HI0 := ak (IsS95.drew HI0.out)
  replace HK := ak (keep_drew HK.out)
  replace HB := ak (below_drew1 HB.out)
  refine start_ (n := 9) (S := fun w' => w'.cell? ⟨gb158, 0, none⟩ = some (.int .i64 t153) ∧ w'.cell? ⟨gb158, 1, none⟩ = some (.slice Ao41 t154.length co41)) (ds := [8]) (ms 9 0) (by kernel_rfl) rfl (by kernel_rfl) ⟨(blk_cell BK158.out 0).trans rfl, (blk_cell BK158.out 1).trans rfl⟩ (fun hHeld => ?_); refine with_tabW spec_l30AnyNet.tab8 spec_l30AnyNet.bits8 (fun HT_ HW_ => ?_)
  generalize w43.drew = w44 at HO156 BK152 BK158 HI0 HK HB hHeld ⊢
  refine pu 0 36 ?_ (ms 9 1) rfl rfl HT_ (by kernel_rfl) (fun _ _ _ h => h) (by rfl) ?_ ?_ ?_ ?_
  rotate_left
  ·intro w'
   go_simp
   with_reducible rfl
  rotate_left
  ·simp only [SX]
   rfl
  refine pu 2 38 ?_ (ms 9 5) rfl rfl HT_ (by kernel_rfl) (fun _ _ _ h => h) (by rfl) ?_ ?_ ?_ ?_
  rotate_left
  ·intro w'
   go_simp
   with_reducible rfl
  rotate_left
  ·simp only [SX]
   rfl
  refine pu 3 39 ?_ (ms 9 13) rfl rfl HT_ (by kernel_rfl) (fun _ _ _ h => h) (by rfl) ?_ ?_ ?_ ?_
  rotate_left
  ·intro w'
   go_simp
   with_reducible rfl
  rotate_left
  ·simp only [SX]
   rfl
  refine tk 1 37 ?_ (ms 9 15) rfl rfl HT_ HW_ (by kernel_rfl) (fun _ _ _ h => h) (by rfl) ?_ hHeld ?_ ?_ ?_
  rotate_left
  ·rintro w' ⟨s0, s1⟩
   go_simp
   with_reducible rfl
  rotate_left
  ·simp only [SX]
   rfl
  refine one_ (i := 4) (N := some 40) (ms 9 31) rfl rfl (one_of HT_.out (by kernel_rfl)) (by decide) (fun K hK => ?_)
  refine Kd.R_lit_step (Kd.int .i64) _ 3 ?hg (N := 40) ?hd (xs := ([(-1), 100] : List Int)) (inner := [.int .i64 (-1), .int .i64 100]) (ok := fun _ => True) (okp := fun _ => True) ?hr ?hp (fun _ hk => hk) trivial (Below.refl _ _) (Nat.le_refl _) (by simp) ?_; (case hd => rfl); (case hg => rfl); (case hr => first | (go_simp; done) | (go_simp; rfl)); (case hp => exact (Reps.one (show Kd.M (Kd.int .i64) _ _ _ (-1) [.int .i64 (-1)] from rfl) (Reps.one (show Kd.M (Kd.int .i64) _ _ _ 100 [.int .i64 100] from rfl) (Reps.none _ _))))
  intro v171 w45 ho46 hb hg_ hnew_
  clear hg_ hnew_
  (first | rw [← Ny170.out] at ho46 | (simp only [Int.reduceToNat] at ho46; rw [← Ny170.out] at ho46))
  replace HO156 := ak (Kd.R_below (rk HO156) hb)
  have HO172 := ak (Kd.R_lower ho46 (keep_size (w := w) (g := g) (row := none) (by repeat (first | (with_reducible first | exact HK.out | apply KeepBut.set_ | apply keep_drewN | apply keep_drew | apply keep_alloc | refine keep_far ?_ GW152.out _ | refine keep_far ?_ GW158.out _) | exact HK.out))))
  replace BK152 := ak (blk_below (bk BK152) hb)
  replace BK158 := ak (blk_below (bk BK158) hb)
  replace HK := ak (KeepBut.trans (by repeat (first | (with_reducible first | exact HK.out | apply KeepBut.set_ | apply keep_drewN | apply keep_drew | apply keep_alloc | refine keep_far ?_ GW152.out _ | refine keep_far ?_ GW158.out _) | exact HK.out)) (KeepBut.of_below hb g none) (.inl rfl))
  replace HB := ak (below_step (by repeat (first | (with_reducible first | exact HB.out | apply below_alloc | apply pw_below_drewN | apply below_drew1 | refine below_set ?_ (IsS95.ge HI0.out) | refine below_set ?_ GE152.out | refine below_set ?_ GE158.out) | exact HB.out)) hb)
  replace HI0 := ak (IsS95.below (by repeat (first | (with_reducible first | exact HI0.out | apply IsS95.alloc | apply IsS95.drewN | apply IsS95.drew | apply IsS95.set_1 | refine IsS95.far ?_ NB0_152.out _ | refine IsS95.far ?_ NB0_158.out _) | exact HI0.out)) hb)
  clear hb ho46
  obtain ⟨Ao47, co47, eo47⟩ := Kd.R_slice HO172.out
  (first | subst eo47 | (injection eo47 with f1_ f2_ f3_; have f4_ := f1_.symm; have f5_ := f3_.symm; clear f1_ f2_ f3_; subst f4_; subst f5_))
  refine hK.out _ _ ⟨(blk_cell BK158.out 0).trans rfl, (blk_cell BK158.out 1).trans rfl⟩ (fun hHeld => ?_)
  clear hK K
  refine norm_ (a' := ?_) ?_ ?_
  rotate_left
  ·show Act.put _ (some 40) _ = _
   simp only [SX]
   rfl
  refine one_ (i := 5) (N := some 41) (ms 9 63) rfl rfl (one_of HT_.out (by kernel_rfl)) (by decide) (fun K hK => ?_)
  refine goes_ Try.func47 (by kernel_rfl) rfl #[.pointer (some ⟨g, 0, none⟩), .slice Ao47 y170.length co47] (by rfl) rfl rfl (by (try simp only [List.map_toArray, List.map_cons, List.map_nil]); first | done | rfl | (simp only [List.length_drop, List.length_take]; rfl)) ?_
  with_reducible refine (spec_l30Rd_one.calls k g s0_0 t162 _ _ y170 t173 t174 w0 _ ?side1 ?side2 ?side3 ?side4 ?side5 A31.out).mono ?_
  (case side1 => repeat (first | (with_reducible first | exact HI0.out | apply IsS95.alloc | apply IsS95.drewN | apply IsS95.drew | apply IsS95.set_1 | refine IsS95.far ?_ NB0_152.out _ | refine IsS95.far ?_ NB0_158.out _) | exact HI0.out))
  (case side2 => repeat (first | (with_reducible first | exact HB.out | apply below_alloc | apply pw_below_drewN | apply below_drew1 | refine below_set ?_ (IsS95.ge HI0.out) | refine below_set ?_ GE152.out | refine below_set ?_ GE158.out) | exact HB.out))
  (case side3 => repeat (first | exact (Kd.R_reads' HO172.out).2.2 | (with_reducible refine Kd.C_alloc ?_ _) | (with_reducible refine Kd.C_drewN ?_ _) | (with_reducible refine Kd.C_drew ?_)))
  (case side4 => exact (Kd.R_reads' HO172.out).2.1)
  (case side5 => exact far_slice (IsS95.own_ne HI0.out HO172.out (by decide)))
  rintro e w48 ⟨rfl, hi, hb, hk⟩
  refine ⟨_, rfl, ?_⟩
  replace BK152 := ak (KeepBut.blk hk (g' := gb152) (o := .cells #[.int .i64 0, .slice none 0 0] 25 (0, 0)) (bk BK152) NB152_0.out (by simp))
  replace HO156 := ak (Kd.R_mono (Kd.R_keep (IsS95.apart (show IsS95 w0 _ g s0_0 t162 from by repeat (first | (with_reducible first | exact HI0.out | apply IsS95.alloc | apply IsS95.drewN | apply IsS95.drew | apply IsS95.set_1 | refine IsS95.far ?_ NB0_152.out _ | refine IsS95.far ?_ NB0_158.out _) | exact HI0.out)) (rk HO156) (by decide)) hk (fun _ h => h.2)) (fun _ h => h.1))
  replace BK158 := ak (KeepBut.blk hk (g' := gb158) (o := .cells #[.int .i64 t153, .slice Ao41 t154.length co41] 25 (0, 0)) (bk BK158) NB158_0.out (by simp))
  replace HO172 := ak (Kd.R_mono (Kd.R_keep (IsS95.apart (show IsS95 w0 _ g s0_0 t162 from by repeat (first | (with_reducible first | exact HI0.out | apply IsS95.alloc | apply IsS95.drewN | apply IsS95.drew | apply IsS95.set_1 | refine IsS95.far ?_ NB0_152.out _ | refine IsS95.far ?_ NB0_158.out _) | exact HI0.out)) (rk HO172) (by decide)) hk (fun _ h => h.2)) (fun _ h => h.1))
  replace HK := ak (KeepBut.trans (by repeat (first | (with_reducible first | exact HK.out | apply KeepBut.set_ | apply keep_drewN | apply keep_drew | apply keep_alloc | refine keep_far ?_ GW152.out _ | refine keep_far ?_ GW158.out _) | exact HK.out)) hk (.inl rfl))
  replace HB := ak (hb)
  replace HI0 := ak (hi)
  (try clear hb)
  (try clear hb2)
  (try clear hk)
  (try clear hi)
  have p34 : 0 ≤ (t159 : Int) := oT (by first | (with_reducible assumption) | assumption)
  have q34 : (t159 : Int) < ((t154.length : Int) : Int) := oT (by first | (with_reducible assumption) | assumption)
  obtain ⟨go34, co34, eo34, gb34, gl34, cl34, HG34⟩ := Kd.R_form HO156.out (by omega)
  (first | cases eo34 | (injection eo34 with ea_ en_ ec_; (first | subst ea_ | (injection ea_ with ea_; subst ea_)); subst ec_; clear en_))
  have GB34 := ak gb34
  have GG34 := ak HG34
  clear gb34 gl34 HG34
  obtain ⟨ce34, hcl34, hM34, hcc34, hfr34⟩ := Kd.R_elem HO156.out z58 (t159 : Int) p34 q34
  obtain rfl := k58_openM hM34
  have hx34_0 : World.cell? _ ⟨go34, (t159 : Int).toNat * 5, none⟩ = some (.int .i64 ((rd_T58 t154 t159).f0)) := hcc34 0 _ rfl
  have hx34_1 : World.cell? _ ⟨go34, (t159 : Int).toNat * 5 + 1, none⟩ = some (.int .i64 ((rd_T58 t154 t159).f1)) := hcc34 1 _ rfl
  have hx34_2 : World.cell? _ ⟨go34, (t159 : Int).toNat * 5 + 2, none⟩ = some (.int .i64 ((rd_T58 t154 t159).f2)) := hcc34 2 _ rfl
  have hx34_3 : World.cell? _ ⟨go34, (t159 : Int).toNat * 5 + 3, none⟩ = some (.int .i64 ((rd_T58 t154 t159).f3)) := hcc34 3 _ rfl
  have hx34_4 : World.cell? _ ⟨go34, (t159 : Int).toNat * 5 + 4, none⟩ = some (.int .i64 ((rd_T58 t154 t159).f4)) := hcc34 4 _ rfl
  have hf34_0 : World.frozen? _ ⟨go34, (t159 : Int).toNat * 5, none⟩ = false := hfr34 0
  have hf34_1 : World.frozen? _ ⟨go34, (t159 : Int).toNat * 5 + 1, none⟩ = false := hfr34 1
  have hf34_2 : World.frozen? _ ⟨go34, (t159 : Int).toNat * 5 + 2, none⟩ = false := hfr34 2
  have hf34_3 : World.frozen? _ ⟨go34, (t159 : Int).toNat * 5 + 3, none⟩ = false := hfr34 3
  have hf34_4 : World.frozen? _ ⟨go34, (t159 : Int).toNat * 5 + 4, none⟩ = false := hfr34 4
  clear hcl34 hcc34 hfr34 hM34
  replace p34 := eq_true p34
  replace q34 := eq_true q34
  have HN0_go34 := ak (show g ≠ go34 from by have h_ := IsS95.own_ne HI0.out HO156.out (by decide); intro e_; exact h_ (by rw [e_]; rfl))
  obtain ⟨ce49, hcl49, hM49, hcc49, hfr49⟩ := Kd.R_elem HO156.out z58 (t159 : Int) (oT (by first | (with_reducible assumption) | assumption)) (by have h_ : (t159 : Int) < ((t154.length : Int) : Int) := oT (by first | (with_reducible assumption) | assumption); first | exact h_ | (have e_ := (Kd.R_reads' HO156.out).1; omega) | simpa using h_)
  obtain rfl := k58_openM hM49
  have HP49 := (Kd.R_seg HO156.out (t159 : Int) (oT (by first | (with_reducible assumption) | assumption)) (by have h_ : (t159 : Int) < ((t154.length : Int) : Int) := oT (by first | (with_reducible assumption) | assumption); first | exact h_ | (have e_ := (Kd.R_reads' HO156.out).1; omega) | simpa using h_) (seg := [.int .i64 t173]) (j := 2) hcl49 hcc49 (show 3 ≤ 5 from by decide) (x' := (⟨(rd_T58 t154 t159).f0, (rd_T58 t154 t159).f1, t173, (rd_T58 t154 t159).f3, (rd_T58 t154 t159).f4⟩ : S58)) (k58_mkM _ _ _ (⟨(rd_T58 t154 t159).f0, (rd_T58 t154 t159).f1, t173, (rd_T58 t154 t159).f3, (rd_T58 t154 t159).f4⟩ : S58) ) (fun _ hk => hk)).1
  rw [← Ny175.out] at HP49
  have HQ49 := ak HP49
  clear hcl49 hcc49 hfr49 hM49 HP49
  refine hK.out _ _ ⟨(blk_cell BK158.out 0).trans rfl, (blk_cell BK158.out 1).trans rfl⟩ (fun hHeld => ?_)
  clear hK K
  refine norm_ (a' := ?_) ?_ ?_
  rotate_left
  ·show Act.put _ (some 41) _ = _
   simp only [SX]
   rfl
  refine pu 6 42 ?_ (ms 9 127) rfl rfl HT_ (by kernel_rfl) (fun _ _ _ h => h) (by rfl) ?_ ?_ ?_ ?_
  rotate_left
  ·intro w'
   go_simp
   with_reducible rfl
  rotate_left
  ·simp only [SX]
   rfl
  refine pu 7 43 ?_ (ms 9 255) rfl rfl HT_ (by kernel_rfl) (fun _ _ _ h => h) (by rfl) ?_ ?_ ?_ ?_
  rotate_left
  ·intro w'
   go_simp
   with_reducible rfl
  rotate_left
  ·simp only [SX]
   rfl
  refine last_ (i := 8) (N := none) (ms 9 511) rfl rfl (one_of HT_.out (by kernel_rfl)) (by decide) (fun K hK => ?_)
  refine skip_ (w1 := ?_) (by rfl) rfl ?_ ?_
  rotate_left
  ·go_simp
   rfl
  refine hK.out _ _ ?_
  clear hK K
  refine done_ (done_of HT_.out (by kernel_rfl)) ?_
  have n0_ : Aside0 (Kd.R k58 58 (w48.setCell ⟨go34, (t159 : Int).toNat * 5 + 2, none⟩ (.int .i64 t173)) w.heap.size (fun _ => True) (.slice (some ⟨go34, 0, none⟩) t154.length co41) y175) := ⟨by (with_reducible repeat (first | apply Kd.R_alloc | apply Kd.R_drewN | apply Kd.R_drew)); exact HQ49.out⟩
  have n1_ : Aside0 (Kd.R (Kd.int .i64) 3 (w48.setCell ⟨go34, (t159 : Int).toNat * 5 + 2, none⟩ (.int .i64 t173)) w.heap.size (fun _ => True) (.slice Ao47 y170.length co47) y170) := ⟨by (with_reducible repeat (first | apply Kd.R_alloc | apply Kd.R_drewN | apply Kd.R_drew)); exact Kd.R_mono (Kd.R_far (p := ⟨go34, (t159 : Int).toNat * 5 + 2, none⟩) (Kd.R_types HO172.out GG34.out (by decide)) (fun _ hk => hk.2) (.int .i64 t173)) (fun _ hk => trivial)⟩
  have n2_ : Aside0 ((w48.setCell ⟨go34, (t159 : Int).toNat * 5 + 2, none⟩ (.int .i64 t173)).heap[gb152]? = some (.cells #[.int .i64 0, .slice none 0 0] 25 (0, 0))) := ⟨by (with_reducible repeat (first | refine blk_drewN ?_ _ | refine blk_drew ?_ | refine blk_alloc ?_ _)); refine blk_far ?_ (by have h_ := Kd.R_ne HO156.out BK152.out (by decide); intro e_; exact h_ (by rw [e_]; rfl)) _; (with_reducible repeat (first | refine blk_drewN ?_ _ | refine blk_drew ?_ | refine blk_alloc ?_ _)); exact BK152.out⟩
  have n3_ : Aside0 ((w48.setCell ⟨go34, (t159 : Int).toNat * 5 + 2, none⟩ (.int .i64 t173)).heap[gb158]? = some (.cells #[.int .i64 t153, .slice (some ⟨go34, 0, none⟩) t154.length co41] 25 (0, 0))) := ⟨by (with_reducible repeat (first | refine blk_drewN ?_ _ | refine blk_drew ?_ | refine blk_alloc ?_ _)); refine blk_far ?_ (by have h_ := Kd.R_ne HO156.out BK158.out (by decide); intro e_; exact h_ (by rw [e_]; rfl)) _; (with_reducible repeat (first | refine blk_drewN ?_ _ | refine blk_drew ?_ | refine blk_alloc ?_ _)); exact BK158.out⟩
  have n4_ : Aside0 (IsS95 w0 (w48.setCell ⟨go34, (t159 : Int).toNat * 5 + 2, none⟩ (.int .i64 t173)) g s0_0 t174) := ⟨by repeat (first | (with_reducible first | exact HI0.out | apply IsS95.alloc | apply IsS95.drewN | apply IsS95.drew | apply IsS95.set_1 | refine IsS95.far ?_ HN0_go34.out _ | refine IsS95.far ?_ NB0_152.out _ | refine IsS95.far ?_ NB0_158.out _) | exact HI0.out)⟩
  have n5_ : Aside0 (KeepBut w (w48.setCell ⟨go34, (t159 : Int).toNat * 5 + 2, none⟩ (.int .i64 t173)) g none) := ⟨by repeat (first | (with_reducible first | exact HK.out | apply KeepBut.set_ | apply keep_drewN | apply keep_drew | apply keep_alloc | refine keep_far ?_ GB34.out _ | refine keep_far ?_ GW152.out _ | refine keep_far ?_ GW158.out _) | exact HK.out)⟩
  have n6_ : Aside0 (Below w0.heap.size w0 (w48.setCell ⟨go34, (t159 : Int).toNat * 5 + 2, none⟩ (.int .i64 t173))) := ⟨by repeat (first | (with_reducible first | exact HB.out | apply below_alloc | apply pw_below_drewN | apply below_drew1 | refine below_set ?_ (Nat.le_trans HL.out GB34.out) | refine below_set ?_ (IsS95.ge HI0.out) | refine below_set ?_ GE152.out | refine below_set ?_ GE158.out) | exact HB.out)⟩
  (try clear HO156)
  (try clear HO172)
  (try clear BK152)
  (try clear BK158)
  (try clear HI0)
  (try clear HK)
  (try clear HB)
  generalize (w48.setCell ⟨go34, (t159 : Int).toNat * 5 + 2, none⟩ (.int .i64 t173)) = w50 at n0_ n1_ n2_ n3_ n4_ n5_ n6_ ⊢
  have HO156 := n0_
  have HO172 := n1_
  have BK152 := n2_
  have BK158 := n3_
  have HI0 := n4_
  have HK := n5_
  have HB := n6_
  clear n0_ n1_ n2_ n3_ n4_ n5_ n6_
  have hcz51_0 := bc w50 BK158 0 (.int .i64 t153) rfl
  have hcz51_1 := bc w50 BK158 1 (.slice (some ⟨go34, 0, none⟩) t154.length co41) rfl
  have hfz51_0 := fz BK158 0
  have hfz51_1 := fz BK158 1
  have hnb52 := NB152_0.out
  have hnc52 := NB0_152.out
  have hcz53_0 := bc w50 BK152 0 (.int .i64 0) rfl
  have hcz53_1 := bc w50 BK152 1 (.slice none 0 0) rfl
  have hfz53_0 := fz BK152 0
  have hfz53_1 := fz BK152 1
  try go_wp2
  refine bodyPost_ret (results_cell_row rfl _ _ gb152 25 #[.int .i64 t153, .slice (some ⟨go34, 0, none⟩) t154.length co41] (0, 0) _ rfl (by (with_reducible repeat (first | refine blk_drewN ?_ _ | refine blk_drew ?_ | refine blk_alloc ?_ _)); refine blk_put (cs := #[.int .i64 t153, .slice none 0 0]) ?_ 1 _ rfl; refine blk_put (cs := #[.int .i64 0, .slice none 0 0]) ?_ 0 _ rfl; (with_reducible repeat (first | refine blk_drewN ?_ _ | refine blk_drew ?_ | refine blk_alloc ?_ _)); exact BK152.out) Try.underlying25 rfl (by kernel_rfl)) rfl ?_
  exact ⟨_, by first | rfl | (simp [errW_none, errW_some] <;> rfl) | (simp [*, errW_none, errW_some] <;> rfl), by (with_reducible repeat (first | apply Kd.R_alloc | apply Kd.R_drewN | apply Kd.R_drew)); exact Kd.R_mono (Kd.R_far (p := ⟨gb152, 1, none⟩) (Kd.R_far (p := ⟨gb152, 0, none⟩) (Kd.R_types HO156.out BK152.out (by decide)) (fun _ hk => hk.2) (.int .i64 t153)) (fun _ hk => hk.2) (.slice (some ⟨go34, 0, none⟩) t154.length co41)) (fun _ hk => trivial), by repeat (first | (with_reducible first | exact HI0.out | apply IsS95.alloc | apply IsS95.drewN | apply IsS95.drew | apply IsS95.set_1 | refine IsS95.far ?_ NB0_152.out _ | refine IsS95.far ?_ NB0_158.out _) | exact HI0.out), by repeat (first | (with_reducible first | exact HB.out | apply below_alloc | apply pw_below_drewN | apply below_drew1 | refine below_set ?_ (IsS95.ge HI0.out) | refine below_set ?_ GE152.out | refine below_set ?_ GE158.out) | exact HB.out), by repeat (first | (with_reducible first | exact HK.out | apply KeepBut.set_ | apply keep_drewN | apply keep_drew | apply keep_alloc | refine keep_far ?_ GW152.out _ | refine keep_far ?_ GW158.out _) | exact HK.out)⟩
 rw [if_neg c30] at H
 have c30b0 : (t161 == 1) = false := beq_eq_false_iff_ne.mpr c30
 have c30b1 : (t161 != 1) = true := bne_iff_ne.mpr c30
 by_cases c54 : t161 = 2
 rotate_left
 ·rw [if_neg c54] at H
  have c54b0 : (t161 == 2) = false := beq_eq_false_iff_ne.mpr c54
  have c54b1 : (t161 != 2) = true := bne_iff_ne.mpr c54
  simp only [Option.some.injEq, Prod.mk.injEq] at H
  obtain ⟨rfl, rfl, rfl⟩ := H
  go_enter Try.func45, Try.ntmps45
  go_wp2_with (first | ((with_reducible refine gate_dst (N := 2) rfl ?_); refine box_event ?hg (N := 2) ?hd (cs := #[.int .i64 0, .slice none 0 0]) (t := 25) ?hr ?_; (case hd => rfl); (case hg => rfl); (case hr => first | (go_simp; done) | (go_simp; rfl)); intro gb152 hg w72 hbox hb; replace HB := ak (below_step (by repeat (first | (with_reducible first | exact HB.out | apply below_alloc | apply pw_below_drewN | apply below_drew1 | refine below_set ?_ (IsS95.ge HI0.out)) | exact HB.out)) hb); have BK152 := ak (hbox); have GW152 := ak ((by rw [hg]; exact (keep_size (w := w) (g := g) (row := none) (by repeat (first | (with_reducible first | exact HK.out | apply KeepBut.set_ | apply keep_drewN | apply keep_drew | apply keep_alloc) | exact HK.out))) : w.heap.size ≤ gb152)); have GE152 := ak ((Nat.le_trans HW0.out (by rw [hg]; exact (keep_size (w := w) (g := g) (row := none) (by repeat (first | (with_reducible first | exact HK.out | apply KeepBut.set_ | apply keep_drewN | apply keep_drew | apply keep_alloc) | exact HK.out))) : w.heap.size ≤ gb152) : w0.heap.size ≤ gb152)); replace HK := ak (KeepBut.trans (by repeat (first | (with_reducible first | exact HK.out | apply KeepBut.set_ | apply keep_drewN | apply keep_drew | apply keep_alloc) | exact HK.out)) (KeepBut.of_below hb g none) (.inl rfl)); have NB0_152 := ak ((by rw [hg]; exact Nat.ne_of_lt (IsS95.lt (show IsS95 w0 _ g s0_0 s0_1 from by repeat (first | (with_reducible first | exact HI0.out | apply IsS95.alloc | apply IsS95.drewN | apply IsS95.drew | apply IsS95.set_1) | exact HI0.out))) : g ≠ gb152)); have NB152_0 := ak ((by rw [hg]; exact Nat.ne_of_gt (IsS95.lt (show IsS95 w0 _ g s0_0 s0_1 from by repeat (first | (with_reducible first | exact HI0.out | apply IsS95.alloc | apply IsS95.drewN | apply IsS95.drew | apply IsS95.set_1) | exact HI0.out))) : gb152 ≠ g)); replace HI0 := ak (IsS95.below (by repeat (first | (with_reducible first | exact HI0.out | apply IsS95.alloc | apply IsS95.drewN | apply IsS95.drew | apply IsS95.set_1) | exact HI0.out)) hb); clear hb hbox hg) | ((with_reducible refine gate_callee (f := 86) rfl ?_); refine goesL_ (some 6) rfl rfl Try.func86 (by kernel_rfl) rfl #[.pointer (some ⟨g, 0, none⟩)] rfl (by (try simp only [List.map_toArray, List.map_cons, List.map_nil]); first | done | rfl | (simp only [List.length_drop, List.length_take]; rfl)) ?_; (with_reducible refine (spec_l30Net.calls k g s0_0 s0_1 t153 t154 t157 w0 _ ?side1 ?side2 A2.out).mono ?_); (case side1 => repeat (first | (with_reducible first | exact HI0.out | apply IsS95.alloc | apply IsS95.drewN | apply IsS95.drew | apply IsS95.set_1 | refine IsS95.far ?_ NB0_152.out _) | exact HI0.out)); (case side2 => repeat (first | (with_reducible first | exact HB.out | apply below_alloc | apply pw_below_drewN | apply below_drew1 | refine below_set ?_ (IsS95.ge HI0.out) | refine below_set ?_ GE152.out) | exact HB.out)); rintro e w73 ⟨v155, rfl, ho0, hi, hb, hk⟩; refine ⟨_, rfl, ?_⟩; replace BK152 := ak (KeepBut.blk hk (g' := gb152) (o := .cells #[.int .i64 0, .slice none 0 0] 25 (0, 0)) (bk BK152) NB152_0.out (by simp)); have HO156 := ak (Kd.R_lower ho0 (keep_size (w := w) (g := g) (row := none) (by repeat (first | (with_reducible first | exact HK.out | apply KeepBut.set_ | apply keep_drewN | apply keep_drew | apply keep_alloc | refine keep_far ?_ GW152.out _) | exact HK.out)))); replace HK := ak (KeepBut.trans (by repeat (first | (with_reducible first | exact HK.out | apply KeepBut.set_ | apply keep_drewN | apply keep_drew | apply keep_alloc | refine keep_far ?_ GW152.out _) | exact HK.out)) hk (.inl rfl)); replace HB := ak (hb); replace HI0 := ak (hi); (try clear hb); (try clear hb2); (try clear hk); (try clear hi); (try clear ho0)) | ((with_reducible refine gate_dst (N := 3) rfl ?_); refine box_event ?hg (N := 3) ?hd (cs := #[.int .i64 0, .slice none 0 0]) (t := 25) ?hr ?_; (case hd => rfl); (case hg => rfl); (case hr => first | (go_simp; done) | (go_simp; rfl)); intro gb158 hg w74 hbox hb; replace HO156 := ak (Kd.R_below (rk HO156) hb); replace HB := ak (below_step (by repeat (first | (with_reducible first | exact HB.out | apply below_alloc | apply pw_below_drewN | apply below_drew1 | refine below_set ?_ (IsS95.ge HI0.out) | refine below_set ?_ GE152.out) | exact HB.out)) hb); have BK158 := ak (hbox); have GW158 := ak ((by rw [hg]; exact (keep_size (w := w) (g := g) (row := none) (by repeat (first | (with_reducible first | exact HK.out | apply KeepBut.set_ | apply keep_drewN | apply keep_drew | apply keep_alloc | refine keep_far ?_ GW152.out _) | exact HK.out))) : w.heap.size ≤ gb158)); have GE158 := ak ((Nat.le_trans HW0.out (by rw [hg]; exact (keep_size (w := w) (g := g) (row := none) (by repeat (first | (with_reducible first | exact HK.out | apply KeepBut.set_ | apply keep_drewN | apply keep_drew | apply keep_alloc | refine keep_far ?_ GW152.out _) | exact HK.out))) : w.heap.size ≤ gb158) : w0.heap.size ≤ gb158)); replace HK := ak (KeepBut.trans (by repeat (first | (with_reducible first | exact HK.out | apply KeepBut.set_ | apply keep_drewN | apply keep_drew | apply keep_alloc | refine keep_far ?_ GW152.out _) | exact HK.out)) (KeepBut.of_below hb g none) (.inl rfl)); have NB152_158 := ak ((by rw [hg]; exact Nat.ne_of_lt (blk_lt (bk BK152)) : gb152 ≠ gb158)); have NB158_152 := ak ((by rw [hg]; exact Nat.ne_of_gt (blk_lt (bk BK152)) : gb158 ≠ gb152)); replace BK152 := ak (blk_below (bk BK152) hb); have NB0_158 := ak ((by rw [hg]; exact Nat.ne_of_lt (IsS95.lt (show IsS95 w0 _ g s0_0 t157 from by repeat (first | (with_reducible first | exact HI0.out | apply IsS95.alloc | apply IsS95.drewN | apply IsS95.drew | apply IsS95.set_1 | refine IsS95.far ?_ NB0_152.out _) | exact HI0.out))) : g ≠ gb158)); have NB158_0 := ak ((by rw [hg]; exact Nat.ne_of_gt (IsS95.lt (show IsS95 w0 _ g s0_0 t157 from by repeat (first | (with_reducible first | exact HI0.out | apply IsS95.alloc | apply IsS95.drewN | apply IsS95.drew | apply IsS95.set_1 | refine IsS95.far ?_ NB0_152.out _) | exact HI0.out))) : gb158 ≠ g)); replace HI0 := ak (IsS95.below (by repeat (first | (with_reducible first | exact HI0.out | apply IsS95.alloc | apply IsS95.drewN | apply IsS95.drew | apply IsS95.set_1 | refine IsS95.far ?_ NB0_152.out _) | exact HI0.out)) hb); clear hb hbox hg; have hnb75 := NB158_152.out; have hnc75 := NB152_158.out; have hnb76 := NB158_0.out; have hnc76 := NB0_158.out; have hcz77_0 := bc w74 BK158 0 (.int .i64 0) rfl; have hcz77_1 := bc w74 BK158 1 (.slice none 0 0) rfl; have hfz77_0 := fz BK158 0; have hfz77_1 := fz BK158 1; obtain ⟨Ao78, co78, eo78⟩ := Kd.R_slice HO156.out; subst eo78) | ((with_reducible refine gate_callee (f := 87) rfl ?_); refine goesL_ (some 15) rfl rfl Try.func87 (by kernel_rfl) rfl #[.pointer (some ⟨g, 0, none⟩), .int .i64 (t154.length : Int)] rfl (by (try simp only [List.map_toArray, List.map_cons, List.map_nil]); first | done | rfl | (simp only [List.length_drop, List.length_take]; rfl)) ?_; (with_reducible refine (spec_l30Rd_pick.calls k g s0_0 t157 (t154.length : Int) t159 t160 w0 _ ?side1 ?side2 A4.out).mono ?_); (case side1 => repeat (first | (with_reducible first | exact HI0.out | apply IsS95.alloc | apply IsS95.drewN | apply IsS95.drew | apply IsS95.set_1 | refine IsS95.far ?_ NB0_152.out _ | refine IsS95.far ?_ NB0_158.out _) | exact HI0.out)); (case side2 => repeat (first | (with_reducible first | exact HB.out | apply below_alloc | apply pw_below_drewN | apply below_drew1 | refine below_set ?_ (IsS95.ge HI0.out) | refine below_set ?_ GE152.out | refine below_set ?_ GE158.out) | exact HB.out)); rintro e w79 ⟨rfl, hi, hb, hk⟩; refine ⟨_, rfl, ?_⟩; replace BK152 := ak (KeepBut.blk hk (g' := gb152) (o := .cells #[.int .i64 0, .slice none 0 0] 25 (0, 0)) (by (with_reducible repeat (first | refine blk_drewN ?_ _ | refine blk_drew ?_ | refine blk_alloc ?_ _)); refine blk_far ?_ NB152_158.out _; refine blk_far ?_ NB152_158.out _; (with_reducible repeat (first | refine blk_drewN ?_ _ | refine blk_drew ?_ | refine blk_alloc ?_ _)); exact BK152.out) NB152_0.out (by simp)); replace HO156 := ak (Kd.R_mono (Kd.R_keep (IsS95.apart (show IsS95 w0 _ g s0_0 t157 from by repeat (first | (with_reducible first | exact HI0.out | apply IsS95.alloc | apply IsS95.drewN | apply IsS95.drew | apply IsS95.set_1 | refine IsS95.far ?_ NB0_152.out _ | refine IsS95.far ?_ NB0_158.out _) | exact HI0.out)) (by (with_reducible repeat (first | apply Kd.R_alloc | apply Kd.R_drewN | apply Kd.R_drew)); exact (Kd.R_mono (Kd.R_far (p := ⟨gb158, 1, none⟩) (Kd.R_far (p := ⟨gb158, 0, none⟩) (Kd.R_types HO156.out BK158.out (by decide)) (fun _ hk => hk.2) (.int .i64 t153)) (fun _ hk => hk.2) (.slice Ao78 t154.length co78)) (fun _ h_ => h_.1))) (by decide)) hk (fun _ h => h.2)) (fun _ h => h.1)); replace BK158 := ak (KeepBut.blk hk (g' := gb158) (o := .cells #[.int .i64 t153, .slice Ao78 t154.length co78] 25 (0, 0)) (by (with_reducible repeat (first | refine blk_drewN ?_ _ | refine blk_drew ?_ | refine blk_alloc ?_ _)); refine blk_put (cs := #[.int .i64 t153, .slice none 0 0]) ?_ 1 _ rfl; refine blk_put (cs := #[.int .i64 0, .slice none 0 0]) ?_ 0 _ rfl; (with_reducible repeat (first | refine blk_drewN ?_ _ | refine blk_drew ?_ | refine blk_alloc ?_ _)); exact BK158.out) NB158_0.out (by simp)); replace HK := ak (KeepBut.trans (by repeat (first | (with_reducible first | exact HK.out | apply KeepBut.set_ | apply keep_drewN | apply keep_drew | apply keep_alloc | refine keep_far ?_ GW152.out _ | refine keep_far ?_ GW158.out _) | exact HK.out)) hk (.inl rfl)); replace HB := ak (hb); replace HI0 := ak (hi); (try clear hb); (try clear hb2); (try clear hk); (try clear hi)) | ((with_reducible refine gate_callee (f := 87) rfl ?_); refine goesL_ (some 17) rfl rfl Try.func87 (by kernel_rfl) rfl #[.pointer (some ⟨g, 0, none⟩), .int .i64 16] rfl (by (try simp only [List.map_toArray, List.map_cons, List.map_nil]); first | done | rfl | (simp only [List.length_drop, List.length_take]; rfl)) ?_; (with_reducible refine (spec_l30Rd_pick.calls k g s0_0 t160 16 t161 t162 w0 _ ?side1 ?side2 A5.out).mono ?_); (case side1 => repeat (first | (with_reducible first | exact HI0.out | apply IsS95.alloc | apply IsS95.drewN | apply IsS95.drew | apply IsS95.set_1 | refine IsS95.far ?_ NB0_152.out _ | refine IsS95.far ?_ NB0_158.out _) | exact HI0.out)); (case side2 => repeat (first | (with_reducible first | exact HB.out | apply below_alloc | apply pw_below_drewN | apply below_drew1 | refine below_set ?_ (IsS95.ge HI0.out) | refine below_set ?_ GE152.out | refine below_set ?_ GE158.out) | exact HB.out)); rintro e w80 ⟨rfl, hi, hb, hk⟩; refine ⟨_, rfl, ?_⟩; replace BK152 := ak (KeepBut.blk hk (g' := gb152) (o := .cells #[.int .i64 0, .slice none 0 0] 25 (0, 0)) (bk BK152) NB152_0.out (by simp)); replace HO156 := ak (Kd.R_mono (Kd.R_keep (IsS95.apart (show IsS95 w0 _ g s0_0 t160 from by repeat (first | (with_reducible first | exact HI0.out | apply IsS95.alloc | apply IsS95.drewN | apply IsS95.drew | apply IsS95.set_1 | refine IsS95.far ?_ NB0_152.out _ | refine IsS95.far ?_ NB0_158.out _) | exact HI0.out)) (rk HO156) (by decide)) hk (fun _ h => h.2)) (fun _ h => h.1)); replace BK158 := ak (KeepBut.blk hk (g' := gb158) (o := .cells #[.int .i64 t153, .slice Ao78 t154.length co78] 25 (0, 0)) (bk BK158) NB158_0.out (by simp)); replace HK := ak (KeepBut.trans (by repeat (first | (with_reducible first | exact HK.out | apply KeepBut.set_ | apply keep_drewN | apply keep_drew | apply keep_alloc | refine keep_far ?_ GW152.out _ | refine keep_far ?_ GW158.out _) | exact HK.out)) hk (.inl rfl)); replace HB := ak (hb); replace HI0 := ak (hi); (try clear hb); (try clear hb2); (try clear hk); (try clear hi); have hcz81_0 := bc w80 BK158 0 (.int .i64 t153) rfl; have hcz81_1 := bc w80 BK158 1 (.slice Ao78 t154.length co78) rfl; have hfz81_0 := fz BK158 0; have hfz81_1 := fz BK158 1; have hnb82 := NB152_0.out; have hnc82 := NB0_152.out; have hcz83_0 := bc w80 BK152 0 (.int .i64 0) rfl; have hcz83_1 := bc w80 BK152 1 (.slice none 0 0) rfl; have hfz83_0 := fz BK152 0; have hfz83_1 := fz BK152 1))
  refine bodyPost_ret (results_cell_row rfl _ _ gb152 25 #[.int .i64 t153, .slice Ao78 t154.length co78] (0, 0) _ rfl (by (with_reducible repeat (first | refine blk_drewN ?_ _ | refine blk_drew ?_ | refine blk_alloc ?_ _)); refine blk_put (cs := #[.int .i64 t153, .slice none 0 0]) ?_ 1 _ rfl; refine blk_put (cs := #[.int .i64 0, .slice none 0 0]) ?_ 0 _ rfl; (with_reducible repeat (first | refine blk_drewN ?_ _ | refine blk_drew ?_ | refine blk_alloc ?_ _)); exact BK152.out) Try.underlying25 rfl (by kernel_rfl)) rfl ?_
  exact ⟨_, by first | rfl | (simp [errW_none, errW_some] <;> rfl) | (simp [*, errW_none, errW_some] <;> rfl), by (with_reducible repeat (first | apply Kd.R_alloc | apply Kd.R_drewN | apply Kd.R_drew)); exact Kd.R_mono (Kd.R_far (p := ⟨gb152, 1, none⟩) (Kd.R_far (p := ⟨gb152, 0, none⟩) (Kd.R_types HO156.out BK152.out (by decide)) (fun _ hk => hk.2) (.int .i64 t153)) (fun _ hk => hk.2) (.slice Ao78 t154.length co78)) (fun _ hk => trivial), by repeat (first | (with_reducible first | exact HI0.out | apply IsS95.alloc | apply IsS95.drewN | apply IsS95.drew | apply IsS95.set_1 | refine IsS95.far ?_ NB0_152.out _ | refine IsS95.far ?_ NB0_158.out _) | exact HI0.out), by repeat (first | (with_reducible first | exact HB.out | apply below_alloc | apply pw_below_drewN | apply below_drew1 | refine below_set ?_ (IsS95.ge HI0.out) | refine below_set ?_ GE152.out | refine below_set ?_ GE158.out) | exact HB.out), by repeat (first | (with_reducible first | exact HK.out | apply KeepBut.set_ | apply keep_drewN | apply keep_drew | apply keep_alloc | refine keep_far ?_ GW152.out _ | refine keep_far ?_ GW158.out _) | exact HK.out)⟩
 rw [if_pos c54] at H
 have c54b0 : (t161 == 2) = true := beq_iff_eq.mpr c54
 have c54b1 : (t161 != 2) = false := bne_eq_false_iff_eq.mpr c54
 clear c54
 obtain ⟨y176, hy176⟩ : ∃ y_ : List Int, y_ = (([0, 1, 9, 8] : List Int)) := ⟨_, rfl⟩
 replace H : ((spec_l30Rd_one.f k s0_0 t162 y176).bind fun bt179 => (some (bt179.1, t154, bt179.2))) = some (r1, r2, r3) := by first | (rw [hy176]; with_reducible exact H) | (have H2_ := (Option.bind_some _ _).symm.trans H; rw [hy176]; with_reducible exact H2_) | (have H2_ := (Option.bind_some _ _).symm.trans H; with_reducible exact H2_) | with_reducible exact H | (rw [hy176]; exact H) | exact H
 have Ny176 := ak hy176
 clear hy176
 replace H := Option.bind_eq_some_iff.mp H
 obtain ⟨⟨t179, t180⟩, A550, H⟩ := H
 have A55 := ak A550
 clear A550
 simp only [Option.some.injEq, Prod.mk.injEq] at H
 obtain ⟨rfl, rfl, rfl⟩ := H
 go_enter Try.func45, Try.ntmps45
 go_wp2_with (first | ((with_reducible refine gate_dst (N := 2) rfl ?_); refine box_event ?hg (N := 2) ?hd (cs := #[.int .i64 0, .slice none 0 0]) (t := 25) ?hr ?_; (case hd => rfl); (case hg => rfl); (case hr => first | (go_simp; done) | (go_simp; rfl)); intro gb152 hg w56 hbox hb; replace HB := ak (below_step (by repeat (first | (with_reducible first | exact HB.out | apply below_alloc | apply pw_below_drewN | apply below_drew1 | refine below_set ?_ (IsS95.ge HI0.out)) | exact HB.out)) hb); have BK152 := ak (hbox); have GW152 := ak ((by rw [hg]; exact (keep_size (w := w) (g := g) (row := none) (by repeat (first | (with_reducible first | exact HK.out | apply KeepBut.set_ | apply keep_drewN | apply keep_drew | apply keep_alloc) | exact HK.out))) : w.heap.size ≤ gb152)); have GE152 := ak ((Nat.le_trans HW0.out (by rw [hg]; exact (keep_size (w := w) (g := g) (row := none) (by repeat (first | (with_reducible first | exact HK.out | apply KeepBut.set_ | apply keep_drewN | apply keep_drew | apply keep_alloc) | exact HK.out))) : w.heap.size ≤ gb152) : w0.heap.size ≤ gb152)); replace HK := ak (KeepBut.trans (by repeat (first | (with_reducible first | exact HK.out | apply KeepBut.set_ | apply keep_drewN | apply keep_drew | apply keep_alloc) | exact HK.out)) (KeepBut.of_below hb g none) (.inl rfl)); have NB0_152 := ak ((by rw [hg]; exact Nat.ne_of_lt (IsS95.lt (show IsS95 w0 _ g s0_0 s0_1 from by repeat (first | (with_reducible first | exact HI0.out | apply IsS95.alloc | apply IsS95.drewN | apply IsS95.drew | apply IsS95.set_1) | exact HI0.out))) : g ≠ gb152)); have NB152_0 := ak ((by rw [hg]; exact Nat.ne_of_gt (IsS95.lt (show IsS95 w0 _ g s0_0 s0_1 from by repeat (first | (with_reducible first | exact HI0.out | apply IsS95.alloc | apply IsS95.drewN | apply IsS95.drew | apply IsS95.set_1) | exact HI0.out))) : gb152 ≠ g)); replace HI0 := ak (IsS95.below (by repeat (first | (with_reducible first | exact HI0.out | apply IsS95.alloc | apply IsS95.drewN | apply IsS95.drew | apply IsS95.set_1) | exact HI0.out)) hb); clear hb hbox hg) | ((with_reducible refine gate_callee (f := 86) rfl ?_); refine goesL_ (some 6) rfl rfl Try.func86 (by kernel_rfl) rfl #[.pointer (some ⟨g, 0, none⟩)] rfl (by (try simp only [List.map_toArray, List.map_cons, List.map_nil]); first | done | rfl | (simp only [List.length_drop, List.length_take]; rfl)) ?_; (with_reducible refine (spec_l30Net.calls k g s0_0 s0_1 t153 t154 t157 w0 _ ?side1 ?side2 A2.out).mono ?_); (case side1 => repeat (first | (with_reducible first | exact HI0.out | apply IsS95.alloc | apply IsS95.drewN | apply IsS95.drew | apply IsS95.set_1 | refine IsS95.far ?_ NB0_152.out _) | exact HI0.out)); (case side2 => repeat (first | (with_reducible first | exact HB.out | apply below_alloc | apply pw_below_drewN | apply below_drew1 | refine below_set ?_ (IsS95.ge HI0.out) | refine below_set ?_ GE152.out) | exact HB.out)); rintro e w57 ⟨v155, rfl, ho0, hi, hb, hk⟩; refine ⟨_, rfl, ?_⟩; replace BK152 := ak (KeepBut.blk hk (g' := gb152) (o := .cells #[.int .i64 0, .slice none 0 0] 25 (0, 0)) (bk BK152) NB152_0.out (by simp)); have HO156 := ak (Kd.R_lower ho0 (keep_size (w := w) (g := g) (row := none) (by repeat (first | (with_reducible first | exact HK.out | apply KeepBut.set_ | apply keep_drewN | apply keep_drew | apply keep_alloc | refine keep_far ?_ GW152.out _) | exact HK.out)))); replace HK := ak (KeepBut.trans (by repeat (first | (with_reducible first | exact HK.out | apply KeepBut.set_ | apply keep_drewN | apply keep_drew | apply keep_alloc | refine keep_far ?_ GW152.out _) | exact HK.out)) hk (.inl rfl)); replace HB := ak (hb); replace HI0 := ak (hi); (try clear hb); (try clear hb2); (try clear hk); (try clear hi); (try clear ho0)) | ((with_reducible refine gate_dst (N := 3) rfl ?_); refine box_event ?hg (N := 3) ?hd (cs := #[.int .i64 0, .slice none 0 0]) (t := 25) ?hr ?_; (case hd => rfl); (case hg => rfl); (case hr => first | (go_simp; done) | (go_simp; rfl)); intro gb158 hg w58 hbox hb; replace HO156 := ak (Kd.R_below (rk HO156) hb); replace HB := ak (below_step (by repeat (first | (with_reducible first | exact HB.out | apply below_alloc | apply pw_below_drewN | apply below_drew1 | refine below_set ?_ (IsS95.ge HI0.out) | refine below_set ?_ GE152.out) | exact HB.out)) hb); have BK158 := ak (hbox); have GW158 := ak ((by rw [hg]; exact (keep_size (w := w) (g := g) (row := none) (by repeat (first | (with_reducible first | exact HK.out | apply KeepBut.set_ | apply keep_drewN | apply keep_drew | apply keep_alloc | refine keep_far ?_ GW152.out _) | exact HK.out))) : w.heap.size ≤ gb158)); have GE158 := ak ((Nat.le_trans HW0.out (by rw [hg]; exact (keep_size (w := w) (g := g) (row := none) (by repeat (first | (with_reducible first | exact HK.out | apply KeepBut.set_ | apply keep_drewN | apply keep_drew | apply keep_alloc | refine keep_far ?_ GW152.out _) | exact HK.out))) : w.heap.size ≤ gb158) : w0.heap.size ≤ gb158)); replace HK := ak (KeepBut.trans (by repeat (first | (with_reducible first | exact HK.out | apply KeepBut.set_ | apply keep_drewN | apply keep_drew | apply keep_alloc | refine keep_far ?_ GW152.out _) | exact HK.out)) (KeepBut.of_below hb g none) (.inl rfl)); have NB152_158 := ak ((by rw [hg]; exact Nat.ne_of_lt (blk_lt (bk BK152)) : gb152 ≠ gb158)); have NB158_152 := ak ((by rw [hg]; exact Nat.ne_of_gt (blk_lt (bk BK152)) : gb158 ≠ gb152)); replace BK152 := ak (blk_below (bk BK152) hb); have NB0_158 := ak ((by rw [hg]; exact Nat.ne_of_lt (IsS95.lt (show IsS95 w0 _ g s0_0 t157 from by repeat (first | (with_reducible first | exact HI0.out | apply IsS95.alloc | apply IsS95.drewN | apply IsS95.drew | apply IsS95.set_1 | refine IsS95.far ?_ NB0_152.out _) | exact HI0.out))) : g ≠ gb158)); have NB158_0 := ak ((by rw [hg]; exact Nat.ne_of_gt (IsS95.lt (show IsS95 w0 _ g s0_0 t157 from by repeat (first | (with_reducible first | exact HI0.out | apply IsS95.alloc | apply IsS95.drewN | apply IsS95.drew | apply IsS95.set_1 | refine IsS95.far ?_ NB0_152.out _) | exact HI0.out))) : gb158 ≠ g)); replace HI0 := ak (IsS95.below (by repeat (first | (with_reducible first | exact HI0.out | apply IsS95.alloc | apply IsS95.drewN | apply IsS95.drew | apply IsS95.set_1 | refine IsS95.far ?_ NB0_152.out _) | exact HI0.out)) hb); clear hb hbox hg; have hnb59 := NB158_152.out; have hnc59 := NB152_158.out; have hnb60 := NB158_0.out; have hnc60 := NB0_158.out; have hcz61_0 := bc w58 BK158 0 (.int .i64 0) rfl; have hcz61_1 := bc w58 BK158 1 (.slice none 0 0) rfl; have hfz61_0 := fz BK158 0; have hfz61_1 := fz BK158 1; obtain ⟨Ao62, co62, eo62⟩ := Kd.R_slice HO156.out; subst eo62) | ((with_reducible refine gate_callee (f := 87) rfl ?_); refine goesL_ (some 15) rfl rfl Try.func87 (by kernel_rfl) rfl #[.pointer (some ⟨g, 0, none⟩), .int .i64 (t154.length : Int)] rfl (by (try simp only [List.map_toArray, List.map_cons, List.map_nil]); first | done | rfl | (simp only [List.length_drop, List.length_take]; rfl)) ?_; (with_reducible refine (spec_l30Rd_pick.calls k g s0_0 t157 (t154.length : Int) t159 t160 w0 _ ?side1 ?side2 A4.out).mono ?_); (case side1 => repeat (first | (with_reducible first | exact HI0.out | apply IsS95.alloc | apply IsS95.drewN | apply IsS95.drew | apply IsS95.set_1 | refine IsS95.far ?_ NB0_152.out _ | refine IsS95.far ?_ NB0_158.out _) | exact HI0.out)); (case side2 => repeat (first | (with_reducible first | exact HB.out | apply below_alloc | apply pw_below_drewN | apply below_drew1 | refine below_set ?_ (IsS95.ge HI0.out) | refine below_set ?_ GE152.out | refine below_set ?_ GE158.out) | exact HB.out)); rintro e w63 ⟨rfl, hi, hb, hk⟩; refine ⟨_, rfl, ?_⟩; replace BK152 := ak (KeepBut.blk hk (g' := gb152) (o := .cells #[.int .i64 0, .slice none 0 0] 25 (0, 0)) (by (with_reducible repeat (first | refine blk_drewN ?_ _ | refine blk_drew ?_ | refine blk_alloc ?_ _)); refine blk_far ?_ NB152_158.out _; refine blk_far ?_ NB152_158.out _; (with_reducible repeat (first | refine blk_drewN ?_ _ | refine blk_drew ?_ | refine blk_alloc ?_ _)); exact BK152.out) NB152_0.out (by simp)); replace HO156 := ak (Kd.R_mono (Kd.R_keep (IsS95.apart (show IsS95 w0 _ g s0_0 t157 from by repeat (first | (with_reducible first | exact HI0.out | apply IsS95.alloc | apply IsS95.drewN | apply IsS95.drew | apply IsS95.set_1 | refine IsS95.far ?_ NB0_152.out _ | refine IsS95.far ?_ NB0_158.out _) | exact HI0.out)) (by (with_reducible repeat (first | apply Kd.R_alloc | apply Kd.R_drewN | apply Kd.R_drew)); exact (Kd.R_mono (Kd.R_far (p := ⟨gb158, 1, none⟩) (Kd.R_far (p := ⟨gb158, 0, none⟩) (Kd.R_types HO156.out BK158.out (by decide)) (fun _ hk => hk.2) (.int .i64 t153)) (fun _ hk => hk.2) (.slice Ao62 t154.length co62)) (fun _ h_ => h_.1))) (by decide)) hk (fun _ h => h.2)) (fun _ h => h.1)); replace BK158 := ak (KeepBut.blk hk (g' := gb158) (o := .cells #[.int .i64 t153, .slice Ao62 t154.length co62] 25 (0, 0)) (by (with_reducible repeat (first | refine blk_drewN ?_ _ | refine blk_drew ?_ | refine blk_alloc ?_ _)); refine blk_put (cs := #[.int .i64 t153, .slice none 0 0]) ?_ 1 _ rfl; refine blk_put (cs := #[.int .i64 0, .slice none 0 0]) ?_ 0 _ rfl; (with_reducible repeat (first | refine blk_drewN ?_ _ | refine blk_drew ?_ | refine blk_alloc ?_ _)); exact BK158.out) NB158_0.out (by simp)); replace HK := ak (KeepBut.trans (by repeat (first | (with_reducible first | exact HK.out | apply KeepBut.set_ | apply keep_drewN | apply keep_drew | apply keep_alloc | refine keep_far ?_ GW152.out _ | refine keep_far ?_ GW158.out _) | exact HK.out)) hk (.inl rfl)); replace HB := ak (hb); replace HI0 := ak (hi); (try clear hb); (try clear hb2); (try clear hk); (try clear hi)) | ((with_reducible refine gate_callee (f := 87) rfl ?_); refine goesL_ (some 17) rfl rfl Try.func87 (by kernel_rfl) rfl #[.pointer (some ⟨g, 0, none⟩), .int .i64 16] rfl (by (try simp only [List.map_toArray, List.map_cons, List.map_nil]); first | done | rfl | (simp only [List.length_drop, List.length_take]; rfl)) ?_; (with_reducible refine (spec_l30Rd_pick.calls k g s0_0 t160 16 t161 t162 w0 _ ?side1 ?side2 A5.out).mono ?_); (case side1 => repeat (first | (with_reducible first | exact HI0.out | apply IsS95.alloc | apply IsS95.drewN | apply IsS95.drew | apply IsS95.set_1 | refine IsS95.far ?_ NB0_152.out _ | refine IsS95.far ?_ NB0_158.out _) | exact HI0.out)); (case side2 => repeat (first | (with_reducible first | exact HB.out | apply below_alloc | apply pw_below_drewN | apply below_drew1 | refine below_set ?_ (IsS95.ge HI0.out) | refine below_set ?_ GE152.out | refine below_set ?_ GE158.out) | exact HB.out)); rintro e w64 ⟨rfl, hi, hb, hk⟩; refine ⟨_, rfl, ?_⟩; replace BK152 := ak (KeepBut.blk hk (g' := gb152) (o := .cells #[.int .i64 0, .slice none 0 0] 25 (0, 0)) (bk BK152) NB152_0.out (by simp)); replace HO156 := ak (Kd.R_mono (Kd.R_keep (IsS95.apart (show IsS95 w0 _ g s0_0 t160 from by repeat (first | (with_reducible first | exact HI0.out | apply IsS95.alloc | apply IsS95.drewN | apply IsS95.drew | apply IsS95.set_1 | refine IsS95.far ?_ NB0_152.out _ | refine IsS95.far ?_ NB0_158.out _) | exact HI0.out)) (rk HO156) (by decide)) hk (fun _ h => h.2)) (fun _ h => h.1)); replace BK158 := ak (KeepBut.blk hk (g' := gb158) (o := .cells #[.int .i64 t153, .slice Ao62 t154.length co62] 25 (0, 0)) (bk BK158) NB158_0.out (by simp)); replace HK := ak (KeepBut.trans (by repeat (first | (with_reducible first | exact HK.out | apply KeepBut.set_ | apply keep_drewN | apply keep_drew | apply keep_alloc | refine keep_far ?_ GW152.out _ | refine keep_far ?_ GW158.out _) | exact HK.out)) hk (.inl rfl)); replace HB := ak (hb); replace HI0 := ak (hi); (try clear hb); (try clear hb2); (try clear hk); (try clear hi)) | ((with_reducible refine gate_dst (N := 47) rfl ?_); refine Kd.R_lit (Kd.int .i64) _ 3 ?hg (N := 47) ?hd (xs := ([0, 1, 9, 8] : List Int)) (inner := [.int .i64 0, .int .i64 1, .int .i64 9, .int .i64 8]) (ok := fun _ => True) (okp := fun _ => True) ?hr ?hp (fun _ hk => hk) trivial (Below.refl _ _) (Nat.le_refl _) (by simp) ?_; (case hd => rfl); (case hg => rfl); (case hr => first | (go_simp; done) | (go_simp; rfl)); (case hp => exact (Reps.one (show Kd.M (Kd.int .i64) _ _ _ 0 [.int .i64 0] from rfl) (Reps.one (show Kd.M (Kd.int .i64) _ _ _ 1 [.int .i64 1] from rfl) (Reps.one (show Kd.M (Kd.int .i64) _ _ _ 9 [.int .i64 9] from rfl) (Reps.one (show Kd.M (Kd.int .i64) _ _ _ 8 [.int .i64 8] from rfl) (Reps.none _ _)))))); intro v177 w65 ho66 hb hg_ hnew_; clear hg_ hnew_; (first | rw [← Ny176.out] at ho66 | (simp only [Int.reduceToNat] at ho66; rw [← Ny176.out] at ho66)); replace HO156 := ak (Kd.R_below (rk HO156) hb); have HO178 := ak (Kd.R_lower ho66 (keep_size (w := w) (g := g) (row := none) (by repeat (first | (with_reducible first | exact HK.out | apply KeepBut.set_ | apply keep_drewN | apply keep_drew | apply keep_alloc | refine keep_far ?_ GW152.out _ | refine keep_far ?_ GW158.out _) | exact HK.out)))); replace BK152 := ak (blk_below (bk BK152) hb); replace BK158 := ak (blk_below (bk BK158) hb); replace HK := ak (KeepBut.trans (by repeat (first | (with_reducible first | exact HK.out | apply KeepBut.set_ | apply keep_drewN | apply keep_drew | apply keep_alloc | refine keep_far ?_ GW152.out _ | refine keep_far ?_ GW158.out _) | exact HK.out)) (KeepBut.of_below hb g none) (.inl rfl)); replace HB := ak (below_step (by repeat (first | (with_reducible first | exact HB.out | apply below_alloc | apply pw_below_drewN | apply below_drew1 | refine below_set ?_ (IsS95.ge HI0.out) | refine below_set ?_ GE152.out | refine below_set ?_ GE158.out) | exact HB.out)) hb); replace HI0 := ak (IsS95.below (by repeat (first | (with_reducible first | exact HI0.out | apply IsS95.alloc | apply IsS95.drewN | apply IsS95.drew | apply IsS95.set_1 | refine IsS95.far ?_ NB0_152.out _ | refine IsS95.far ?_ NB0_158.out _) | exact HI0.out)) hb); clear hb ho66; obtain ⟨Ao67, co67, eo67⟩ := Kd.R_slice HO178.out; subst eo67) | ((with_reducible refine gate_callee (f := 47) rfl ?_); refine goesL_ (some 48) rfl rfl Try.func47 (by kernel_rfl) rfl #[.pointer (some ⟨g, 0, none⟩), .slice Ao67 y176.length co67] rfl (by (try simp only [List.map_toArray, List.map_cons, List.map_nil]); first | done | rfl | (simp only [List.length_drop, List.length_take]; rfl)) ?_; (with_reducible refine (spec_l30Rd_one.calls k g s0_0 t162 _ _ y176 t179 t180 w0 _ ?side1 ?side2 ?side3 ?side4 ?side5 A55.out).mono ?_); (case side1 => repeat (first | (with_reducible first | exact HI0.out | apply IsS95.alloc | apply IsS95.drewN | apply IsS95.drew | apply IsS95.set_1 | refine IsS95.far ?_ NB0_152.out _ | refine IsS95.far ?_ NB0_158.out _) | exact HI0.out)); (case side2 => repeat (first | (with_reducible first | exact HB.out | apply below_alloc | apply pw_below_drewN | apply below_drew1 | refine below_set ?_ (IsS95.ge HI0.out) | refine below_set ?_ GE152.out | refine below_set ?_ GE158.out) | exact HB.out)); (case side3 => repeat (first | exact (Kd.R_reads' HO178.out).2.2 | (with_reducible refine Kd.C_alloc ?_ _) | (with_reducible refine Kd.C_drewN ?_ _) | (with_reducible refine Kd.C_drew ?_))); (case side4 => exact (Kd.R_reads' HO178.out).2.1); (case side5 => exact far_slice (IsS95.own_ne HI0.out HO178.out (by decide))); rintro e w68 ⟨rfl, hi, hb, hk⟩; refine ⟨_, rfl, ?_⟩; replace BK152 := ak (KeepBut.blk hk (g' := gb152) (o := .cells #[.int .i64 0, .slice none 0 0] 25 (0, 0)) (bk BK152) NB152_0.out (by simp)); replace HO156 := ak (Kd.R_mono (Kd.R_keep (IsS95.apart (show IsS95 w0 _ g s0_0 t162 from by repeat (first | (with_reducible first | exact HI0.out | apply IsS95.alloc | apply IsS95.drewN | apply IsS95.drew | apply IsS95.set_1 | refine IsS95.far ?_ NB0_152.out _ | refine IsS95.far ?_ NB0_158.out _) | exact HI0.out)) (rk HO156) (by decide)) hk (fun _ h => h.2)) (fun _ h => h.1)); replace BK158 := ak (KeepBut.blk hk (g' := gb158) (o := .cells #[.int .i64 t153, .slice Ao62 t154.length co62] 25 (0, 0)) (bk BK158) NB158_0.out (by simp)); replace HO178 := ak (Kd.R_mono (Kd.R_keep (IsS95.apart (show IsS95 w0 _ g s0_0 t162 from by repeat (first | (with_reducible first | exact HI0.out | apply IsS95.alloc | apply IsS95.drewN | apply IsS95.drew | apply IsS95.set_1 | refine IsS95.far ?_ NB0_152.out _ | refine IsS95.far ?_ NB0_158.out _) | exact HI0.out)) (rk HO178) (by decide)) hk (fun _ h => h.2)) (fun _ h => h.1)); replace HK := ak (KeepBut.trans (by repeat (first | (with_reducible first | exact HK.out | apply KeepBut.set_ | apply keep_drewN | apply keep_drew | apply keep_alloc | refine keep_far ?_ GW152.out _ | refine keep_far ?_ GW158.out _) | exact HK.out)) hk (.inl rfl)); replace HB := ak (hb); replace HI0 := ak (hi); (try clear hb); (try clear hb2); (try clear hk); (try clear hi); have hcz69_0 := bc w68 BK158 0 (.int .i64 t153) rfl; have hcz69_1 := bc w68 BK158 1 (.slice Ao62 t154.length co62) rfl; have hfz69_0 := fz BK158 0; have hfz69_1 := fz BK158 1; have hnb70 := NB152_0.out; have hnc70 := NB0_152.out; have hcz71_0 := bc w68 BK152 0 (.int .i64 0) rfl; have hcz71_1 := bc w68 BK152 1 (.slice none 0 0) rfl; have hfz71_0 := fz BK152 0; have hfz71_1 := fz BK152 1))
 refine bodyPost_ret (results_cell_row rfl _ _ gb152 25 #[.int .i64 t179, .slice Ao62 t154.length co62] (0, 0) _ rfl (by (with_reducible repeat (first | refine blk_drewN ?_ _ | refine blk_drew ?_ | refine blk_alloc ?_ _)); refine blk_put (cs := #[.int .i64 t179, .slice none 0 0]) ?_ 1 _ rfl; refine blk_put (cs := #[.int .i64 0, .slice none 0 0]) ?_ 0 _ rfl; refine blk_far ?_ NB152_158.out _; (with_reducible repeat (first | refine blk_drewN ?_ _ | refine blk_drew ?_ | refine blk_alloc ?_ _)); exact BK152.out) Try.underlying25 rfl (by kernel_rfl)) rfl ?_
 exact ⟨_, by first | rfl | (simp [errW_none, errW_some] <;> rfl) | (simp [*, errW_none, errW_some] <;> rfl), by (with_reducible repeat (first | apply Kd.R_alloc | apply Kd.R_drewN | apply Kd.R_drew)); exact Kd.R_mono (Kd.R_far (p := ⟨gb152, 1, none⟩) (Kd.R_far (p := ⟨gb152, 0, none⟩) (Kd.R_far (p := ⟨gb158, 0, none⟩) (Kd.R_types (Kd.R_types HO156.out BK158.out (by decide)) BK152.out (by decide)) (fun _ hk => hk.1.2) (.int .i64 t179)) (fun _ hk => hk.2) (.int .i64 t179)) (fun _ hk => hk.2) (.slice Ao62 t154.length co62)) (fun _ hk => trivial), by repeat (first | (with_reducible first | exact HI0.out | apply IsS95.alloc | apply IsS95.drewN | apply IsS95.drew | apply IsS95.set_1 | refine IsS95.far ?_ NB0_152.out _ | refine IsS95.far ?_ NB0_158.out _) | exact HI0.out), by repeat (first | (with_reducible first | exact HB.out | apply below_alloc | apply pw_below_drewN | apply below_drew1 | refine below_set ?_ (IsS95.ge HI0.out) | refine below_set ?_ GE152.out | refine below_set ?_ GE158.out) | exact HB.out), by repeat (first | (with_reducible first | exact HK.out | apply KeepBut.set_ | apply keep_drewN | apply keep_drew | apply keep_alloc | refine keep_far ?_ GW152.out _ | refine keep_far ?_ GW158.out _) | exact HK.out)⟩

end Go.Proofs.Ytlgolgfcolnddaa.F
