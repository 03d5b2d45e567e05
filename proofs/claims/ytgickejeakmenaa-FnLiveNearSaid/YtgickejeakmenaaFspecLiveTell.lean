-- Printed by wip/px/px.py of this claim's repository (the kit's printer, extended there). Lean checks it.
import Derived.Test.YtgickejeakmenaaFKinds
import Derived.Test.YtgickejeakmenaaFspecl16Ok
import Derived.Test.YtgickejeakmenaaFspecl1Copy
import Derived.Test.YtgickejeakmenaaFspecl16Copy
namespace Go.Proofs.Ytgickejeakmenaa.F
open Go.RowKit Go.Proofs.YtgickejeakmenaaW.PrintWords Go.Proofs.YtgickejeakmenaaW.PrintLast Go.Proofs.YtgickejeakmenaaW.PrintMore
attribute [local go_sem] max2_int min2_int max_two min_two max_three min_three max_four min_four   -- for this text's walks alone
set_option linter.unusedVariables false
set_option linter.unusedSimpArgs false

/-! ### spec_LiveTell: function 112 -/
mutual
def spec_LiveTell.l0 : Nat → Bool → Int → Int → List (S41) → List (S113) → Int → Int → Int → Int → List (S41) → List (S113) → Option (Int × (List (S41)) × (List (S113)) × Bool)
 | 0, _, _, _, _, _, _, _, _, _, _, _ => none
 | k + 1, x7, x8, x644000, x644001, x644002, x645000, x645001, x645002, x652000, x652001, x652002 => if x8 < (x644002.length : Int) then (if x7 = true then (spec_LiveTell.j1 k x7 x8 false x644000 x644001 x644002 x645000 x645001 x645002 x652000 x652001 x652002) else (if 0 ≤ x8 then (spec_LiveTell.j1 k x7 x8 (decide (((rd_T113 x644002 x8).f0) ≥ x645000)) x644000 x644001 x644002 x645000 x645001 x645002 x652000 x652001 x652002) else (none))) else (if x7 = true then (spec_LiveTell.j2 k x644000 x644001 x644002 x652000 x652001 x652002) else (if x652002.length < 5864062014805 then (spec_LiveTell.j2 k x644000 x644001 x644002 x652000 x652001 (x652002 ++ [(⟨x645000, x645001, x645002⟩ : S113)])) else (none)))
def spec_LiveTell.j1 : Nat → Bool → Int → Bool → Int → List (S41) → List (S113) → Int → Int → Int → Int → List (S41) → List (S113) → Option (Int × (List (S41)) × (List (S113)) × Bool)
 | 0, _, _, _, _, _, _, _, _, _, _, _, _ => none
 | k + 1, x7, x8, x36, x644000, x644001, x644002, x645000, x645001, x645002, x652000, x652001, x652002 => if x36 = true then (if x652002.length < 5864062014805 then ((some (x652002 ++ [(⟨x645000, x645001, x645002⟩ : S113)] : List (S113))).bind fun y653 => (if 0 ≤ x8 then (if x8 < (x644002.length : Int) then (if ((rd_T113 x644002 x8).f0) = x645000 then (spec_LiveTell.l0 k true (wrap64 (x8 + 1)) x644000 x644001 x644002 x645000 x645001 x645002 x652000 x652001 y653) else (if y653.length < 5864062014805 then (spec_LiveTell.l0 k true (wrap64 (x8 + 1)) x644000 x644001 x644002 x645000 x645001 x645002 x652000 x652001 (y653 ++ [(⟨(rd_T113 x644002 x8).f0, (rd_T113 x644002 x8).f1, (rd_T113 x644002 x8).f2⟩ : S113)])) else (none))) else (none)) else (none))) else (none)) else (if 0 ≤ x8 then (if x8 < (x644002.length : Int) then (if ((rd_T113 x644002 x8).f0) = x645000 then (spec_LiveTell.l0 k x7 (wrap64 (x8 + 1)) x644000 x644001 x644002 x645000 x645001 x645002 x652000 x652001 x652002) else (if x652002.length < 5864062014805 then (spec_LiveTell.l0 k x7 (wrap64 (x8 + 1)) x644000 x644001 x644002 x645000 x645001 x645002 x652000 x652001 (x652002 ++ [(⟨(rd_T113 x644002 x8).f0, (rd_T113 x644002 x8).f1, (rd_T113 x644002 x8).f2⟩ : S113)])) else (none))) else (none)) else (none))
def spec_LiveTell.j2 : Nat → Int → List (S41) → List (S113) → Int → List (S41) → List (S113) → Option (Int × (List (S41)) × (List (S113)) × Bool)
 | 0, _, _, _, _, _, _ => none
 | k + 1, x644000, x644001, x644002, x652000, x652001, x652002 => (spec_l16Ok.f k x652000 x652001 x652002).bind fun t669 => (if t669 = true then (some (x652000, x652001, x652002, true)) else ((spec_l16Copy.f x644000 x644001 x644002).bind fun bt670 => (some (bt670.1, bt670.2.1, bt670.2.2, false))))
end
def spec_LiveTell.f (k : Nat) (a0_0 : Int) (l0_1 : List (S41)) (l0_2 : List (S113)) (a1_0 : Int) (a1_1 : Int) (a1_2 : Int) : Option (Int × (List (S41)) × (List (S113)) × Bool) := (spec_l16Ok.f k a0_0 l0_1 l0_2).bind fun t646 => (if t646 = true then ((spec_l1Copy.f a0_0 l0_1).bind fun bt647 => (spec_LiveTell.l0 k false 0 a0_0 l0_1 l0_2 a1_0 a1_1 a1_2 bt647.1 bt647.2 ([] : List (S113)))) else (some (0, ([] : List (S41)), ([] : List (S113)), false)))
theorem spec_LiveTell.mono_l : ∀ k, (∀ y0 y1 y2 y3 y4 y5 y6 y7 y8 y9 y10, LeO (spec_LiveTell.l0 k y0 y1 y2 y3 y4 y5 y6 y7 y8 y9 y10) (spec_LiveTell.l0 (k + 1) y0 y1 y2 y3 y4 y5 y6 y7 y8 y9 y10)) ∧ (∀ y0 y1 y2 y3 y4 y5 y6 y7 y8 y9 y10 y11, LeO (spec_LiveTell.j1 k y0 y1 y2 y3 y4 y5 y6 y7 y8 y9 y10 y11) (spec_LiveTell.j1 (k + 1) y0 y1 y2 y3 y4 y5 y6 y7 y8 y9 y10 y11)) ∧ (∀ y0 y1 y2 y3 y4 y5, LeO (spec_LiveTell.j2 k y0 y1 y2 y3 y4 y5) (spec_LiveTell.j2 (k + 1) y0 y1 y2 y3 y4 y5))
 | 0 => ⟨fun _ _ _ _ _ _ _ _ _ _ _ r h => by simp [spec_LiveTell.l0] at h, fun _ _ _ _ _ _ _ _ _ _ _ _ r h => by simp [spec_LiveTell.j1] at h, fun _ _ _ _ _ _ r h => by simp [spec_LiveTell.j2] at h⟩
 | k + 1 => by
  obtain ⟨ih0, ih1, ih2⟩ := spec_LiveTell.mono_l k
  refine ⟨?_, ?_, ?_⟩
  ·intro y0 y1 y2 y3 y4 y5 y6 y7 y8 y9 y10
   unfold spec_LiveTell.l0
   repeat' first | (with_reducible exact ih1 _ _ _ _ _ _ _ _ _ _ _ _) | (with_reducible exact ih2 _ _ _ _ _ _) | (with_reducible exact LeO.refl _) | (with_reducible refine LeO.ite ?_ ?_)
  ·intro y0 y1 y2 y3 y4 y5 y6 y7 y8 y9 y10 y11
   unfold spec_LiveTell.j1
   repeat' first | (with_reducible exact ih0 _ _ _ _ _ _ _ _ _ _ _) | (with_reducible exact LeO.refl _) | (with_reducible refine LeO.ite ?_ ?_) | (with_reducible refine LeO.bind ?_ (fun _ => ?_))
  ·intro y0 y1 y2 y3 y4 y5
   unfold spec_LiveTell.j2
   repeat' first | (with_reducible exact spec_l16Ok.mono _ _ _ _) | (with_reducible exact LeO.refl _) | (with_reducible refine LeO.bind ?_ (fun _ => ?_))
theorem spec_LiveTell.mono : ∀ a0 a1 a2 a3 a4 a5 k, LeO (spec_LiveTell.f k a0 a1 a2 a3 a4 a5) (spec_LiveTell.f (k + 1) a0 a1 a2 a3 a4 a5) := by
 intro a0 a1 a2 a3 a4 a5 k
 obtain ⟨ih0, ih1, ih2⟩ := spec_LiveTell.mono_l k
 unfold spec_LiveTell.f
 repeat' first | (with_reducible exact ih0 _ _ _ _ _ _ _ _ _ _ _) | (with_reducible exact spec_l16Ok.mono _ _ _ _) | (with_reducible exact LeO.refl _) | (with_reducible refine LeO.ite ?_ ?_) | (with_reducible refine LeO.bind ?_ (fun _ => ?_))
def spec_LiveTell.T8 : Bool × List (List Nat × List Nat) := (true, [([], []), ([0], [0]), ([1], [1]), ([2], [2]), ([3, 2], [2, 3]), ([2], [2]), ([4, 5, 2], [2, 4, 5]), ([6, 2], [2, 6]), ([7, 2], [2, 7]), ([2], [2]), ([9, 2], [2, 9]), ([8, 10, 2], [2, 8, 10]), ([2, 11], [2, 11])])
def spec_LiveTell.B8 : List Nat := [0, 1, 3, 7, 15, 7, 63, 127, 255, 7, 519, 2047, 4095]
theorem spec_LiveTell.tab8 : rtab .any (opsOf Try.f112 8) = spec_LiveTell.T8 := by kernel_rfl
theorem spec_LiveTell.bits8 : waitsOk spec_LiveTell.T8.2 spec_LiveTell.B8 = true := by kernel_rfl
def spec_LiveTell.T11 : Bool × List (List Nat × List Nat) := (true, [([], []), ([0], [0]), ([], []), ([1, 2], [1, 2]), ([3], [3]), ([4], [4]), ([], []), ([6], [6]), ([5, 7], [5, 7])])
def spec_LiveTell.B11 : List Nat := [0, 1, 0, 7, 15, 31, 0, 64, 255]
theorem spec_LiveTell.tab11 : rtab .any (opsOf Try.f112 11) = spec_LiveTell.T11 := by kernel_rfl
theorem spec_LiveTell.bits11 : waitsOk spec_LiveTell.T11.2 spec_LiveTell.B11 = true := by kernel_rfl
def spec_LiveTell.T12 : Bool × List (List Nat × List Nat) := (true, [([], []), ([0], [0]), ([], []), ([2], [2]), ([], []), ([3, 4], [3, 4]), ([5], [5]), ([6], [6]), ([1, 7], [1, 7]), ([0, 1, 2, 3, 4, 5, 6, 7, 8], []), ([9, 8, 8, 0, 1, 2, 3, 4, 5, 6, 7, 8], [8, 9])])
def spec_LiveTell.B12 : List Nat := [0, 1, 0, 4, 0, 28, 60, 124, 255, 511, 1023]
theorem spec_LiveTell.tab12 : rtab .any (opsOf Try.f112 12) = spec_LiveTell.T12 := by kernel_rfl
theorem spec_LiveTell.bits12 : waitsOk spec_LiveTell.T12.2 spec_LiveTell.B12 = true := by kernel_rfl
set_option maxHeartbeats 8000000 in
set_option maxRecDepth 100000 in
theorem spec_LiveTell.calls (k : Nat) (a0_0 : Int) (A0_1 : Option Addr) (c0_1 : Nat) (l0_1 : List (S41)) (A0_2 : Option Addr) (c0_2 : Nat) (l0_2 : List (S113)) (a1_0 : Int) (a1_1 : Int) (a1_2 : Int) (r1 : Int) (r2 : List (S41)) (r3 : List (S113)) (r4 : Bool) (w : World) (hr0_1 : Kd.C k41 w A0_1 l0_1.length l0_1) (hc0_1 : l0_1.length ≤ c0_1) (hr0_2 : Kd.C k113 w A0_2 l0_2.length l0_2) (hc0_2 : l0_2.length ≤ c0_2) (h : spec_LiveTell.f k a0_0 l0_1 l0_2 a1_0 a1_1 a1_2 = some (r1, r2, r3, r4)) :
  Calls Try.prog 112 #[.agg #[.int .i64 a0_0, .slice A0_1 l0_1.length c0_1, .slice A0_2 l0_2.length c0_2], .agg #[.int .i64 a1_0, .int .i64 a1_1, .int .i64 a1_2]] w fun e w' => ∃ v1_ v2_ : Value, e = .returned (.tuple #[.agg #[.int .i64 r1, v1_, v2_], .bool r4]) ∧ Kd.R k41 41 w' w.heap.size (fun _ => True) v1_ r2 ∧ Kd.R k113 113 w' w.heap.size (fun _ => True) v2_ r3 ∧ Below w.heap.size w w' := by
 have hu44 := Try.underlying44
 have hu113 := Try.underlying113
 have hu25 := Try.underlying25
 have HR0_1 := ak hr0_1
 have HC0_1 := ak hc0_1
 clear hr0_1 hc0_1
 have HR0_2 := ak hr0_2
 have HC0_2 := ak hc0_2
 clear hr0_2 hc0_2
 have HB := ak (Below.refl w.heap.size w)
 have H : ((spec_l16Ok.f k a0_0 l0_1 l0_2).bind fun t646 => (if t646 = true then ((spec_l1Copy.f a0_0 l0_1).bind fun bt647 => (spec_LiveTell.l0 k false 0 a0_0 l0_1 l0_2 a1_0 a1_1 a1_2 bt647.1 bt647.2 ([] : List (S113)))) else (some (0, ([] : List (S41)), ([] : List (S113)), false)))) = some (r1, r2, r3, r4) := h
 clear h
 replace H := Option.bind_eq_some_iff.mp H
 obtain ⟨t646, A30, H⟩ := H
 have A3 := ak A30
 clear A30
 by_cases c4 : t646 = true
 rotate_left
 ·replace c4 := Bool.eq_false_iff.mpr c4
  subst c4
  rw [if_neg (show ¬ (false = true) by decide)] at H
  simp only [Option.some.injEq, Prod.mk.injEq] at H
  obtain ⟨rfl, rfl, rfl, rfl⟩ := H
  go_enter Try.func112, Try.ntmps112
  go_wp2_with (first | ((with_reducible refine gate_dst (N := 2) rfl ?_); refine box_event ?hg (N := 2) ?hd (cs := #[.int .i64 a0_0, .slice A0_1 l0_1.length c0_1, .slice A0_2 l0_2.length c0_2]) (t := 44) ?hr ?_; (case hd => rfl); (case hg => rfl); (case hr => (go_simp; done)); intro gb643 hg w119 hbox hb; have BK643 := ak (hbox); have GW643 := ak ((by rw [hg]; exact (below_size (bl HB)) : w.heap.size ≤ gb643)); have GE643 := ak ((by rw [hg]; exact (below_size (bl HB)) : w.heap.size ≤ gb643)); replace HB := ak (below_step (bl HB) hb); clear hb hbox hg) | ((with_reducible refine gate_dst (N := 3) rfl ?_); refine box_event ?hg (N := 3) ?hd (cs := #[.int .i64 a1_0, .int .i64 a1_1, .int .i64 a1_2]) (t := 113) ?hr ?_; (case hd => rfl); (case hg => rfl); (case hr => (go_simp; done)); intro gb644 hg w120 hbox hb; have BK644 := ak (hbox); have GW644 := ak ((by rw [hg]; exact (below_size (bl1 HB GE643)) : w.heap.size ≤ gb644)); have GE644 := ak ((by rw [hg]; exact (below_size (bl1 HB GE643)) : w.heap.size ≤ gb644)); replace HB := ak (below_step (bl1 HB GE643) hb); have NB643_644 := ak ((by rw [hg]; exact Nat.ne_of_lt (blk_lt (bk BK643)) : gb643 ≠ gb644)); have NB644_643 := ak ((by rw [hg]; exact Nat.ne_of_gt (blk_lt (bk BK643)) : gb644 ≠ gb643)); replace BK643 := ak (blk_below (bk BK643) hb); clear hb hbox hg) | ((with_reducible refine gate_dst (N := 4) rfl ?_); refine box_event ?hg (N := 4) ?hd (cs := #[.int .i64 0, .slice none 0 0, .slice none 0 0]) (t := 44) ?hr ?_; (case hd => rfl); (case hg => rfl); (case hr => (go_simp; done)); intro gb645 hg w121 hbox hb; have BK645 := ak (hbox); have GW645 := ak ((by rw [hg]; exact (below_size (bl2 HB GE643 GE644)) : w.heap.size ≤ gb645)); have GE645 := ak ((by rw [hg]; exact (below_size (bl2 HB GE643 GE644)) : w.heap.size ≤ gb645)); replace HB := ak (below_step (bl2 HB GE643 GE644) hb); have NB643_645 := ak ((by rw [hg]; exact Nat.ne_of_lt (blk_lt (bk BK643)) : gb643 ≠ gb645)); have NB645_643 := ak ((by rw [hg]; exact Nat.ne_of_gt (blk_lt (bk BK643)) : gb645 ≠ gb643)); replace BK643 := ak (blk_below (bk BK643) hb); have NB644_645 := ak ((by rw [hg]; exact Nat.ne_of_lt (blk_lt (bk BK644)) : gb644 ≠ gb645)); have NB645_644 := ak ((by rw [hg]; exact Nat.ne_of_gt (blk_lt (bk BK644)) : gb645 ≠ gb644)); replace BK644 := ak (blk_below (bk BK644) hb); clear hb hbox hg; have hnb122 := NB643_644.out; have hnc122 := NB644_643.out; have hnb123 := NB643_645.out; have hnc123 := NB645_643.out; have hcz124_0 := bc w121 BK643 0 (.int .i64 a0_0) rfl; have hcz124_1 := bc w121 BK643 1 (.slice A0_1 l0_1.length c0_1) rfl; have hcz124_2 := bc w121 BK643 2 (.slice A0_2 l0_2.length c0_2) rfl; have hfz124_0 := fz BK643 0; have hfz124_1 := fz BK643 1; have hfz124_2 := fz BK643 2) | ((with_reducible refine gate_callee (f := 75) rfl ?_); refine goesL_ (some 10) rfl rfl Try.func75 (by kernel_rfl) rfl #[.agg #[.int .i64 a0_0, .slice A0_1 l0_1.length c0_1, .slice A0_2 l0_2.length c0_2]] rfl (by (try simp only [List.map_toArray, List.map_cons, List.map_nil]); rfl) ?_; (with_reducible refine (spec_l16Ok.calls k a0_0 _ _ l0_1 _ _ l0_2 false _ ?side1 ?side2 ?side3 ?side4 A3.out).mono ?_); (case side1 => repeat (exact (Kd.C_below HR0_1.out HB.out))); (case side2 => exact HC0_1.out); (case side3 => repeat (exact (Kd.C_below HR0_2.out HB.out))); (case side4 => exact HC0_2.out); rintro e w125 ⟨rfl, hb⟩; refine ⟨_, rfl, ?_⟩; replace BK643 := ak (blk_below (bk BK643) hb); replace BK644 := ak (blk_below (bk BK644) hb); replace BK645 := ak (blk_below (bk BK645) hb); replace HB := ak (below_step (bl3 HB GE643 GE644 GE645) hb); (try clear hb); (try clear hb2); (try clear hk); (try clear hi); have hnb126 := NB645_644.out; have hnc126 := NB644_645.out; have hcz127_0 := bc w125 BK645 0 (.int .i64 0) rfl; have hcz127_1 := bc w125 BK645 1 (.slice none 0 0) rfl; have hcz127_2 := bc w125 BK645 2 (.slice none 0 0) rfl; have hfz127_0 := fz BK645 0; have hfz127_1 := fz BK645 1; have hfz127_2 := fz BK645 2))
  refine bodyPost_ret (results_ct rfl _ _ gb645 44 #[.int .i64 0, .slice none 0 0, .slice none 0 0] (0, 0) _ rfl (by refine blk_put (cs := #[.int .i64 0, .slice none 0 0, .slice none 0 0]) ?_ 2 _ rfl; refine blk_put (cs := #[.int .i64 0, .slice none 0 0, .slice none 0 0]) ?_ 1 _ rfl; refine blk_put (cs := #[.int .i64 0, .slice none 0 0, .slice none 0 0]) ?_ 0 _ rfl; exact BK645.out) Try.underlying44 rfl (by kernel_rfl)) rfl ?_
  exact ⟨_, _, by rfl, by exact Kd.R_nil _ _ _ _ _, by exact Kd.R_nil _ _ _ _ _, bl3 HB GE643 GE644 GE645⟩
 subst c4
 rw [if_pos rfl] at H
 replace H := Option.bind_eq_some_iff.mp H
 obtain ⟨⟨t647, t648⟩, A50, H⟩ := H
 have A5 := ak A50
 clear A50
 have H' := ak H
 clear H
 go_enter Try.func112, Try.ntmps112
 go_wp2_with (first | ((with_reducible refine gate_dst (N := 2) rfl ?_); refine box_event ?hg (N := 2) ?hd (cs := #[.int .i64 a0_0, .slice A0_1 l0_1.length c0_1, .slice A0_2 l0_2.length c0_2]) (t := 44) ?hr ?_; (case hd => rfl); (case hg => rfl); (case hr => (go_simp; done)); intro gb643 hg w6 hbox hb; have BK643 := ak (hbox); have GW643 := ak ((by rw [hg]; exact (below_size (bl HB)) : w.heap.size ≤ gb643)); have GE643 := ak ((by rw [hg]; exact (below_size (bl HB)) : w.heap.size ≤ gb643)); replace HB := ak (below_step (bl HB) hb); clear hb hbox hg) | ((with_reducible refine gate_dst (N := 3) rfl ?_); refine box_event ?hg (N := 3) ?hd (cs := #[.int .i64 a1_0, .int .i64 a1_1, .int .i64 a1_2]) (t := 113) ?hr ?_; (case hd => rfl); (case hg => rfl); (case hr => (go_simp; done)); intro gb644 hg w7 hbox hb; have BK644 := ak (hbox); have GW644 := ak ((by rw [hg]; exact (below_size (bl1 HB GE643)) : w.heap.size ≤ gb644)); have GE644 := ak ((by rw [hg]; exact (below_size (bl1 HB GE643)) : w.heap.size ≤ gb644)); replace HB := ak (below_step (bl1 HB GE643) hb); have NB643_644 := ak ((by rw [hg]; exact Nat.ne_of_lt (blk_lt (bk BK643)) : gb643 ≠ gb644)); have NB644_643 := ak ((by rw [hg]; exact Nat.ne_of_gt (blk_lt (bk BK643)) : gb644 ≠ gb643)); replace BK643 := ak (blk_below (bk BK643) hb); clear hb hbox hg) | ((with_reducible refine gate_dst (N := 4) rfl ?_); refine box_event ?hg (N := 4) ?hd (cs := #[.int .i64 0, .slice none 0 0, .slice none 0 0]) (t := 44) ?hr ?_; (case hd => rfl); (case hg => rfl); (case hr => (go_simp; done)); intro gb645 hg w8 hbox hb; have BK645 := ak (hbox); have GW645 := ak ((by rw [hg]; exact (below_size (bl2 HB GE643 GE644)) : w.heap.size ≤ gb645)); have GE645 := ak ((by rw [hg]; exact (below_size (bl2 HB GE643 GE644)) : w.heap.size ≤ gb645)); replace HB := ak (below_step (bl2 HB GE643 GE644) hb); have NB643_645 := ak ((by rw [hg]; exact Nat.ne_of_lt (blk_lt (bk BK643)) : gb643 ≠ gb645)); have NB645_643 := ak ((by rw [hg]; exact Nat.ne_of_gt (blk_lt (bk BK643)) : gb645 ≠ gb643)); replace BK643 := ak (blk_below (bk BK643) hb); have NB644_645 := ak ((by rw [hg]; exact Nat.ne_of_lt (blk_lt (bk BK644)) : gb644 ≠ gb645)); have NB645_644 := ak ((by rw [hg]; exact Nat.ne_of_gt (blk_lt (bk BK644)) : gb645 ≠ gb644)); replace BK644 := ak (blk_below (bk BK644) hb); clear hb hbox hg; have hnb9 := NB643_644.out; have hnc9 := NB644_643.out; have hnb10 := NB643_645.out; have hnc10 := NB645_643.out; have hcz11_0 := bc w8 BK643 0 (.int .i64 a0_0) rfl; have hcz11_1 := bc w8 BK643 1 (.slice A0_1 l0_1.length c0_1) rfl; have hcz11_2 := bc w8 BK643 2 (.slice A0_2 l0_2.length c0_2) rfl; have hfz11_0 := fz BK643 0; have hfz11_1 := fz BK643 1; have hfz11_2 := fz BK643 2) | ((with_reducible refine gate_callee (f := 75) rfl ?_); refine goesL_ (some 10) rfl rfl Try.func75 (by kernel_rfl) rfl #[.agg #[.int .i64 a0_0, .slice A0_1 l0_1.length c0_1, .slice A0_2 l0_2.length c0_2]] rfl (by (try simp only [List.map_toArray, List.map_cons, List.map_nil]); rfl) ?_; (with_reducible refine (spec_l16Ok.calls k a0_0 _ _ l0_1 _ _ l0_2 true _ ?side1 ?side2 ?side3 ?side4 A3.out).mono ?_); (case side1 => repeat (exact (Kd.C_below HR0_1.out HB.out))); (case side2 => exact HC0_1.out); (case side3 => repeat (exact (Kd.C_below HR0_2.out HB.out))); (case side4 => exact HC0_2.out); rintro e w12 ⟨rfl, hb⟩; refine ⟨_, rfl, ?_⟩; replace BK643 := ak (blk_below (bk BK643) hb); replace BK644 := ak (blk_below (bk BK644) hb); replace BK645 := ak (blk_below (bk BK645) hb); replace HB := ak (below_step (bl3 HB GE643 GE644 GE645) hb); (try clear hb); (try clear hb2); (try clear hk); (try clear hi); have hcz13_0 := bc w12 BK643 0 (.int .i64 a0_0) rfl; have hcz13_1 := bc w12 BK643 1 (.slice A0_1 l0_1.length c0_1) rfl; have hcz13_2 := bc w12 BK643 2 (.slice A0_2 l0_2.length c0_2) rfl; have hfz13_0 := fz BK643 0; have hfz13_1 := fz BK643 1; have hfz13_2 := fz BK643 2) | ((with_reducible refine gate_callee (f := 128) rfl ?_); refine goesL_ (some 15) rfl rfl Try.func128 (by kernel_rfl) rfl #[.agg #[.int .i64 a0_0, .slice A0_1 l0_1.length c0_1]] rfl (by (try simp only [List.map_toArray, List.map_cons, List.map_nil]); rfl) ?_; (with_reducible refine (spec_l1Copy.calls a0_0 _ _ l0_1 t647 t648 _ ?side1 ?side2 A5.out).mono ?_); (case side1 => repeat (exact (Kd.C_below HR0_1.out HB.out))); (case side2 => exact HC0_1.out); rintro e w14 ⟨v649, rfl, ho0, hb⟩; refine ⟨_, rfl, ?_⟩; have HO650 := ak (Kd.R_lower ho0 (below_size (bl3 HB GE643 GE644 GE645))); replace BK643 := ak (blk_below (bk BK643) hb); replace BK644 := ak (blk_below (bk BK644) hb); replace BK645 := ak (blk_below (bk BK645) hb); replace HB := ak (below_step (bl3 HB GE643 GE644 GE645) hb); (try clear hb); (try clear hb2); (try clear hk); (try clear hi); (try clear ho0); obtain ⟨Ao15, co15, eo15⟩ := Kd.R_slice HO650.out; subst eo15) | ((with_reducible refine gate_dst (N := 6) rfl ?_); refine box_event ?hg (N := 6) ?hd (cs := #[.int .i64 0, .slice none 0 0, .slice none 0 0]) (t := 44) ?hr ?_; (case hd => rfl); (case hg => rfl); (case hr => (go_simp; done)); intro gb651 hg w16 hbox hb; replace HO650 := ak (Kd.R_below (rk HO650) hb); have BK651 := ak (hbox); have GW651 := ak ((by rw [hg]; exact (below_size (bl3 HB GE643 GE644 GE645)) : w.heap.size ≤ gb651)); have GE651 := ak ((by rw [hg]; exact (below_size (bl3 HB GE643 GE644 GE645)) : w.heap.size ≤ gb651)); replace HB := ak (below_step (bl3 HB GE643 GE644 GE645) hb); have NB643_651 := ak ((by rw [hg]; exact Nat.ne_of_lt (blk_lt (bk BK643)) : gb643 ≠ gb651)); have NB651_643 := ak ((by rw [hg]; exact Nat.ne_of_gt (blk_lt (bk BK643)) : gb651 ≠ gb643)); replace BK643 := ak (blk_below (bk BK643) hb); have NB644_651 := ak ((by rw [hg]; exact Nat.ne_of_lt (blk_lt (bk BK644)) : gb644 ≠ gb651)); have NB651_644 := ak ((by rw [hg]; exact Nat.ne_of_gt (blk_lt (bk BK644)) : gb651 ≠ gb644)); replace BK644 := ak (blk_below (bk BK644) hb); have NB645_651 := ak ((by rw [hg]; exact Nat.ne_of_lt (blk_lt (bk BK645)) : gb645 ≠ gb651)); have NB651_645 := ak ((by rw [hg]; exact Nat.ne_of_gt (blk_lt (bk BK645)) : gb651 ≠ gb645)); replace BK645 := ak (blk_below (bk BK645) hb); clear hb hbox hg; have hnb17 := NB651_643.out; have hnc17 := NB643_651.out; have hnb18 := NB651_644.out; have hnc18 := NB644_651.out; have hnb19 := NB651_645.out; have hnc19 := NB645_651.out; have hcz20_0 := bc w16 BK651 0 (.int .i64 0) rfl; have hcz20_1 := bc w16 BK651 1 (.slice none 0 0) rfl; have hcz20_2 := bc w16 BK651 2 (.slice none 0 0) rfl; have hfz20_0 := fz BK651 0; have hfz20_1 := fz BK651 1; have hfz20_2 := fz BK651 2))
 go_loopg [7, 8] k (fun kq v7 v8 w' => ∃ (x7_1 : Bool) (x8_1 : Int) (x652002_1 : List (S113)) (u652002 : Value), v7 = .bool x7_1 ∧ v8 = .int .i64 x8_1 ∧ Aside0 (spec_LiveTell.l0 kq x7_1 x8_1 a0_0 l0_1 l0_2 a1_0 a1_1 a1_2 t647 t648 x652002_1 = some (r1, r2, r3, r4)) ∧ Aside0 (kq ≤ k) ∧ Aside0 (Kd.R k41 41 w' w.heap.size (fun _ => True) (.slice Ao15 t648.length co15) t648) ∧ Aside0 (Kd.R k113 113 w' w.heap.size (fun k_ => k_ ≠ gb644) u652002 x652002_1) ∧ Aside0 (w'.heap[gb643]? = some (.cells #[.int .i64 a0_0, (.slice A0_1 l0_1.length c0_1), (.slice A0_2 l0_2.length c0_2)] 44 (0, 0))) ∧ Aside0 (w'.heap[gb644]? = some (.cells #[.int .i64 a1_0, .int .i64 a1_1, .int .i64 a1_2] 113 (0, 0))) ∧ Aside0 (w'.heap[gb645]? = some (.cells #[.int .i64 0, (.slice none 0 0), (.slice none 0 0)] 44 (0, 0))) ∧ Aside0 (w'.heap[gb651]? = some (.cells #[.int .i64 t647, (.slice Ao15 t648.length co15), u652002] 44 (0, 0))) ∧ Aside0 (Below w.heap.size w w'))
 case atStart => exact ⟨(false), (0), (([] : List (S113))), (.slice none 0 0), (by rfl), (by rfl), H', ⟨Nat.le_refl _⟩, ⟨by exact Kd.R_mono (Kd.R_far (p := ⟨gb651, 2, none⟩) (Kd.R_far (p := ⟨gb651, 1, none⟩) (Kd.R_far (p := ⟨gb651, 0, none⟩) (Kd.R_types HO650.out BK651.out (by decide)) (fun _ hk => hk.2) (.int .i64 t647)) (fun _ hk => hk.2) (.slice Ao15 t648.length co15)) (fun _ hk => hk.2) (.slice none 0 0)) (fun _ hk => trivial)⟩, ⟨by exact Kd.R_nil _ _ _ _ _⟩, ⟨by refine blk_far ?_ NB643_651.out _; refine blk_far ?_ NB643_651.out _; refine blk_far ?_ NB643_651.out _; exact BK643.out⟩, ⟨by refine blk_far ?_ NB644_651.out _; refine blk_far ?_ NB644_651.out _; refine blk_far ?_ NB644_651.out _; exact BK644.out⟩, ⟨by refine blk_far ?_ NB645_651.out _; refine blk_far ?_ NB645_651.out _; refine blk_far ?_ NB645_651.out _; exact BK645.out⟩, ⟨by refine blk_put (cs := #[.int .i64 t647, .slice Ao15 t648.length co15, .slice none 0 0]) ?_ 2 _ rfl; refine blk_put (cs := #[.int .i64 t647, .slice none 0 0, .slice none 0 0]) ?_ 1 _ rfl; refine blk_put (cs := #[.int .i64 0, .slice none 0 0, .slice none 0 0]) ?_ 0 _ rfl; exact BK651.out⟩, ⟨bl4 HB GE643 GE644 GE645 GE651⟩⟩
 clear H'
 try clear c1
 try clear p2
 try clear c4
 try clear c7
 try clear c9
 try clear c10
 try clear c11
 try clear c12
 try clear c17
 try clear c18
 try clear c19
 try clear hcz11_0
 try clear hcz11_1
 try clear hcz11_2
 try clear hcz13_0
 try clear hcz13_1
 try clear hcz13_2
 try clear hcz20_0
 try clear hcz20_1
 try clear hcz20_2
 try clear hfz11_0
 try clear hfz11_1
 try clear hfz11_2
 try clear hfz13_0
 try clear hfz13_1
 try clear hfz13_2
 try clear hfz20_0
 try clear hfz20_1
 try clear hfz20_2
 obtain ⟨x7_1, x8_1, x652002_1, u652002, rfl, rfl, HA, HK1, HO_652001, HO_652002, BK643, BK644, BK645, BK651, HB⟩ := hrel
 cases gk with
 | zero => exact absurd HA.out (by simp [spec_LiveTell.l0])
 | succ k1 =>
  have H := HA.out
  clear HA
  simp only [spec_LiveTell.l0] at H
  by_cases c21 : x8_1 < (l0_2.length : Int)
  rotate_left
  ·rw [if_neg c21] at H
   have c21b0 : decide (x8_1 < (l0_2.length : Int)) = false := decide_eq_false c21
   clear c21
   have HC75 := ak H
   clear H
   have hnb76 := NB643_644.out
   have hnc76 := NB644_643.out
   have hnb77 := NB643_645.out
   have hnc77 := NB645_643.out
   have hnb78 := NB643_651.out
   have hnc78 := NB651_643.out
   have hcz79_0 := bc wr BK643 0 (.int .i64 a0_0) rfl
   have hcz79_1 := bc wr BK643 1 (.slice A0_1 l0_1.length c0_1) rfl
   have hcz79_2 := bc wr BK643 2 (.slice A0_2 l0_2.length c0_2) rfl
   have hfz79_0 := fz BK643 0
   have hfz79_1 := fz BK643 1
   have hfz79_2 := fz BK643 2
   go_upto_if 63 with (fail)
   go_cut [] (fun wc => ∃ (kq : Nat) (x652002_74 : List (S113)) (u652002 : Value), Aside0 (spec_LiveTell.j2 kq a0_0 l0_1 l0_2 t647 t648 x652002_74 = some (r1, r2, r3, r4)) ∧ Aside0 (kq ≤ k1) ∧ Aside0 (Kd.R k41 41 wc w.heap.size (fun _ => True) (.slice Ao15 t648.length co15) t648) ∧ Aside0 (Kd.R k113 113 wc w.heap.size (fun k_ => k_ ≠ gb644) u652002 x652002_74) ∧ Aside0 (wc.heap[gb643]? = some (.cells #[.int .i64 a0_0, (.slice A0_1 l0_1.length c0_1), (.slice A0_2 l0_2.length c0_2)] 44 (0, 0))) ∧ Aside0 (wc.heap[gb644]? = some (.cells #[.int .i64 a1_0, .int .i64 a1_1, .int .i64 a1_2] 113 (0, 0))) ∧ Aside0 (wc.heap[gb645]? = some (.cells #[.int .i64 0, (.slice none 0 0), (.slice none 0 0)] 44 (0, 0))) ∧ Aside0 (wc.heap[gb651]? = some (.cells #[.int .i64 t647, (.slice Ao15 t648.length co15), u652002] 44 (0, 0))) ∧ Aside0 (Below w.heap.size w wc))
   case first =>
    have H := HC75.out
    clear HC75
    by_cases c80 : x7_1 = true
    ·subst c80
     rw [if_pos rfl] at H
     have H' := ak H
     clear H
     go_wp2
     go_meet
     case rel => exact ⟨_, (x652002_1), (u652002), H', ⟨by have := HK1.out; omega⟩, ⟨rk HO_652001⟩, ⟨rk HO_652002⟩, ⟨bk BK643⟩, ⟨bk BK644⟩, ⟨bk BK645⟩, ⟨bk BK651⟩, ⟨bl4 HB GE643 GE644 GE645 GE651⟩⟩
    replace c80 := Bool.eq_false_iff.mpr c80
    subst c80
    rw [if_neg (show ¬ (false = true) by decide)] at H
    by_cases c81 : x652002_1.length < 5864062014805
    rotate_left
    ·rw [if_neg c81] at H
     exact absurd H (by simp)
    rw [if_pos c81] at H
    have LMc81 := ak c81
    clear c81
    obtain ⟨y666, hy666⟩ : ∃ y_ : List (S113), y_ = (x652002_1 ++ [(⟨a1_0, a1_1, a1_2⟩ : S113)]) := ⟨_, rfl⟩
    replace H : (spec_LiveTell.j2 k1 a0_0 l0_1 l0_2 t647 t648 y666) = some (r1, r2, r3, r4) := by (rw [hy666]; with_reducible exact H)
    have Ny666 := ak hy666
    clear hy666
    have H' := ak H
    clear H
    have hnb82 := NB651_643.out
    have hnc82 := NB643_651.out
    have hnb83 := NB651_644.out
    have hnc83 := NB644_651.out
    have hnb84 := NB651_645.out
    have hnc84 := NB645_651.out
    have hcz85_0 := bc wr BK651 0 (.int .i64 t647) rfl
    have hcz85_1 := bc wr BK651 1 (.slice Ao15 t648.length co15) rfl
    have hcz85_2 := bc wr BK651 2 (u652002) rfl
    have hfz85_0 := fz BK651 0
    have hfz85_1 := fz BK651 1
    have hfz85_2 := fz BK651 2
    have hnb86 := NB644_643.out
    have hnc86 := NB643_644.out
    have hnb87 := NB644_645.out
    have hnc87 := NB645_644.out
    have hcz88_0 := bc wr BK644 0 (.int .i64 a1_0) rfl
    have hcz88_1 := bc wr BK644 1 (.int .i64 a1_1) rfl
    have hcz88_2 := bc wr BK644 2 (.int .i64 a1_2) rfl
    have hfz88_0 := fz BK644 0
    have hfz88_1 := fz BK644 1
    have hfz88_2 := fz BK644 2
    go_wp2_with (((with_reducible refine gate_builtin (b := .append) (xs := #[.tmp 65, .tmp 67]) rfl ?_); at_builtin; refine Kd.R_append k113 (w0 := w) w.heap.size rfl (.tmp 65) (.tmp 67) 42 113 (.agg #[(.int .i64 0), (.int .i64 0), (.int .i64 0)]) 24 rfl Try.underlying42 info113 rfl (by decide) (by omega) u652002 x652002_1 (⟨a1_0, a1_1, a1_2⟩ : S113) [.int .i64 a1_0, .int .i64 a1_1, .int .i64 a1_2] (fun k_ => k_ ≠ gb644) (fun _ => False) rfl rfl ?aP (fun _ hk => hk.elim) ?aF ?aO ?aB ?aS ?aL ?_; (case aP => exact k113_mkM _ _ _ (⟨a1_0, a1_1, a1_2⟩ : S113)); (case aB => exact (bl4 HB GE643 GE644 GE645 GE651)); (case aF => exact (fun k_ hk => Kd.freshB (bk BK644) k_ hk)); (case aO => exact (rk HO_652002)); (case aS => exact (below_size (bl4 HB GE643 GE644 GE645 GE651))); (case aL => have := LMc81.out; omega); intro v667 w89 ho hb hg hat; rw [← Ny666.out] at ho; have n0_ := ak (Kd.R_over' (rk HO_652001) (Kd.R_typed (rk HO_652002)) (by decide) hg); have n1_ := ak (blk_grown (bk BK643) hg (Kd.R_ne HO_652002.out BK643.out (by decide))); have n2_ := ak (blk_grown (bk BK644) hg (Kd.R_away HO_652002.out (fun _ hk => hk))); have n3_ := ak (blk_grown (bk BK645) hg (Kd.R_ne HO_652002.out BK645.out (by decide))); have n4_ := ak (blk_grown (bk BK651) hg (Kd.R_ne HO_652002.out BK651.out (by decide))); have n5_ := ak (hb); have n6_ := ak (ho); clear HO_652001; clear BK643; clear BK644; clear BK645; clear BK651; clear HB; clear HO_652002; have HO_652001 := n0_; have BK643 := n1_; have BK644 := n2_; have BK645 := n3_; have BK651 := n4_; have HB := n5_; have HO668 := n6_; clear n0_ n1_ n2_ n3_ n4_ n5_ n6_; clear ho hb hg hat; obtain ⟨Ao90, co90, eo90⟩ := Kd.R_slice HO668.out; subst eo90; have hcz91_0 := bc w89 BK651 0 (.int .i64 t647) rfl; have hcz91_1 := bc w89 BK651 1 (.slice Ao15 t648.length co15) rfl; have hcz91_2 := bc w89 BK651 2 (u652002) rfl; have hfz91_0 := fz BK651 0; have hfz91_1 := fz BK651 1; have hfz91_2 := fz BK651 2))
    go_meet
    case rel => exact ⟨_, (y666), (.slice Ao90 y666.length co90), H', ⟨by have := HK1.out; omega⟩, ⟨by exact Kd.R_mono (Kd.R_far (p := ⟨gb651, 2, none⟩) (Kd.R_types HO_652001.out BK651.out (by decide)) (fun _ hk => hk.2) (.slice Ao90 y666.length co90)) (fun _ hk => trivial)⟩, ⟨by exact Kd.R_mono (Kd.R_far (p := ⟨gb651, 2, none⟩) (Kd.R_types HO668.out BK651.out (by decide)) (fun _ hk => hk.2) (.slice Ao90 y666.length co90)) (fun _ hk => hk.1)⟩, ⟨by refine blk_far ?_ NB643_651.out _; exact BK643.out⟩, ⟨by refine blk_far ?_ NB644_651.out _; exact BK644.out⟩, ⟨by refine blk_far ?_ NB645_651.out _; exact BK645.out⟩, ⟨by refine blk_put (cs := #[.int .i64 t647, .slice Ao15 t648.length co15, u652002]) ?_ 2 _ rfl; exact BK651.out⟩, ⟨bl4 HB GE643 GE644 GE645 GE651⟩⟩
   clear HC75
   try clear c2
   try clear p2
   try clear c3
   try clear c4
   try clear c6
   try clear p6
   try clear q6
   try clear hx6
   try clear c7
   try clear c8
   try clear c21
   try clear c21b0
   try clear c31
   try clear c32
   try clear c33
   try clear c34
   try clear c48
   try clear p64
   try clear c65
   try clear c65b0
   try clear c66
   try clear c66b0
   try clear p66
   try clear q66
   try clear hx66
   try clear c67
   try clear c67b0
   try clear c67b1
   try clear c69
   try clear c76
   try clear c77
   try clear c78
   try clear c80
   try clear c81
   try clear c82
   try clear c83
   try clear c84
   try clear c86
   try clear c87
   try clear hcz79_0
   try clear hcz79_1
   try clear hcz79_2
   try clear hcz85_0
   try clear hcz85_1
   try clear hcz85_2
   try clear hcz88_0
   try clear hcz88_1
   try clear hcz88_2
   try clear hcz91_0
   try clear hcz91_1
   try clear hcz91_2
   try clear hfz79_0
   try clear hfz79_1
   try clear hfz79_2
   try clear hfz85_0
   try clear hfz85_1
   try clear hfz85_2
   try clear hfz88_0
   try clear hfz88_1
   try clear hfz88_2
   try clear hfz91_0
   try clear hfz91_1
   try clear hfz91_2
   try clear hx661_0
   try clear hx661_1
   try clear hx661_2
   try clear hx662_0
   try clear hx662_1
   try clear hx662_2
   try clear p661
   try clear p662
   try clear q661
   try clear q662
   obtain ⟨kq, x652002_74, u652002, HA, HJ74, HO_652001, HO_652002, BK643, BK644, BK645, BK651, HB⟩ := hcut
   cases kq with
   | zero => exact absurd HA.out (by simp [spec_LiveTell.j2])
   | succ kj74 =>
    have H := HA.out
    clear HA
    simp only [spec_LiveTell.j2] at H
    replace H := Option.bind_eq_some_iff.mp H
    obtain ⟨t669, A920, H⟩ := H
    have A92 := ak A920
    clear A920
    by_cases c93 : t669 = true
    ·subst c93
     rw [if_pos rfl] at H
     simp only [Option.some.injEq, Prod.mk.injEq] at H
     obtain ⟨rfl, rfl, rfl, rfl⟩ := H
     have hnb94 := NB651_643.out
     have hnc94 := NB643_651.out
     have hnb95 := NB651_644.out
     have hnc95 := NB644_651.out
     have hnb96 := NB651_645.out
     have hnc96 := NB645_651.out
     have hcz97_0 := bc wc BK651 0 (.int .i64 t647) rfl
     have hcz97_1 := bc wc BK651 1 (.slice Ao15 t648.length co15) rfl
     have hcz97_2 := bc wc BK651 2 (u652002) rfl
     have hfz97_0 := fz BK651 0
     have hfz97_1 := fz BK651 1
     have hfz97_2 := fz BK651 2
     obtain ⟨Ao98, co98, eo98⟩ := Kd.R_slice HO_652002.out
     subst eo98
     go_wp2_with (((with_reducible refine gate_callee (f := 75) rfl ?_); refine goesL_ (some 71) rfl rfl Try.func75 (by kernel_rfl) rfl #[.agg #[.int .i64 t647, .slice Ao15 t648.length co15, .slice Ao98 x652002_74.length co98]] rfl (by (try simp only [List.map_toArray, List.map_cons, List.map_nil]); rfl) ?_; (with_reducible refine (spec_l16Ok.calls kj74 t647 _ _ t648 _ _ x652002_74 true _ ?side1 ?side2 ?side3 ?side4 A92.out).mono ?_); (case side1 => repeat (exact (Kd.R_reads' HO_652001.out).2.2)); (case side2 => exact (Kd.R_reads' HO_652001.out).2.1); (case side3 => repeat (exact (Kd.R_reads' HO_652002.out).2.2)); (case side4 => exact (Kd.R_reads' HO_652002.out).2.1); rintro e w99 ⟨rfl, hb⟩; refine ⟨_, rfl, ?_⟩; replace HO_652001 := ak (Kd.R_below (rk HO_652001) hb); replace HO_652002 := ak (Kd.R_below (rk HO_652002) hb); replace BK643 := ak (blk_below (bk BK643) hb); replace BK644 := ak (blk_below (bk BK644) hb); replace BK645 := ak (blk_below (bk BK645) hb); replace BK651 := ak (blk_below (bk BK651) hb); replace HB := ak (below_step (bl4 HB GE643 GE644 GE645 GE651) hb); (try clear hb); (try clear hb2); (try clear hk); (try clear hi); have hcz100_0 := bc w99 BK651 0 (.int .i64 t647) rfl; have hcz100_1 := bc w99 BK651 1 (.slice Ao15 t648.length co15) rfl; have hcz100_2 := bc w99 BK651 2 (.slice Ao98 x652002_74.length co98) rfl; have hfz100_0 := fz BK651 0; have hfz100_1 := fz BK651 1; have hfz100_2 := fz BK651 2; have hnb101 := NB645_643.out; have hnc101 := NB643_645.out; have hnb102 := NB645_644.out; have hnc102 := NB644_645.out; have hcz103_0 := bc w99 BK645 0 (.int .i64 0) rfl; have hcz103_1 := bc w99 BK645 1 (.slice none 0 0) rfl; have hcz103_2 := bc w99 BK645 2 (.slice none 0 0) rfl; have hfz103_0 := fz BK645 0; have hfz103_1 := fz BK645 1; have hfz103_2 := fz BK645 2))
     refine bodyPost_ret (results_ct rfl _ _ gb645 44 #[.int .i64 t647, .slice Ao15 t648.length co15, .slice Ao98 x652002_74.length co98] (0, 0) _ rfl (by refine blk_put (cs := #[.int .i64 t647, .slice Ao15 t648.length co15, .slice none 0 0]) ?_ 2 _ rfl; refine blk_put (cs := #[.int .i64 t647, .slice none 0 0, .slice none 0 0]) ?_ 1 _ rfl; refine blk_put (cs := #[.int .i64 0, .slice none 0 0, .slice none 0 0]) ?_ 0 _ rfl; exact BK645.out) Try.underlying44 rfl (by kernel_rfl)) rfl ?_
     exact ⟨_, _, by rfl, by exact Kd.R_mono (Kd.R_far (p := ⟨gb645, 2, none⟩) (Kd.R_far (p := ⟨gb645, 1, none⟩) (Kd.R_far (p := ⟨gb645, 0, none⟩) (Kd.R_types HO_652001.out BK645.out (by decide)) (fun _ hk => hk.2) (.int .i64 t647)) (fun _ hk => hk.2) (.slice Ao15 t648.length co15)) (fun _ hk => hk.2) (.slice Ao98 x652002_74.length co98)) (fun _ hk => trivial), by exact Kd.R_mono (Kd.R_far (p := ⟨gb645, 2, none⟩) (Kd.R_far (p := ⟨gb645, 1, none⟩) (Kd.R_far (p := ⟨gb645, 0, none⟩) (Kd.R_types HO_652002.out BK645.out (by decide)) (fun _ hk => hk.2) (.int .i64 t647)) (fun _ hk => hk.2) (.slice Ao15 t648.length co15)) (fun _ hk => hk.2) (.slice Ao98 x652002_74.length co98)) (fun _ hk => trivial), bl4 HB GE643 GE644 GE645 GE651⟩
    replace c93 := Bool.eq_false_iff.mpr c93
    subst c93
    rw [if_neg (show ¬ (false = true) by decide)] at H
    replace H := Option.bind_eq_some_iff.mp H
    obtain ⟨⟨t670, t671, t674⟩, A1040, H⟩ := H
    have A104 := ak A1040
    clear A1040
    simp only [Option.some.injEq, Prod.mk.injEq] at H
    obtain ⟨rfl, rfl, rfl, rfl⟩ := H
    have hnb105 := NB651_643.out
    have hnc105 := NB643_651.out
    have hnb106 := NB651_644.out
    have hnc106 := NB644_651.out
    have hnb107 := NB651_645.out
    have hnc107 := NB645_651.out
    have hcz108_0 := bc wc BK651 0 (.int .i64 t647) rfl
    have hcz108_1 := bc wc BK651 1 (.slice Ao15 t648.length co15) rfl
    have hcz108_2 := bc wc BK651 2 (u652002) rfl
    have hfz108_0 := fz BK651 0
    have hfz108_1 := fz BK651 1
    have hfz108_2 := fz BK651 2
    obtain ⟨Ao109, co109, eo109⟩ := Kd.R_slice HO_652002.out
    subst eo109
    go_wp2_with (first | ((with_reducible refine gate_callee (f := 75) rfl ?_); refine goesL_ (some 71) rfl rfl Try.func75 (by kernel_rfl) rfl #[.agg #[.int .i64 t647, .slice Ao15 t648.length co15, .slice Ao109 x652002_74.length co109]] rfl (by (try simp only [List.map_toArray, List.map_cons, List.map_nil]); rfl) ?_; (with_reducible refine (spec_l16Ok.calls kj74 t647 _ _ t648 _ _ x652002_74 false _ ?side1 ?side2 ?side3 ?side4 A92.out).mono ?_); (case side1 => repeat (exact (Kd.R_reads' HO_652001.out).2.2)); (case side2 => exact (Kd.R_reads' HO_652001.out).2.1); (case side3 => repeat (exact (Kd.R_reads' HO_652002.out).2.2)); (case side4 => exact (Kd.R_reads' HO_652002.out).2.1); rintro e w110 ⟨rfl, hb⟩; refine ⟨_, rfl, ?_⟩; replace HO_652001 := ak (Kd.R_below (rk HO_652001) hb); replace HO_652002 := ak (Kd.R_below (rk HO_652002) hb); replace BK643 := ak (blk_below (bk BK643) hb); replace BK644 := ak (blk_below (bk BK644) hb); replace BK645 := ak (blk_below (bk BK645) hb); replace BK651 := ak (blk_below (bk BK651) hb); replace HB := ak (below_step (bl4 HB GE643 GE644 GE645 GE651) hb); (try clear hb); (try clear hb2); (try clear hk); (try clear hi); have hnb111 := NB643_644.out; have hnc111 := NB644_643.out; have hnb112 := NB643_645.out; have hnc112 := NB645_643.out; have hcz113_0 := bc w110 BK643 0 (.int .i64 a0_0) rfl; have hcz113_1 := bc w110 BK643 1 (.slice A0_1 l0_1.length c0_1) rfl; have hcz113_2 := bc w110 BK643 2 (.slice A0_2 l0_2.length c0_2) rfl; have hfz113_0 := fz BK643 0; have hfz113_1 := fz BK643 1; have hfz113_2 := fz BK643 2) | ((with_reducible refine gate_callee (f := 114) rfl ?_); refine goesL_ (some 74) rfl rfl Try.func114 (by kernel_rfl) rfl #[.agg #[.int .i64 a0_0, .slice A0_1 l0_1.length c0_1, .slice A0_2 l0_2.length c0_2]] rfl (by (try simp only [List.map_toArray, List.map_cons, List.map_nil]); rfl) ?_; (with_reducible refine (spec_l16Copy.calls a0_0 _ _ l0_1 _ _ l0_2 t670 t671 t674 _ ?side1 ?side2 ?side3 ?side4 A104.out).mono ?_); (case side1 => repeat (exact (Kd.C_below HR0_1.out HB.out))); (case side2 => exact HC0_1.out); (case side3 => repeat (exact (Kd.C_below HR0_2.out HB.out))); (case side4 => exact HC0_2.out); rintro e w114 ⟨v672, v675, rfl, ho0, ho1, hb⟩; refine ⟨_, rfl, ?_⟩; have HO673 := ak (Kd.R_lower (Kd.R_new' ho0 (Kd.R_lt (rk HO_652001))) (below_size (bl4 HB GE643 GE644 GE645 GE651))); replace HO_652001 := ak (Kd.R_elder' (rk HO_652001) (Kd.R_base ho0) hb); have HO676 := ak (Kd.R_lower (Kd.R_newB (Kd.R_new' ho1 (Kd.R_lt (rk HO_652002))) (bk BK644)) (below_size (bl4 HB GE643 GE644 GE645 GE651))); replace HO_652002 := ak (Kd.R_elder' (rk HO_652002) (Kd.R_base ho1) hb); replace BK643 := ak (blk_below (bk BK643) hb); replace BK644 := ak (blk_below (bk BK644) hb); replace BK645 := ak (blk_below (bk BK645) hb); replace BK651 := ak (blk_below (bk BK651) hb); replace HB := ak (below_step (bl4 HB GE643 GE644 GE645 GE651) hb); (try clear hb); (try clear hb2); (try clear hk); (try clear hi); (try clear ho0); (try clear ho1); have hnb115 := NB645_644.out; have hnc115 := NB644_645.out; have hcz116_0 := bc w114 BK645 0 (.int .i64 0) rfl; have hcz116_1 := bc w114 BK645 1 (.slice none 0 0) rfl; have hcz116_2 := bc w114 BK645 2 (.slice none 0 0) rfl; have hfz116_0 := fz BK645 0; have hfz116_1 := fz BK645 1; have hfz116_2 := fz BK645 2; obtain ⟨Ao117, co117, eo117⟩ := Kd.R_slice HO673.out; subst eo117; obtain ⟨Ao118, co118, eo118⟩ := Kd.R_slice HO676.out; subst eo118))
    refine bodyPost_ret (results_ct rfl _ _ gb645 44 #[.int .i64 t670, .slice Ao117 t671.length co117, .slice Ao118 t674.length co118] (0, 0) _ rfl (by refine blk_put (cs := #[.int .i64 t670, .slice Ao117 t671.length co117, .slice none 0 0]) ?_ 2 _ rfl; refine blk_put (cs := #[.int .i64 t670, .slice none 0 0, .slice none 0 0]) ?_ 1 _ rfl; refine blk_put (cs := #[.int .i64 0, .slice none 0 0, .slice none 0 0]) ?_ 0 _ rfl; exact BK645.out) Try.underlying44 rfl (by kernel_rfl)) rfl ?_
    exact ⟨_, _, by rfl, by exact Kd.R_mono (Kd.R_far (p := ⟨gb645, 2, none⟩) (Kd.R_far (p := ⟨gb645, 1, none⟩) (Kd.R_far (p := ⟨gb645, 0, none⟩) (Kd.R_types HO673.out BK645.out (by decide)) (fun _ hk => hk.2) (.int .i64 t670)) (fun _ hk => hk.2) (.slice Ao117 t671.length co117)) (fun _ hk => hk.2) (.slice Ao118 t674.length co118)) (fun _ hk => trivial), by exact Kd.R_mono (Kd.R_far (p := ⟨gb645, 2, none⟩) (Kd.R_far (p := ⟨gb645, 1, none⟩) (Kd.R_far (p := ⟨gb645, 0, none⟩) (Kd.R_types HO676.out BK645.out (by decide)) (fun _ hk => hk.2) (.int .i64 t670)) (fun _ hk => hk.2) (.slice Ao117 t671.length co117)) (fun _ hk => hk.2) (.slice Ao118 t674.length co118)) (fun _ hk => trivial), bl4 HB GE643 GE644 GE645 GE651⟩
  rw [if_pos c21] at H
  have c21b0 : decide (x8_1 < (l0_2.length : Int)) = true := decide_eq_true c21
  clear c21
  have HC22 := ak H
  clear H
  have hnb23 := NB643_644.out
  have hnc23 := NB644_643.out
  have hnb24 := NB643_645.out
  have hnc24 := NB645_643.out
  have hnb25 := NB643_651.out
  have hnc25 := NB651_643.out
  have hcz26_0 := bc wr BK643 0 (.int .i64 a0_0) rfl
  have hcz26_1 := bc wr BK643 1 (.slice A0_1 l0_1.length c0_1) rfl
  have hcz26_2 := bc wr BK643 2 (.slice A0_2 l0_2.length c0_2) rfl
  have hfz26_0 := fz BK643 0
  have hfz26_1 := fz BK643 1
  have hfz26_2 := fz BK643 2
  go_upto_region 8 with (fail)
  go_cut [36] (fun v36 wc => ∃ (kq : Nat) (x36_21 : Bool), v36 = .bool x36_21 ∧ Aside0 (spec_LiveTell.j1 kq x7_1 x8_1 x36_21 a0_0 l0_1 l0_2 a1_0 a1_1 a1_2 t647 t648 x652002_1 = some (r1, r2, r3, r4)) ∧ Aside0 (kq ≤ k1) ∧ Aside0 (Kd.R k41 41 wc w.heap.size (fun _ => True) (.slice Ao15 t648.length co15) t648) ∧ Aside0 (Kd.R k113 113 wc w.heap.size (fun k_ => k_ ≠ gb644) u652002 x652002_1) ∧ Aside0 (wc.heap[gb643]? = some (.cells #[.int .i64 a0_0, (.slice A0_1 l0_1.length c0_1), (.slice A0_2 l0_2.length c0_2)] 44 (0, 0))) ∧ Aside0 (wc.heap[gb644]? = some (.cells #[.int .i64 a1_0, .int .i64 a1_1, .int .i64 a1_2] 113 (0, 0))) ∧ Aside0 (wc.heap[gb645]? = some (.cells #[.int .i64 0, (.slice none 0 0), (.slice none 0 0)] 44 (0, 0))) ∧ Aside0 (wc.heap[gb651]? = some (.cells #[.int .i64 t647, (.slice Ao15 t648.length co15), u652002] 44 (0, 0))) ∧ Aside0 (Below w.heap.size w wc))
  case first =>
   have H := HC22.out
   clear HC22
   by_cases c27 : x7_1 = true
   ·subst c27
    rw [if_pos rfl] at H
    have H' := ak H
    clear H
    try go_wp2
    replace HO_652001 := ak (Kd.R_drew HO_652001.out)
    replace HO_652002 := ak (Kd.R_drew HO_652002.out)
    replace BK643 := ak (blk_drew BK643.out)
    replace BK644 := ak (blk_drew BK644.out)
    replace BK645 := ak (blk_drew BK645.out)
    replace BK651 := ak (blk_drew BK651.out)
    replace HB := ak (below_drew1 HB.out)
    refine start_ (n := 13) (S := fun w' => True) (ds := []) (ms 13 0) (by kernel_rfl) rfl (by kernel_rfl) trivial (fun hHeld => ?_); refine with_tabW spec_LiveTell.tab8 spec_LiveTell.bits8 (fun HT_ HW_ => ?_)
    generalize wr.drew = w28 at HO_652001 HO_652002 BK643 BK644 BK645 BK651 HB hHeld ⊢
    refine pu 0 24 ?_ (ms 13 1) rfl rfl HT_ (by kernel_rfl) (fun _ _ _ h => h) (by rfl) ?_ ?_ ?_ ?_
    rotate_left
    ·intro w'
     go_simp
     with_reducible rfl
    rotate_left
    ·simp only [SX]
     rfl
    refine pu 1 25 ?_ (ms 13 3) rfl rfl HT_ (by kernel_rfl) (fun _ _ _ h => h) (by rfl) ?_ ?_ ?_ ?_
    rotate_left
    ·intro w'
     go_simp
     with_reducible rfl
    rotate_left
    ·simp only [SX]
     rfl
    refine pu 2 26 ?_ (ms 13 7) rfl rfl HT_ (by kernel_rfl) (fun _ _ _ h => h) (by rfl) ?_ ?_ ?_ ?_
    rotate_left
    ·intro w'
     go_simp
     with_reducible rfl
    rotate_left
    ·simp only [SX]
     rfl
    refine pure_ (i := 3) (N := some 27) (v := undef) (a' := ?_) (ms 13 15) rfl rfl (any_of HT_.out (by kernel_rfl)) (fun _ _ _ h => h) (Or.inr ⟨by rfl, rfl⟩) ?_ ?_
    rotate_left
    ·simp only [SX]
     rfl
    refine pure_ (i := 4) (N := some 28) (v := undef) (a' := ?_) (ms 13 31) rfl rfl (any_of HT_.out (by kernel_rfl)) (fun _ _ _ h => h) (Or.inr ⟨by rfl, rfl⟩) ?_ ?_
    rotate_left
    ·simp only [SX]
     rfl
    refine pure_ (i := 5) (N := some 29) (v := undef) (a' := ?_) (ms 13 63) rfl rfl (any_of HT_.out (by kernel_rfl)) (fun _ _ _ h => h) (Or.inr ⟨by rfl, rfl⟩) ?_ ?_
    rotate_left
    ·simp only [SX]
     rfl
    refine pure_ (i := 6) (N := some 30) (v := undef) (a' := ?_) (ms 13 127) rfl rfl (any_of HT_.out (by kernel_rfl)) (fun _ _ _ h => h) (Or.inr ⟨by rfl, rfl⟩) ?_ ?_
    rotate_left
    ·simp only [SX]
     rfl
    refine pure_ (i := 7) (N := some 31) (v := undef) (a' := ?_) (ms 13 255) rfl rfl (any_of HT_.out (by kernel_rfl)) (fun _ _ _ h => h) (Or.inr ⟨by rfl, rfl⟩) ?_ ?_
    rotate_left
    ·simp only [SX]
     rfl
    refine pure_ (i := 8) (N := some 32) (v := undef) (a' := ?_) (ms 13 511) rfl rfl (any_of HT_.out (by kernel_rfl)) (fun _ _ _ h => h) (Or.inr ⟨by rfl, rfl⟩) ?_ ?_
    rotate_left
    ·simp only [SX]
     rfl
    refine pure_ (i := 9) (N := some 33) (v := undef) (a' := ?_) (ms 13 1023) rfl rfl (any_of HT_.out (by kernel_rfl)) (fun _ _ _ h => h) (Or.inr ⟨by rfl, rfl⟩) ?_ ?_
    rotate_left
    ·simp only [SX]
     rfl
    refine pure_ (i := 10) (N := some 34) (v := undef) (a' := ?_) (ms 13 2047) rfl rfl (any_of HT_.out (by kernel_rfl)) (fun _ _ _ h => h) (Or.inr ⟨by rfl, rfl⟩) ?_ ?_
    rotate_left
    ·simp only [SX]
     rfl
    refine pure_ (i := 11) (N := some 35) (v := undef) (a' := ?_) (ms 13 4095) rfl rfl (any_of HT_.out (by kernel_rfl)) (fun _ _ _ h => h) (Or.inr ⟨by rfl, rfl⟩) ?_ ?_
    rotate_left
    ·simp only [SX]
     rfl
    refine pu 12 36 ?_ (ms 13 8191) rfl rfl HT_ (by kernel_rfl) (fun _ _ _ h => h) (by rfl) ?_ ?_ ?_ ?_
    rotate_left
    ·intro w'
     go_simp
     with_reducible rfl
    rotate_left
    ·simp only [SX]
     rfl
    refine done_ (done_of HT_.out (by kernel_rfl)) ?_
    try go_wp2
    go_meet
    case rel => exact ⟨_, (false), (by rfl), H', ⟨by have := HK1.out; omega⟩, ⟨rk HO_652001⟩, ⟨rk HO_652002⟩, ⟨bk BK643⟩, ⟨bk BK644⟩, ⟨bk BK645⟩, ⟨bk BK651⟩, ⟨bl4 HB GE643 GE644 GE645 GE651⟩⟩
   replace c27 := Bool.eq_false_iff.mpr c27
   subst c27
   rw [if_neg (show ¬ (false = true) by decide)] at H
   by_cases c29 : 0 ≤ x8_1
   rotate_left
   ·rw [if_neg c29] at H
    exact absurd H (by simp)
   rw [if_pos c29] at H
   have c29b0 : decide (0 ≤ x8_1) = true := decide_eq_true c29
   clear c29
   (skip)
   have H' := ak H
   clear H
   try go_wp2
   replace HO_652001 := ak (Kd.R_drew HO_652001.out)
   replace HO_652002 := ak (Kd.R_drew HO_652002.out)
   replace BK643 := ak (blk_drew BK643.out)
   replace BK644 := ak (blk_drew BK644.out)
   replace BK645 := ak (blk_drew BK645.out)
   replace BK651 := ak (blk_drew BK651.out)
   replace HB := ak (below_drew1 HB.out)
   have p652 : 0 ≤ (x8_1 : Int) := oT (by (with_reducible assumption))
   have q652 : x8_1 < (l0_2.length : Int) := oT (by (with_reducible assumption))
   obtain ⟨ad652, e652, hx652_0, hx652_1, hx652_2⟩ := at_T113 HR0_2.out x8_1 p652 q652
   have hw652_2 := hx652_2
   have hw652_1 := hx652_1
   have hw652_0 := hx652_0
   cases e652
   replace hx652_0 := hcb HB.out hx652_0
   replace hx652_1 := hcb HB.out hx652_1
   replace hx652_2 := hcb HB.out hx652_2
   replace p652 := eq_true p652
   replace q652 := eq_true q652
   refine start_ (n := 13) (S := fun w' => w'.cell? ⟨gb643, 0, none⟩ = some (.int .i64 a0_0) ∧ w'.cell? ⟨gb643, 1, none⟩ = some (.slice A0_1 l0_1.length c0_1) ∧ w'.cell? ⟨gb643, 2, none⟩ = some (.slice (some ad652) l0_2.length c0_2) ∧ w'.cell? ⟨gb644, 0, none⟩ = some (.int .i64 a1_0) ∧ w'.cell? ⟨gb644, 1, none⟩ = some (.int .i64 a1_1) ∧ w'.cell? ⟨gb644, 2, none⟩ = some (.int .i64 a1_2) ∧ w'.cell? (ad652.add ((x8_1).toNat * 3)) = some (.int .i64 ((rd_T113 l0_2 x8_1).f0)) ∧ w'.cell? ⟨(ad652.add ((x8_1).toNat * 3)).block, (ad652.add ((x8_1).toNat * 3)).off + 1, none⟩ = some (.int .i64 ((rd_T113 l0_2 x8_1).f1)) ∧ w'.cell? ⟨(ad652.add ((x8_1).toNat * 3)).block, (ad652.add ((x8_1).toNat * 3)).off + 2, none⟩ = some (.int .i64 ((rd_T113 l0_2 x8_1).f2))) (ds := []) (ms 13 0) (by kernel_rfl) rfl (by kernel_rfl) ⟨(blk_cell BK643.out 0).trans rfl, (blk_cell BK643.out 1).trans rfl, (blk_cell BK643.out 2).trans rfl, (blk_cell BK644.out 0).trans rfl, (blk_cell BK644.out 1).trans rfl, (blk_cell BK644.out 2).trans rfl, ((HB.out.cell (World.block_lt_of_cell? w _ hw652_0)).trans hw652_0), ((HB.out.cell (World.block_lt_of_cell? w _ hw652_1)).trans hw652_1), ((HB.out.cell (World.block_lt_of_cell? w _ hw652_2)).trans hw652_2)⟩ (fun hHeld => ?_); refine with_tabW spec_LiveTell.tab8 spec_LiveTell.bits8 (fun HT_ HW_ => ?_)
   generalize wr.drew = w30 at HO_652001 HO_652002 BK643 BK644 BK645 BK651 HB hx652_0 hx652_1 hx652_2 hHeld ⊢
   refine pu 0 24 ?_ (ms 13 1) rfl rfl HT_ (by kernel_rfl) (fun _ _ _ h => h) (by rfl) ?_ ?_ ?_ ?_
   rotate_left
   ·intro w'
    go_simp
    with_reducible rfl
   rotate_left
   ·simp only [SX]
    rfl
   refine pu 1 25 ?_ (ms 13 3) rfl rfl HT_ (by kernel_rfl) (fun _ _ _ h => h) (by rfl) ?_ ?_ ?_ ?_
   rotate_left
   ·intro w'
    go_simp
    with_reducible rfl
   rotate_left
   ·simp only [SX]
    rfl
   refine pu 2 26 ?_ (ms 13 7) rfl rfl HT_ (by kernel_rfl) (fun _ _ _ h => h) (by rfl) ?_ ?_ ?_ ?_
   rotate_left
   ·intro w'
    go_simp
    with_reducible rfl
   rotate_left
   ·simp only [SX]
    rfl
   refine pu 3 27 ?_ (ms 13 15) rfl rfl HT_ (by kernel_rfl) (fun _ _ _ h => h) (by rfl) ?_ ?_ ?_ ?_
   rotate_left
   ·intro w'
    go_simp
    with_reducible rfl
   rotate_left
   ·simp only [SX]
    rfl
   refine pu 5 29 ?_ (ms 13 47) rfl rfl HT_ (by kernel_rfl) (fun _ _ _ h => h) (by rfl) ?_ ?_ ?_ ?_
   rotate_left
   ·intro w'
    go_simp
    with_reducible rfl
   rotate_left
   ·simp only [SX]
    rfl
   refine pu 9 33 ?_ (ms 13 559) rfl rfl HT_ (by kernel_rfl) (fun _ _ _ h => h) (by rfl) ?_ ?_ ?_ ?_
   rotate_left
   ·intro w'
    go_simp
    with_reducible rfl
   rotate_left
   ·simp only [SX]
    rfl
   refine tk 4 28 ?_ (ms 13 575) rfl rfl HT_ HW_ (by kernel_rfl) (fun _ _ _ h => h) (by rfl) ?_ hHeld ?_ ?_ ?_
   rotate_left
   ·rintro w' ⟨s0, s1, s2, s3, s4, s5, s6, s7, s8⟩
    go_simp
    with_reducible rfl
   rotate_left
   ·simp only [SX]
    rfl
   refine pu 6 30 ?_ (ms 13 639) rfl rfl HT_ (by kernel_rfl) (fun _ _ _ h => h) (by rfl) ?_ ?_ ?_ ?_
   rotate_left
   ·intro w'
    go_simp
    with_reducible rfl
   rotate_left
   ·simp only [SX]
    rfl
   refine pu 7 31 ?_ (ms 13 767) rfl rfl HT_ (by kernel_rfl) (fun _ _ _ h => h) (by rfl) ?_ ?_ ?_ ?_
   rotate_left
   ·intro w'
    go_simp
    with_reducible rfl
   rotate_left
   ·simp only [SX]
    rfl
   refine tk 8 32 ?_ (ms 13 1023) rfl rfl HT_ HW_ (by kernel_rfl) (fun _ _ _ h => h) (by rfl) ?_ hHeld ?_ ?_ ?_
   rotate_left
   ·rintro w' ⟨s0, s1, s2, s3, s4, s5, s6, s7, s8⟩
    go_simp
    with_reducible rfl
   rotate_left
   ·simp only [SX]
    rfl
   refine tk 10 34 ?_ (ms 13 2047) rfl rfl HT_ HW_ (by kernel_rfl) (fun _ _ _ h => h) (by rfl) ?_ hHeld ?_ ?_ ?_
   rotate_left
   ·rintro w' ⟨s0, s1, s2, s3, s4, s5, s6, s7, s8⟩
    go_simp
    with_reducible rfl
   rotate_left
   ·simp only [SX]
    rfl
   refine pu 11 35 ?_ (ms 13 4095) rfl rfl HT_ (by kernel_rfl) (fun _ _ _ h => h) (by rfl) ?_ ?_ ?_ ?_
   rotate_left
   ·intro w'
    go_simp
    with_reducible rfl
   rotate_left
   ·simp only [SX]
    rfl
   refine pu 12 36 ?_ (ms 13 8191) rfl rfl HT_ (by kernel_rfl) (fun _ _ _ h => h) (by rfl) ?_ ?_ ?_ ?_
   rotate_left
   ·intro w'
    go_simp
    with_reducible rfl
   rotate_left
   ·simp only [SX]
    rfl
   refine done_ (done_of HT_.out (by kernel_rfl)) ?_
   try go_wp2
   go_meet
   case rel => exact ⟨_, (decide (((rd_T113 l0_2 x8_1).f0) ≥ a1_0)), (by rfl), H', ⟨by have := HK1.out; omega⟩, ⟨rk HO_652001⟩, ⟨rk HO_652002⟩, ⟨bk BK643⟩, ⟨bk BK644⟩, ⟨bk BK645⟩, ⟨bk BK651⟩, ⟨bl4 HB GE643 GE644 GE645 GE651⟩⟩
  clear HC22
  try clear c1
  try clear c2
  try clear p2
  try clear c4
  try clear p6
  try clear q6
  try clear hx6
  try clear c7
  try clear c9
  try clear c10
  try clear c11
  try clear c12
  try clear c17
  try clear c18
  try clear c19
  try clear c21
  try clear c21b0
  try clear c23
  try clear c24
  try clear c25
  try clear c27
  try clear c29
  try clear c29b0
  try clear hcz11_0
  try clear hcz11_1
  try clear hcz11_2
  try clear hcz13_0
  try clear hcz13_1
  try clear hcz13_2
  try clear hcz20_0
  try clear hcz20_1
  try clear hcz20_2
  try clear hcz26_0
  try clear hcz26_1
  try clear hcz26_2
  try clear hfz11_0
  try clear hfz11_1
  try clear hfz11_2
  try clear hfz13_0
  try clear hfz13_1
  try clear hfz13_2
  try clear hfz20_0
  try clear hfz20_1
  try clear hfz20_2
  try clear hfz26_0
  try clear hfz26_1
  try clear hfz26_2
  try clear hx652_0
  try clear hx652_1
  try clear hx652_2
  try clear p2
  try clear p652
  try clear q652
  obtain ⟨kq, x36_21, rfl, HA, HJ21, HO_652001, HO_652002, BK643, BK644, BK645, BK651, HB⟩ := hcut
  cases kq with
  | zero => exact absurd HA.out (by simp [spec_LiveTell.j1])
  | succ kj21 =>
   have H := HA.out
   clear HA
   simp only [spec_LiveTell.j1] at H
   by_cases c31 : x36_21 = true
   rotate_left
   ·replace c31 := Bool.eq_false_iff.mpr c31
    subst c31
    rw [if_neg (show ¬ (false = true) by decide)] at H
    by_cases c65 : 0 ≤ x8_1
    rotate_left
    ·rw [if_neg c65] at H
     exact absurd H (by simp)
    rw [if_pos c65] at H
    have c65b0 : decide (0 ≤ x8_1) = true := decide_eq_true c65
    clear c65
    by_cases c66 : x8_1 < (l0_2.length : Int)
    rotate_left
    ·rw [if_neg c66] at H
     exact absurd H (by simp)
    rw [if_pos c66] at H
    have c66b0 : decide (x8_1 < (l0_2.length : Int)) = true := decide_eq_true c66
    clear c66
    by_cases c67 : ((rd_T113 l0_2 x8_1).f0) = a1_0
    ·rw [if_pos c67] at H
     have c67b0 : (((rd_T113 l0_2 x8_1).f0) == a1_0) = true := beq_iff_eq.mpr c67
     have c67b1 : (((rd_T113 l0_2 x8_1).f0) != a1_0) = false := bne_eq_false_iff_eq.mpr c67
     clear c67
     have H' := ak H
     clear H
     try go_wp2
     replace HO_652001 := ak (Kd.R_drew HO_652001.out)
     replace HO_652002 := ak (Kd.R_drew HO_652002.out)
     replace BK643 := ak (blk_drew BK643.out)
     replace BK644 := ak (blk_drew BK644.out)
     replace BK645 := ak (blk_drew BK645.out)
     replace BK651 := ak (blk_drew BK651.out)
     replace HB := ak (below_drew1 HB.out)
     have p661 : 0 ≤ (x8_1 : Int) := oT (by (with_reducible assumption))
     have q661 : x8_1 < (l0_2.length : Int) := oT (by (with_reducible assumption))
     obtain ⟨ad661, e661, hx661_0, hx661_1, hx661_2⟩ := at_T113 HR0_2.out x8_1 p661 q661
     have hw661_2 := hx661_2
     have hw661_1 := hx661_1
     have hw661_0 := hx661_0
     cases e661
     replace hx661_0 := hcb HB.out hx661_0
     replace hx661_1 := hcb HB.out hx661_1
     replace hx661_2 := hcb HB.out hx661_2
     replace p661 := eq_true p661
     replace q661 := eq_true q661
     refine start_ (n := 9) (S := fun w' => w'.cell? ⟨gb643, 0, none⟩ = some (.int .i64 a0_0) ∧ w'.cell? ⟨gb643, 1, none⟩ = some (.slice A0_1 l0_1.length c0_1) ∧ w'.cell? ⟨gb643, 2, none⟩ = some (.slice (some ad661) l0_2.length c0_2) ∧ w'.cell? ⟨gb644, 0, none⟩ = some (.int .i64 a1_0) ∧ w'.cell? ⟨gb644, 1, none⟩ = some (.int .i64 a1_1) ∧ w'.cell? ⟨gb644, 2, none⟩ = some (.int .i64 a1_2) ∧ w'.cell? (ad661.add ((x8_1).toNat * 3)) = some (.int .i64 ((rd_T113 l0_2 x8_1).f0)) ∧ w'.cell? ⟨(ad661.add ((x8_1).toNat * 3)).block, (ad661.add ((x8_1).toNat * 3)).off + 1, none⟩ = some (.int .i64 ((rd_T113 l0_2 x8_1).f1)) ∧ w'.cell? ⟨(ad661.add ((x8_1).toNat * 3)).block, (ad661.add ((x8_1).toNat * 3)).off + 2, none⟩ = some (.int .i64 ((rd_T113 l0_2 x8_1).f2))) (ds := []) (ms 9 0) (by kernel_rfl) rfl (by kernel_rfl) ⟨(blk_cell BK643.out 0).trans rfl, (blk_cell BK643.out 1).trans rfl, (blk_cell BK643.out 2).trans rfl, (blk_cell BK644.out 0).trans rfl, (blk_cell BK644.out 1).trans rfl, (blk_cell BK644.out 2).trans rfl, ((HB.out.cell (World.block_lt_of_cell? w _ hw661_0)).trans hw661_0), ((HB.out.cell (World.block_lt_of_cell? w _ hw661_1)).trans hw661_1), ((HB.out.cell (World.block_lt_of_cell? w _ hw661_2)).trans hw661_2)⟩ (fun hHeld => ?_); refine with_tabW spec_LiveTell.tab11 spec_LiveTell.bits11 (fun HT_ HW_ => ?_)
     generalize wc.drew = w68 at HO_652001 HO_652002 BK643 BK644 BK645 BK651 HB hx661_0 hx661_1 hx661_2 hHeld ⊢
     refine pu 0 43 ?_ (ms 9 1) rfl rfl HT_ (by kernel_rfl) (fun _ _ _ h => h) (by rfl) ?_ ?_ ?_ ?_
     rotate_left
     ·intro w'
      go_simp
      with_reducible rfl
     rotate_left
     ·simp only [SX]
      rfl
     refine pu 2 45 ?_ (ms 9 5) rfl rfl HT_ (by kernel_rfl) (fun _ _ _ h => h) (by rfl) ?_ ?_ ?_ ?_
     rotate_left
     ·intro w'
      go_simp
      with_reducible rfl
     rotate_left
     ·simp only [SX]
      rfl
     refine pu 6 49 ?_ (ms 9 69) rfl rfl HT_ (by kernel_rfl) (fun _ _ _ h => h) (by rfl) ?_ ?_ ?_ ?_
     rotate_left
     ·intro w'
      go_simp
      with_reducible rfl
     rotate_left
     ·simp only [SX]
      rfl
     refine tk 1 44 ?_ (ms 9 71) rfl rfl HT_ HW_ (by kernel_rfl) (fun _ _ _ h => h) (by rfl) ?_ hHeld ?_ ?_ ?_
     rotate_left
     ·rintro w' ⟨s0, s1, s2, s3, s4, s5, s6, s7, s8⟩
      go_simp
      with_reducible rfl
     rotate_left
     ·simp only [SX]
      rfl
     refine pu 3 46 ?_ (ms 9 79) rfl rfl HT_ (by kernel_rfl) (fun _ _ _ h => h) (by rfl) ?_ ?_ ?_ ?_
     rotate_left
     ·intro w'
      go_simp
      with_reducible rfl
     rotate_left
     ·simp only [SX]
      rfl
     refine pu 4 47 ?_ (ms 9 95) rfl rfl HT_ (by kernel_rfl) (fun _ _ _ h => h) (by rfl) ?_ ?_ ?_ ?_
     rotate_left
     ·intro w'
      go_simp
      with_reducible rfl
     rotate_left
     ·simp only [SX]
      rfl
     refine tk 5 48 ?_ (ms 9 127) rfl rfl HT_ HW_ (by kernel_rfl) (fun _ _ _ h => h) (by rfl) ?_ hHeld ?_ ?_ ?_
     rotate_left
     ·rintro w' ⟨s0, s1, s2, s3, s4, s5, s6, s7, s8⟩
      go_simp
      with_reducible rfl
     rotate_left
     ·simp only [SX]
      rfl
     refine tk 7 50 ?_ (ms 9 255) rfl rfl HT_ HW_ (by kernel_rfl) (fun _ _ _ h => h) (by rfl) ?_ hHeld ?_ ?_ ?_
     rotate_left
     ·rintro w' ⟨s0, s1, s2, s3, s4, s5, s6, s7, s8⟩
      go_simp
      with_reducible rfl
     rotate_left
     ·simp only [SX]
      rfl
     refine pu 8 51 ?_ (ms 9 511) rfl rfl HT_ (by kernel_rfl) (fun _ _ _ h => h) (by rfl) ?_ ?_ ?_ ?_
     rotate_left
     ·intro w'
      go_simp
      with_reducible rfl
     rotate_left
     ·simp only [SX]
      rfl
     refine done_ (done_of HT_.out (by kernel_rfl)) ?_
     try go_wp2
     go_roundg kj21
     case measure => have := HK1.out; have := HJ21.out; omega
     case rel => exact ⟨(x7_1), (wrap64 (x8_1 + 1)), (x652002_1), (u652002), (by rfl), (by rfl), H', ⟨by have := HK1.out; have := HJ21.out; omega⟩, ⟨rk HO_652001⟩, ⟨rk HO_652002⟩, ⟨bk BK643⟩, ⟨bk BK644⟩, ⟨bk BK645⟩, ⟨bk BK651⟩, ⟨bl4 HB GE643 GE644 GE645 GE651⟩⟩
    rw [if_neg c67] at H
    have c67b0 : (((rd_T113 l0_2 x8_1).f0) == a1_0) = false := beq_eq_false_iff_ne.mpr c67
    have c67b1 : (((rd_T113 l0_2 x8_1).f0) != a1_0) = true := bne_iff_ne.mpr c67
    by_cases c69 : x652002_1.length < 5864062014805
    rotate_left
    ·rw [if_neg c69] at H
     exact absurd H (by simp)
    rw [if_pos c69] at H
    have LMc69 := ak c69
    clear c69
    obtain ⟨y663, hy663⟩ : ∃ y_ : List (S113), y_ = (x652002_1 ++ [(⟨(rd_T113 l0_2 x8_1).f0, (rd_T113 l0_2 x8_1).f1, (rd_T113 l0_2 x8_1).f2⟩ : S113)]) := ⟨_, rfl⟩
    replace H : (spec_LiveTell.l0 kj21 x7_1 (wrap64 (x8_1 + 1)) a0_0 l0_1 l0_2 a1_0 a1_1 a1_2 t647 t648 y663) = some (r1, r2, r3, r4) := by (rw [hy663]; with_reducible exact H)
    have Ny663 := ak hy663
    clear hy663
    have H' := ak H
    clear H
    try go_wp2
    replace HO_652001 := ak (Kd.R_drew HO_652001.out)
    replace HO_652002 := ak (Kd.R_drew HO_652002.out)
    replace BK643 := ak (blk_drew BK643.out)
    replace BK644 := ak (blk_drew BK644.out)
    replace BK645 := ak (blk_drew BK645.out)
    replace BK651 := ak (blk_drew BK651.out)
    replace HB := ak (below_drew1 HB.out)
    have p661 : 0 ≤ (x8_1 : Int) := oT (by (with_reducible assumption))
    have q661 : x8_1 < (l0_2.length : Int) := oT (by (with_reducible assumption))
    obtain ⟨ad661, e661, hx661_0, hx661_1, hx661_2⟩ := at_T113 HR0_2.out x8_1 p661 q661
    have hw661_2 := hx661_2
    have hw661_1 := hx661_1
    have hw661_0 := hx661_0
    cases e661
    replace hx661_0 := hcb HB.out hx661_0
    replace hx661_1 := hcb HB.out hx661_1
    replace hx661_2 := hcb HB.out hx661_2
    replace p661 := eq_true p661
    replace q661 := eq_true q661
    refine start_ (n := 9) (S := fun w' => w'.cell? ⟨gb643, 0, none⟩ = some (.int .i64 a0_0) ∧ w'.cell? ⟨gb643, 1, none⟩ = some (.slice A0_1 l0_1.length c0_1) ∧ w'.cell? ⟨gb643, 2, none⟩ = some (.slice (some ad661) l0_2.length c0_2) ∧ w'.cell? ⟨gb644, 0, none⟩ = some (.int .i64 a1_0) ∧ w'.cell? ⟨gb644, 1, none⟩ = some (.int .i64 a1_1) ∧ w'.cell? ⟨gb644, 2, none⟩ = some (.int .i64 a1_2) ∧ w'.cell? (ad661.add ((x8_1).toNat * 3)) = some (.int .i64 ((rd_T113 l0_2 x8_1).f0)) ∧ w'.cell? ⟨(ad661.add ((x8_1).toNat * 3)).block, (ad661.add ((x8_1).toNat * 3)).off + 1, none⟩ = some (.int .i64 ((rd_T113 l0_2 x8_1).f1)) ∧ w'.cell? ⟨(ad661.add ((x8_1).toNat * 3)).block, (ad661.add ((x8_1).toNat * 3)).off + 2, none⟩ = some (.int .i64 ((rd_T113 l0_2 x8_1).f2))) (ds := []) (ms 9 0) (by kernel_rfl) rfl (by kernel_rfl) ⟨(blk_cell BK643.out 0).trans rfl, (blk_cell BK643.out 1).trans rfl, (blk_cell BK643.out 2).trans rfl, (blk_cell BK644.out 0).trans rfl, (blk_cell BK644.out 1).trans rfl, (blk_cell BK644.out 2).trans rfl, ((HB.out.cell (World.block_lt_of_cell? w _ hw661_0)).trans hw661_0), ((HB.out.cell (World.block_lt_of_cell? w _ hw661_1)).trans hw661_1), ((HB.out.cell (World.block_lt_of_cell? w _ hw661_2)).trans hw661_2)⟩ (fun hHeld => ?_); refine with_tabW spec_LiveTell.tab11 spec_LiveTell.bits11 (fun HT_ HW_ => ?_)
    generalize wc.drew = w70 at HO_652001 HO_652002 BK643 BK644 BK645 BK651 HB hx661_0 hx661_1 hx661_2 hHeld ⊢
    refine pu 0 43 ?_ (ms 9 1) rfl rfl HT_ (by kernel_rfl) (fun _ _ _ h => h) (by rfl) ?_ ?_ ?_ ?_
    rotate_left
    ·intro w'
     go_simp
     with_reducible rfl
    rotate_left
    ·simp only [SX]
     rfl
    refine pu 2 45 ?_ (ms 9 5) rfl rfl HT_ (by kernel_rfl) (fun _ _ _ h => h) (by rfl) ?_ ?_ ?_ ?_
    rotate_left
    ·intro w'
     go_simp
     with_reducible rfl
    rotate_left
    ·simp only [SX]
     rfl
    refine pu 6 49 ?_ (ms 9 69) rfl rfl HT_ (by kernel_rfl) (fun _ _ _ h => h) (by rfl) ?_ ?_ ?_ ?_
    rotate_left
    ·intro w'
     go_simp
     with_reducible rfl
    rotate_left
    ·simp only [SX]
     rfl
    refine tk 1 44 ?_ (ms 9 71) rfl rfl HT_ HW_ (by kernel_rfl) (fun _ _ _ h => h) (by rfl) ?_ hHeld ?_ ?_ ?_
    rotate_left
    ·rintro w' ⟨s0, s1, s2, s3, s4, s5, s6, s7, s8⟩
     go_simp
     with_reducible rfl
    rotate_left
    ·simp only [SX]
     rfl
    refine pu 3 46 ?_ (ms 9 79) rfl rfl HT_ (by kernel_rfl) (fun _ _ _ h => h) (by rfl) ?_ ?_ ?_ ?_
    rotate_left
    ·intro w'
     go_simp
     with_reducible rfl
    rotate_left
    ·simp only [SX]
     rfl
    refine pu 4 47 ?_ (ms 9 95) rfl rfl HT_ (by kernel_rfl) (fun _ _ _ h => h) (by rfl) ?_ ?_ ?_ ?_
    rotate_left
    ·intro w'
     go_simp
     with_reducible rfl
    rotate_left
    ·simp only [SX]
     rfl
    refine tk 5 48 ?_ (ms 9 127) rfl rfl HT_ HW_ (by kernel_rfl) (fun _ _ _ h => h) (by rfl) ?_ hHeld ?_ ?_ ?_
    rotate_left
    ·rintro w' ⟨s0, s1, s2, s3, s4, s5, s6, s7, s8⟩
     go_simp
     with_reducible rfl
    rotate_left
    ·simp only [SX]
     rfl
    refine tk 7 50 ?_ (ms 9 255) rfl rfl HT_ HW_ (by kernel_rfl) (fun _ _ _ h => h) (by rfl) ?_ hHeld ?_ ?_ ?_
    rotate_left
    ·rintro w' ⟨s0, s1, s2, s3, s4, s5, s6, s7, s8⟩
     go_simp
     with_reducible rfl
    rotate_left
    ·simp only [SX]
     rfl
    refine pu 8 51 ?_ (ms 9 511) rfl rfl HT_ (by kernel_rfl) (fun _ _ _ h => h) (by rfl) ?_ ?_ ?_ ?_
    rotate_left
    ·intro w'
     go_simp
     with_reducible rfl
    rotate_left
    ·simp only [SX]
     rfl
    refine done_ (done_of HT_.out (by kernel_rfl)) ?_
    try go_wp2
    replace HO_652001 := ak (Kd.R_drew HO_652001.out)
    replace HO_652002 := ak (Kd.R_drew HO_652002.out)
    replace BK643 := ak (blk_drew BK643.out)
    replace BK644 := ak (blk_drew BK644.out)
    replace BK645 := ak (blk_drew BK645.out)
    replace BK651 := ak (blk_drew BK651.out)
    replace HB := ak (below_drew1 HB.out)
    have p662 : 0 ≤ (x8_1 : Int) := oT (by (with_reducible assumption))
    have q662 : x8_1 < (l0_2.length : Int) := oT (by (with_reducible assumption))
    obtain ⟨ad662, e662, hx662_0, hx662_1, hx662_2⟩ := at_T113 HR0_2.out x8_1 p662 q662
    have hw662_2 := hx662_2
    have hw662_1 := hx662_1
    have hw662_0 := hx662_0
    obtain rfl : ad661 = ad662 := (by injection e662)
    replace hx662_0 := hcb HB.out hx662_0
    replace hx662_1 := hcb HB.out hx662_1
    replace hx662_2 := hcb HB.out hx662_2
    replace p662 := eq_true p662
    replace q662 := eq_true q662
    refine start_ (n := 11) (S := fun w' => w'.cell? ⟨gb651, 0, none⟩ = some (.int .i64 t647) ∧ w'.cell? ⟨gb651, 1, none⟩ = some (.slice Ao15 t648.length co15) ∧ w'.cell? ⟨gb651, 2, none⟩ = some (u652002) ∧ w'.cell? ⟨gb643, 0, none⟩ = some (.int .i64 a0_0) ∧ w'.cell? ⟨gb643, 1, none⟩ = some (.slice A0_1 l0_1.length c0_1) ∧ w'.cell? ⟨gb643, 2, none⟩ = some (.slice (some ad661) l0_2.length c0_2) ∧ w'.cell? (ad661.add ((x8_1).toNat * 3)) = some (.int .i64 ((rd_T113 l0_2 x8_1).f0)) ∧ w'.cell? ⟨(ad661.add ((x8_1).toNat * 3)).block, (ad661.add ((x8_1).toNat * 3)).off + 1, none⟩ = some (.int .i64 ((rd_T113 l0_2 x8_1).f1)) ∧ w'.cell? ⟨(ad661.add ((x8_1).toNat * 3)).block, (ad661.add ((x8_1).toNat * 3)).off + 2, none⟩ = some (.int .i64 ((rd_T113 l0_2 x8_1).f2))) (ds := [10]) (ms 11 0) (by kernel_rfl) rfl (by kernel_rfl) ⟨(blk_cell BK651.out 0).trans rfl, (blk_cell BK651.out 1).trans rfl, (blk_cell BK651.out 2).trans rfl, (blk_cell BK643.out 0).trans rfl, (blk_cell BK643.out 1).trans rfl, (blk_cell BK643.out 2).trans rfl, ((HB.out.cell (World.block_lt_of_cell? w _ hw662_0)).trans hw662_0), ((HB.out.cell (World.block_lt_of_cell? w _ hw662_1)).trans hw662_1), ((HB.out.cell (World.block_lt_of_cell? w _ hw662_2)).trans hw662_2)⟩ (fun hHeld => ?_); refine with_tabW spec_LiveTell.tab12 spec_LiveTell.bits12 (fun HT_ HW_ => ?_)
    generalize w70.drew = w71 at HO_652001 HO_652002 BK643 BK644 BK645 BK651 HB hx662_0 hx662_1 hx662_2 hHeld ⊢
    refine pu 0 52 ?_ (ms 11 1) rfl rfl HT_ (by kernel_rfl) (fun _ _ _ h => h) (by rfl) ?_ ?_ ?_ ?_
    rotate_left
    ·intro w'
     go_simp
     with_reducible rfl
    rotate_left
    ·simp only [SX]
     rfl
    refine pu 2 54 ?_ (ms 11 5) rfl rfl HT_ (by kernel_rfl) (fun _ _ _ h => h) (by rfl) ?_ ?_ ?_ ?_
    rotate_left
    ·intro w'
     go_simp
     with_reducible rfl
    rotate_left
    ·simp only [SX]
     rfl
    refine pu 4 56 ?_ (ms 11 21) rfl rfl HT_ (by kernel_rfl) (fun _ _ _ h => h) (by rfl) ?_ ?_ ?_ ?_
    rotate_left
    ·intro w'
     go_simp
     with_reducible rfl
    rotate_left
    ·simp only [SX]
     rfl
    refine tk 1 53 ?_ (ms 11 23) rfl rfl HT_ HW_ (by kernel_rfl) (fun _ _ _ h => h) (by rfl) ?_ hHeld ?_ ?_ ?_
    rotate_left
    ·rintro w' ⟨s0, s1, s2, s3, s4, s5, s6, s7, s8⟩
     go_simp
     with_reducible rfl
    rotate_left
    ·simp only [SX]
     rfl
    refine tk 3 55 ?_ (ms 11 31) rfl rfl HT_ HW_ (by kernel_rfl) (fun _ _ _ h => h) (by rfl) ?_ hHeld ?_ ?_ ?_
    rotate_left
    ·rintro w' ⟨s0, s1, s2, s3, s4, s5, s6, s7, s8⟩
     go_simp
     with_reducible rfl
    rotate_left
    ·simp only [SX]
     rfl
    refine pu 5 57 ?_ (ms 11 63) rfl rfl HT_ (by kernel_rfl) (fun _ _ _ h => h) (by rfl) ?_ ?_ ?_ ?_
    rotate_left
    ·intro w'
     go_simp
     with_reducible rfl
    rotate_left
    ·simp only [SX]
     rfl
    refine tk 6 58 ?_ (ms 11 127) rfl rfl HT_ HW_ (by kernel_rfl) (fun _ _ _ h => h) (by rfl) ?_ hHeld ?_ ?_ ?_
    rotate_left
    ·rintro w' ⟨s0, s1, s2, s3, s4, s5, s6, s7, s8⟩
     go_simp
     with_reducible rfl
    rotate_left
    ·simp only [SX]
     rfl
    refine one_ (i := 7) (N := some 59) (ms 11 255) rfl rfl (one_of HT_.out (by kernel_rfl)) (by decide) (fun K hK => ?_)
    refine value_ (w1 := ?_) (v := ?_) (by rfl) rfl ?_ ?_
    rotate_left 2
    ·go_simp
     constructor
     rotate_left
     ·rfl
     rfl
    refine hK.out _ _ ⟨(blk_cell (blk_alloc BK651.out _) 0).trans rfl, (blk_cell (blk_alloc BK651.out _) 1).trans rfl, (blk_cell (blk_alloc BK651.out _) 2).trans rfl, (blk_cell (blk_alloc BK643.out _) 0).trans rfl, (blk_cell (blk_alloc BK643.out _) 1).trans rfl, (blk_cell (blk_alloc BK643.out _) 2).trans rfl, (World.cell?_alloc_lt _ _ _ (World.block_lt_of_cell? _ _ (((HB.out.cell (World.block_lt_of_cell? w _ hw662_0)).trans hw662_0)))).trans (((HB.out.cell (World.block_lt_of_cell? w _ hw662_0)).trans hw662_0)), (World.cell?_alloc_lt _ _ _ (World.block_lt_of_cell? _ _ (((HB.out.cell (World.block_lt_of_cell? w _ hw662_1)).trans hw662_1)))).trans (((HB.out.cell (World.block_lt_of_cell? w _ hw662_1)).trans hw662_1)), (World.cell?_alloc_lt _ _ _ (World.block_lt_of_cell? _ _ (((HB.out.cell (World.block_lt_of_cell? w _ hw662_2)).trans hw662_2)))).trans (((HB.out.cell (World.block_lt_of_cell? w _ hw662_2)).trans hw662_2))⟩ (fun hHeld => ?_)
    clear hK K
    refine norm_ (a' := ?_) ?_ ?_
    rotate_left
    ·show Act.put _ (some 59) _ = _
     simp only [SX]
     rfl
    refine one_ (i := 8) (N := some 60) (ms 11 511) rfl rfl (one_of HT_.out (by kernel_rfl)) (by decide) (fun K hK => ?_)
    refine Kd.R_append_step k113 (w0 := w) w.heap.size (by rfl) (.tmp 53) (.tmp 59) 42 113 (.agg #[(.int .i64 0), (.int .i64 0), (.int .i64 0)]) 24 rfl Try.underlying42 info113 rfl (by decide) (by omega) u652002 x652002_1 (⟨(rd_T113 l0_2 x8_1).f0, (rd_T113 l0_2 x8_1).f1, (rd_T113 l0_2 x8_1).f2⟩ : S113) [.int .i64 ((rd_T113 l0_2 x8_1).f0), .int .i64 ((rd_T113 l0_2 x8_1).f1), .int .i64 ((rd_T113 l0_2 x8_1).f2)] (fun k_ => k_ ≠ gb644) (fun _ => False) rfl rfl ?aP (fun _ hk => hk.elim) ?aF ?aO ?aB ?aS ?aL ?_
    (case aP => exact k113_mkM _ _ _ (⟨(rd_T113 l0_2 x8_1).f0, (rd_T113 l0_2 x8_1).f1, (rd_T113 l0_2 x8_1).f2⟩ : S113))
    (case aB => exact (bl4 HB GE643 GE644 GE645 GE651))
    (case aF => exact (fun k_ hk => Kd.freshB (bk BK644) k_ hk))
    (case aO => exact (rk HO_652002))
    (case aS => exact (below_size (bl4 HB GE643 GE644 GE645 GE651)))
    (case aL => have := LMc69.out; omega)
    intro v664 w72 ho hb hg hat
    rw [← Ny663.out] at ho
    have n0_ := ak (Kd.R_over' (rk HO_652001) (Kd.R_typed (rk HO_652002)) (by decide) hg)
    have n1_ := ak (blk_grown (bk BK643) hg (Kd.R_ne HO_652002.out BK643.out (by decide)))
    have n2_ := ak (blk_grown (bk BK644) hg (Kd.R_away HO_652002.out (fun _ hk => hk)))
    have n3_ := ak (blk_grown (bk BK645) hg (Kd.R_ne HO_652002.out BK645.out (by decide)))
    have n4_ := ak (blk_grown (bk BK651) hg (Kd.R_ne HO_652002.out BK651.out (by decide)))
    have n5_ := ak (hb)
    have n6_ := ak (ho)
    clear HO_652001
    clear BK643
    clear BK644
    clear BK645
    clear BK651
    clear HB
    clear HO_652002
    have HO_652001 := n0_
    have BK643 := n1_
    have BK644 := n2_
    have BK645 := n3_
    have BK651 := n4_
    have HB := n5_
    have HO665 := n6_
    clear n0_ n1_ n2_ n3_ n4_ n5_ n6_
    clear ho hb hg hat
    obtain ⟨Ao73, co73, eo73⟩ := Kd.R_slice HO665.out
    (subst eo73)
    refine hK.out _ _ ⟨(blk_cell BK651.out 0).trans rfl, (blk_cell BK651.out 1).trans rfl, (blk_cell BK651.out 2).trans rfl, (blk_cell BK643.out 0).trans rfl, (blk_cell BK643.out 1).trans rfl, (blk_cell BK643.out 2).trans rfl, ((HB.out.cell (World.block_lt_of_cell? w _ hw662_0)).trans hw662_0), ((HB.out.cell (World.block_lt_of_cell? w _ hw662_1)).trans hw662_1), ((HB.out.cell (World.block_lt_of_cell? w _ hw662_2)).trans hw662_2)⟩ (fun hHeld => ?_)
    clear hK K
    refine norm_ (a' := ?_) ?_ ?_
    rotate_left
    ·show Act.put _ (some 60) _ = _
     simp only [SX]
     rfl
    refine pu 9 61 ?_ (ms 11 1023) rfl rfl HT_ (by kernel_rfl) (fun _ _ _ h => h) (by rfl) ?_ ?_ ?_ ?_
    rotate_left
    ·intro w'
     go_simp
     with_reducible rfl
    rotate_left
    ·simp only [SX]
     rfl
    refine last_ (i := 10) (N := none) (ms 11 2047) rfl rfl (one_of HT_.out (by kernel_rfl)) (by decide) (fun K hK => ?_)
    have hs74 : w72.cell? ⟨gb651, 2, none⟩ = some (u652002) := (blk_cell BK651.out 2).trans rfl
    have hfs74 := blk_frozen BK651.out 2
    have hns74_0 := NB643_651.out
    have hns74_1 := NB644_651.out
    have hns74_2 := NB645_651.out
    have hms74_0 := NB651_643.out
    have hms74_1 := NB651_644.out
    have hms74_2 := NB651_645.out
    refine skip_ (w1 := ?_) (by rfl) rfl ?_ ?_
    rotate_left
    ·go_simp
     rfl
    refine hK.out _ _ ?_
    clear hK K
    refine done_ (done_of HT_.out (by kernel_rfl)) ?_
    try go_wp2
    go_roundg kj21
    case measure => have := HK1.out; have := HJ21.out; omega
    case rel => exact ⟨(x7_1), (wrap64 (x8_1 + 1)), (y663), (.slice Ao73 y663.length co73), (by rfl), (by rfl), H', ⟨by have := HK1.out; have := HJ21.out; omega⟩, ⟨by exact Kd.R_mono (Kd.R_far (p := ⟨gb651, 2, none⟩) (Kd.R_types HO_652001.out BK651.out (by decide)) (fun _ hk => hk.2) (.slice Ao73 y663.length co73)) (fun _ hk => trivial)⟩, ⟨by exact Kd.R_mono (Kd.R_far (p := ⟨gb651, 2, none⟩) (Kd.R_types HO665.out BK651.out (by decide)) (fun _ hk => hk.2) (.slice Ao73 y663.length co73)) (fun _ hk => hk.1)⟩, ⟨by refine blk_far ?_ NB643_651.out _; exact BK643.out⟩, ⟨by refine blk_far ?_ NB644_651.out _; exact BK644.out⟩, ⟨by refine blk_far ?_ NB645_651.out _; exact BK645.out⟩, ⟨by refine blk_put (cs := #[.int .i64 t647, .slice Ao15 t648.length co15, u652002]) ?_ 2 _ rfl; exact BK651.out⟩, ⟨bl4 HB GE643 GE644 GE645 GE651⟩⟩
   subst c31
   rw [if_pos rfl] at H
   by_cases c32 : x652002_1.length < 5864062014805
   rotate_left
   ·rw [if_neg c32] at H
    exact absurd H (by simp)
   rw [if_pos c32] at H
   have LMc32 := ak c32
   clear c32
   obtain ⟨y653, hy653⟩ : ∃ y_ : List (S113), y_ = (x652002_1 ++ [(⟨a1_0, a1_1, a1_2⟩ : S113)]) := ⟨_, rfl⟩
   replace H : (if 0 ≤ x8_1 then (if x8_1 < (l0_2.length : Int) then (if ((rd_T113 l0_2 x8_1).f0) = a1_0 then (spec_LiveTell.l0 kj21 true (wrap64 (x8_1 + 1)) a0_0 l0_1 l0_2 a1_0 a1_1 a1_2 t647 t648 y653) else (if y653.length < 5864062014805 then (spec_LiveTell.l0 kj21 true (wrap64 (x8_1 + 1)) a0_0 l0_1 l0_2 a1_0 a1_1 a1_2 t647 t648 (y653 ++ [(⟨(rd_T113 l0_2 x8_1).f0, (rd_T113 l0_2 x8_1).f1, (rd_T113 l0_2 x8_1).f2⟩ : S113)])) else (none))) else (none)) else (none)) = some (r1, r2, r3, r4) := by (have H2_ := (Option.bind_some _ _).symm.trans H; rw [hy653]; with_reducible exact H2_)
   have Ny653 := ak hy653
   clear hy653
   by_cases c33 : 0 ≤ x8_1
   rotate_left
   ·rw [if_neg c33] at H
    exact absurd H (by simp)
   rw [if_pos c33] at H
   have c33b0 : decide (0 ≤ x8_1) = true := decide_eq_true c33
   clear c33
   by_cases c34 : x8_1 < (l0_2.length : Int)
   rotate_left
   ·rw [if_neg c34] at H
    exact absurd H (by simp)
   rw [if_pos c34] at H
   have c34b0 : decide (x8_1 < (l0_2.length : Int)) = true := decide_eq_true c34
   clear c34
   by_cases c35 : ((rd_T113 l0_2 x8_1).f0) = a1_0
   ·rw [if_pos c35] at H
    have c35b0 : (((rd_T113 l0_2 x8_1).f0) == a1_0) = true := beq_iff_eq.mpr c35
    have c35b1 : (((rd_T113 l0_2 x8_1).f0) != a1_0) = false := bne_eq_false_iff_eq.mpr c35
    clear c35
    have H' := ak H
    clear H
    have hnb36 := NB651_643.out
    have hnc36 := NB643_651.out
    have hnb37 := NB651_644.out
    have hnc37 := NB644_651.out
    have hnb38 := NB651_645.out
    have hnc38 := NB645_651.out
    have hcz39_0 := bc wc BK651 0 (.int .i64 t647) rfl
    have hcz39_1 := bc wc BK651 1 (.slice Ao15 t648.length co15) rfl
    have hcz39_2 := bc wc BK651 2 (u652002) rfl
    have hfz39_0 := fz BK651 0
    have hfz39_1 := fz BK651 1
    have hfz39_2 := fz BK651 2
    have hnb40 := NB644_643.out
    have hnc40 := NB643_644.out
    have hnb41 := NB644_645.out
    have hnc41 := NB645_644.out
    have hcz42_0 := bc wc BK644 0 (.int .i64 a1_0) rfl
    have hcz42_1 := bc wc BK644 1 (.int .i64 a1_1) rfl
    have hcz42_2 := bc wc BK644 2 (.int .i64 a1_2) rfl
    have hfz42_0 := fz BK644 0
    have hfz42_1 := fz BK644 1
    have hfz42_2 := fz BK644 2
    try go_wp2_with (((with_reducible refine gate_builtin (b := .append) (xs := #[.tmp 38, .tmp 40]) rfl ?_); at_builtin; refine Kd.R_append k113 (w0 := w) w.heap.size rfl (.tmp 38) (.tmp 40) 42 113 (.agg #[(.int .i64 0), (.int .i64 0), (.int .i64 0)]) 24 rfl Try.underlying42 info113 rfl (by decide) (by omega) u652002 x652002_1 (⟨a1_0, a1_1, a1_2⟩ : S113) [.int .i64 a1_0, .int .i64 a1_1, .int .i64 a1_2] (fun k_ => k_ ≠ gb644) (fun _ => False) rfl rfl ?aP (fun _ hk => hk.elim) ?aF ?aO ?aB ?aS ?aL ?_; (case aP => exact k113_mkM _ _ _ (⟨a1_0, a1_1, a1_2⟩ : S113)); (case aB => exact (bl4 HB GE643 GE644 GE645 GE651)); (case aF => exact (fun k_ hk => Kd.freshB (bk BK644) k_ hk)); (case aO => exact (rk HO_652002)); (case aS => exact (below_size (bl4 HB GE643 GE644 GE645 GE651))); (case aL => have := LMc32.out; omega); intro v654 w43 ho hb hg hat; rw [← Ny653.out] at ho; have n0_ := ak (Kd.R_over' (rk HO_652001) (Kd.R_typed (rk HO_652002)) (by decide) hg); have n1_ := ak (blk_grown (bk BK643) hg (Kd.R_ne HO_652002.out BK643.out (by decide))); have n2_ := ak (blk_grown (bk BK644) hg (Kd.R_away HO_652002.out (fun _ hk => hk))); have n3_ := ak (blk_grown (bk BK645) hg (Kd.R_ne HO_652002.out BK645.out (by decide))); have n4_ := ak (blk_grown (bk BK651) hg (Kd.R_ne HO_652002.out BK651.out (by decide))); have n5_ := ak (hb); have n6_ := ak (ho); clear HO_652001; clear BK643; clear BK644; clear BK645; clear BK651; clear HB; clear HO_652002; have HO_652001 := n0_; have BK643 := n1_; have BK644 := n2_; have BK645 := n3_; have BK651 := n4_; have HB := n5_; have HO655 := n6_; clear n0_ n1_ n2_ n3_ n4_ n5_ n6_; clear ho hb hg hat; obtain ⟨Ao44, co44, eo44⟩ := Kd.R_slice HO655.out; subst eo44; have hcz45_0 := bc w43 BK651 0 (.int .i64 t647) rfl; have hcz45_1 := bc w43 BK651 1 (.slice Ao15 t648.length co15) rfl; have hcz45_2 := bc w43 BK651 2 (u652002) rfl; have hfz45_0 := fz BK651 0; have hfz45_1 := fz BK651 1; have hfz45_2 := fz BK651 2))
    have n0_ : Aside0 (Kd.R k41 41 (w43.setCell ⟨gb651, 2, none⟩ (.slice Ao44 y653.length co44)) w.heap.size (fun _ => True) (.slice Ao15 t648.length co15) t648) := ⟨by exact Kd.R_mono (Kd.R_far (p := ⟨gb651, 2, none⟩) (Kd.R_types HO_652001.out BK651.out (by decide)) (fun _ hk => hk.2) (.slice Ao44 y653.length co44)) (fun _ hk => trivial)⟩
    have n1_ : Aside0 (Kd.R k113 113 (w43.setCell ⟨gb651, 2, none⟩ (.slice Ao44 y653.length co44)) w.heap.size (fun k_ => k_ ≠ gb644) (.slice Ao44 y653.length co44) y653) := ⟨by exact Kd.R_mono (Kd.R_far (p := ⟨gb651, 2, none⟩) (Kd.R_types HO655.out BK651.out (by decide)) (fun _ hk => hk.2) (.slice Ao44 y653.length co44)) (fun _ hk => hk.1)⟩
    have n2_ : Aside0 ((w43.setCell ⟨gb651, 2, none⟩ (.slice Ao44 y653.length co44)).heap[gb643]? = some (.cells #[.int .i64 a0_0, .slice A0_1 l0_1.length c0_1, .slice A0_2 l0_2.length c0_2] 44 (0, 0))) := ⟨by refine blk_far ?_ NB643_651.out _; exact BK643.out⟩
    have n3_ : Aside0 ((w43.setCell ⟨gb651, 2, none⟩ (.slice Ao44 y653.length co44)).heap[gb644]? = some (.cells #[.int .i64 a1_0, .int .i64 a1_1, .int .i64 a1_2] 113 (0, 0))) := ⟨by refine blk_far ?_ NB644_651.out _; exact BK644.out⟩
    have n4_ : Aside0 ((w43.setCell ⟨gb651, 2, none⟩ (.slice Ao44 y653.length co44)).heap[gb645]? = some (.cells #[.int .i64 0, .slice none 0 0, .slice none 0 0] 44 (0, 0))) := ⟨by refine blk_far ?_ NB645_651.out _; exact BK645.out⟩
    have n5_ : Aside0 ((w43.setCell ⟨gb651, 2, none⟩ (.slice Ao44 y653.length co44)).heap[gb651]? = some (.cells #[.int .i64 t647, .slice Ao15 t648.length co15, .slice Ao44 y653.length co44] 44 (0, 0))) := ⟨by refine blk_put (cs := #[.int .i64 t647, .slice Ao15 t648.length co15, u652002]) ?_ 2 _ rfl; exact BK651.out⟩
    have n6_ : Aside0 (Below w.heap.size w (w43.setCell ⟨gb651, 2, none⟩ (.slice Ao44 y653.length co44))) := ⟨bl4 HB GE643 GE644 GE645 GE651⟩
    (try clear HO_652001)
    (try clear HO655)
    (try clear BK643)
    (try clear BK644)
    (try clear BK645)
    (try clear BK651)
    (try clear HB)
    generalize (w43.setCell ⟨gb651, 2, none⟩ (.slice Ao44 y653.length co44)) = w46 at n0_ n1_ n2_ n3_ n4_ n5_ n6_ ⊢
    have HO_652001 := n0_
    have HO655 := n1_
    have BK643 := n2_
    have BK644 := n3_
    have BK645 := n4_
    have BK651 := n5_
    have HB := n6_
    clear n0_ n1_ n2_ n3_ n4_ n5_ n6_
    replace HO_652001 := ak (Kd.R_drew HO_652001.out)
    replace HO655 := ak (Kd.R_drew HO655.out)
    replace BK643 := ak (blk_drew BK643.out)
    replace BK644 := ak (blk_drew BK644.out)
    replace BK645 := ak (blk_drew BK645.out)
    replace BK651 := ak (blk_drew BK651.out)
    replace HB := ak (below_drew1 HB.out)
    have p656 : 0 ≤ (x8_1 : Int) := oT (by (with_reducible assumption))
    have q656 : x8_1 < (l0_2.length : Int) := oT (by (with_reducible assumption))
    obtain ⟨ad656, e656, hx656_0, hx656_1, hx656_2⟩ := at_T113 HR0_2.out x8_1 p656 q656
    have hw656_2 := hx656_2
    have hw656_1 := hx656_1
    have hw656_0 := hx656_0
    cases e656
    replace hx656_0 := hcb HB.out hx656_0
    replace hx656_1 := hcb HB.out hx656_1
    replace hx656_2 := hcb HB.out hx656_2
    replace p656 := eq_true p656
    replace q656 := eq_true q656
    refine start_ (n := 9) (S := fun w' => w'.cell? ⟨gb643, 0, none⟩ = some (.int .i64 a0_0) ∧ w'.cell? ⟨gb643, 1, none⟩ = some (.slice A0_1 l0_1.length c0_1) ∧ w'.cell? ⟨gb643, 2, none⟩ = some (.slice (some ad656) l0_2.length c0_2) ∧ w'.cell? ⟨gb644, 0, none⟩ = some (.int .i64 a1_0) ∧ w'.cell? ⟨gb644, 1, none⟩ = some (.int .i64 a1_1) ∧ w'.cell? ⟨gb644, 2, none⟩ = some (.int .i64 a1_2) ∧ w'.cell? (ad656.add ((x8_1).toNat * 3)) = some (.int .i64 ((rd_T113 l0_2 x8_1).f0)) ∧ w'.cell? ⟨(ad656.add ((x8_1).toNat * 3)).block, (ad656.add ((x8_1).toNat * 3)).off + 1, none⟩ = some (.int .i64 ((rd_T113 l0_2 x8_1).f1)) ∧ w'.cell? ⟨(ad656.add ((x8_1).toNat * 3)).block, (ad656.add ((x8_1).toNat * 3)).off + 2, none⟩ = some (.int .i64 ((rd_T113 l0_2 x8_1).f2))) (ds := []) (ms 9 0) (by kernel_rfl) rfl (by kernel_rfl) ⟨(blk_cell BK643.out 0).trans rfl, (blk_cell BK643.out 1).trans rfl, (blk_cell BK643.out 2).trans rfl, (blk_cell BK644.out 0).trans rfl, (blk_cell BK644.out 1).trans rfl, (blk_cell BK644.out 2).trans rfl, ((HB.out.cell (World.block_lt_of_cell? w _ hw656_0)).trans hw656_0), ((HB.out.cell (World.block_lt_of_cell? w _ hw656_1)).trans hw656_1), ((HB.out.cell (World.block_lt_of_cell? w _ hw656_2)).trans hw656_2)⟩ (fun hHeld => ?_); refine with_tabW spec_LiveTell.tab11 spec_LiveTell.bits11 (fun HT_ HW_ => ?_)
    generalize w46.drew = w47 at HO_652001 HO655 BK643 BK644 BK645 BK651 HB hx656_0 hx656_1 hx656_2 hHeld ⊢
    refine pu 0 43 ?_ (ms 9 1) rfl rfl HT_ (by kernel_rfl) (fun _ _ _ h => h) (by rfl) ?_ ?_ ?_ ?_
    rotate_left
    ·intro w'
     go_simp
     with_reducible rfl
    rotate_left
    ·simp only [SX]
     rfl
    refine pu 2 45 ?_ (ms 9 5) rfl rfl HT_ (by kernel_rfl) (fun _ _ _ h => h) (by rfl) ?_ ?_ ?_ ?_
    rotate_left
    ·intro w'
     go_simp
     with_reducible rfl
    rotate_left
    ·simp only [SX]
     rfl
    refine pu 6 49 ?_ (ms 9 69) rfl rfl HT_ (by kernel_rfl) (fun _ _ _ h => h) (by rfl) ?_ ?_ ?_ ?_
    rotate_left
    ·intro w'
     go_simp
     with_reducible rfl
    rotate_left
    ·simp only [SX]
     rfl
    refine tk 1 44 ?_ (ms 9 71) rfl rfl HT_ HW_ (by kernel_rfl) (fun _ _ _ h => h) (by rfl) ?_ hHeld ?_ ?_ ?_
    rotate_left
    ·rintro w' ⟨s0, s1, s2, s3, s4, s5, s6, s7, s8⟩
     go_simp
     with_reducible rfl
    rotate_left
    ·simp only [SX]
     rfl
    refine pu 3 46 ?_ (ms 9 79) rfl rfl HT_ (by kernel_rfl) (fun _ _ _ h => h) (by rfl) ?_ ?_ ?_ ?_
    rotate_left
    ·intro w'
     go_simp
     with_reducible rfl
    rotate_left
    ·simp only [SX]
     rfl
    refine pu 4 47 ?_ (ms 9 95) rfl rfl HT_ (by kernel_rfl) (fun _ _ _ h => h) (by rfl) ?_ ?_ ?_ ?_
    rotate_left
    ·intro w'
     go_simp
     with_reducible rfl
    rotate_left
    ·simp only [SX]
     rfl
    refine tk 5 48 ?_ (ms 9 127) rfl rfl HT_ HW_ (by kernel_rfl) (fun _ _ _ h => h) (by rfl) ?_ hHeld ?_ ?_ ?_
    rotate_left
    ·rintro w' ⟨s0, s1, s2, s3, s4, s5, s6, s7, s8⟩
     go_simp
     with_reducible rfl
    rotate_left
    ·simp only [SX]
     rfl
    refine tk 7 50 ?_ (ms 9 255) rfl rfl HT_ HW_ (by kernel_rfl) (fun _ _ _ h => h) (by rfl) ?_ hHeld ?_ ?_ ?_
    rotate_left
    ·rintro w' ⟨s0, s1, s2, s3, s4, s5, s6, s7, s8⟩
     go_simp
     with_reducible rfl
    rotate_left
    ·simp only [SX]
     rfl
    refine pu 8 51 ?_ (ms 9 511) rfl rfl HT_ (by kernel_rfl) (fun _ _ _ h => h) (by rfl) ?_ ?_ ?_ ?_
    rotate_left
    ·intro w'
     go_simp
     with_reducible rfl
    rotate_left
    ·simp only [SX]
     rfl
    refine done_ (done_of HT_.out (by kernel_rfl)) ?_
    try go_wp2
    go_roundg kj21
    case measure => have := HK1.out; have := HJ21.out; omega
    case rel => exact ⟨(true), (wrap64 (x8_1 + 1)), (y653), (.slice Ao44 y653.length co44), (by rfl), (by rfl), H', ⟨by have := HK1.out; have := HJ21.out; omega⟩, ⟨rk HO_652001⟩, ⟨rk HO655⟩, ⟨bk BK643⟩, ⟨bk BK644⟩, ⟨bk BK645⟩, ⟨bk BK651⟩, ⟨bl4 HB GE643 GE644 GE645 GE651⟩⟩
   rw [if_neg c35] at H
   have c35b0 : (((rd_T113 l0_2 x8_1).f0) == a1_0) = false := beq_eq_false_iff_ne.mpr c35
   have c35b1 : (((rd_T113 l0_2 x8_1).f0) != a1_0) = true := bne_iff_ne.mpr c35
   by_cases c48 : y653.length < 5864062014805
   rotate_left
   ·rw [if_neg c48] at H
    exact absurd H (by simp)
   rw [if_pos c48] at H
   have LMc48 := ak c48
   clear c48
   obtain ⟨y658, hy658⟩ : ∃ y_ : List (S113), y_ = (y653 ++ [(⟨(rd_T113 l0_2 x8_1).f0, (rd_T113 l0_2 x8_1).f1, (rd_T113 l0_2 x8_1).f2⟩ : S113)]) := ⟨_, rfl⟩
   replace H : (spec_LiveTell.l0 kj21 true (wrap64 (x8_1 + 1)) a0_0 l0_1 l0_2 a1_0 a1_1 a1_2 t647 t648 y658) = some (r1, r2, r3, r4) := by (rw [hy658]; with_reducible exact H)
   have Ny658 := ak hy658
   clear hy658
   have H' := ak H
   clear H
   have hnb49 := NB651_643.out
   have hnc49 := NB643_651.out
   have hnb50 := NB651_644.out
   have hnc50 := NB644_651.out
   have hnb51 := NB651_645.out
   have hnc51 := NB645_651.out
   have hcz52_0 := bc wc BK651 0 (.int .i64 t647) rfl
   have hcz52_1 := bc wc BK651 1 (.slice Ao15 t648.length co15) rfl
   have hcz52_2 := bc wc BK651 2 (u652002) rfl
   have hfz52_0 := fz BK651 0
   have hfz52_1 := fz BK651 1
   have hfz52_2 := fz BK651 2
   have hnb53 := NB644_643.out
   have hnc53 := NB643_644.out
   have hnb54 := NB644_645.out
   have hnc54 := NB645_644.out
   have hcz55_0 := bc wc BK644 0 (.int .i64 a1_0) rfl
   have hcz55_1 := bc wc BK644 1 (.int .i64 a1_1) rfl
   have hcz55_2 := bc wc BK644 2 (.int .i64 a1_2) rfl
   have hfz55_0 := fz BK644 0
   have hfz55_1 := fz BK644 1
   have hfz55_2 := fz BK644 2
   try go_wp2_with (((with_reducible refine gate_builtin (b := .append) (xs := #[.tmp 38, .tmp 40]) rfl ?_); at_builtin; refine Kd.R_append k113 (w0 := w) w.heap.size rfl (.tmp 38) (.tmp 40) 42 113 (.agg #[(.int .i64 0), (.int .i64 0), (.int .i64 0)]) 24 rfl Try.underlying42 info113 rfl (by decide) (by omega) u652002 x652002_1 (⟨a1_0, a1_1, a1_2⟩ : S113) [.int .i64 a1_0, .int .i64 a1_1, .int .i64 a1_2] (fun k_ => k_ ≠ gb644) (fun _ => False) rfl rfl ?aP (fun _ hk => hk.elim) ?aF ?aO ?aB ?aS ?aL ?_; (case aP => exact k113_mkM _ _ _ (⟨a1_0, a1_1, a1_2⟩ : S113)); (case aB => exact (bl4 HB GE643 GE644 GE645 GE651)); (case aF => exact (fun k_ hk => Kd.freshB (bk BK644) k_ hk)); (case aO => exact (rk HO_652002)); (case aS => exact (below_size (bl4 HB GE643 GE644 GE645 GE651))); (case aL => have := LMc32.out; omega); intro v654 w56 ho hb hg hat; rw [← Ny653.out] at ho; have n0_ := ak (Kd.R_over' (rk HO_652001) (Kd.R_typed (rk HO_652002)) (by decide) hg); have n1_ := ak (blk_grown (bk BK643) hg (Kd.R_ne HO_652002.out BK643.out (by decide))); have n2_ := ak (blk_grown (bk BK644) hg (Kd.R_away HO_652002.out (fun _ hk => hk))); have n3_ := ak (blk_grown (bk BK645) hg (Kd.R_ne HO_652002.out BK645.out (by decide))); have n4_ := ak (blk_grown (bk BK651) hg (Kd.R_ne HO_652002.out BK651.out (by decide))); have n5_ := ak (hb); have n6_ := ak (ho); clear HO_652001; clear BK643; clear BK644; clear BK645; clear BK651; clear HB; clear HO_652002; have HO_652001 := n0_; have BK643 := n1_; have BK644 := n2_; have BK645 := n3_; have BK651 := n4_; have HB := n5_; have HO655 := n6_; clear n0_ n1_ n2_ n3_ n4_ n5_ n6_; clear ho hb hg hat; obtain ⟨Ao57, co57, eo57⟩ := Kd.R_slice HO655.out; subst eo57; have hcz58_0 := bc w56 BK651 0 (.int .i64 t647) rfl; have hcz58_1 := bc w56 BK651 1 (.slice Ao15 t648.length co15) rfl; have hcz58_2 := bc w56 BK651 2 (u652002) rfl; have hfz58_0 := fz BK651 0; have hfz58_1 := fz BK651 1; have hfz58_2 := fz BK651 2))
   have n0_ : Aside0 (Kd.R k41 41 (w56.setCell ⟨gb651, 2, none⟩ (.slice Ao57 y653.length co57)) w.heap.size (fun _ => True) (.slice Ao15 t648.length co15) t648) := ⟨by exact Kd.R_mono (Kd.R_far (p := ⟨gb651, 2, none⟩) (Kd.R_types HO_652001.out BK651.out (by decide)) (fun _ hk => hk.2) (.slice Ao57 y653.length co57)) (fun _ hk => trivial)⟩
   have n1_ : Aside0 (Kd.R k113 113 (w56.setCell ⟨gb651, 2, none⟩ (.slice Ao57 y653.length co57)) w.heap.size (fun k_ => k_ ≠ gb644) (.slice Ao57 y653.length co57) y653) := ⟨by exact Kd.R_mono (Kd.R_far (p := ⟨gb651, 2, none⟩) (Kd.R_types HO655.out BK651.out (by decide)) (fun _ hk => hk.2) (.slice Ao57 y653.length co57)) (fun _ hk => hk.1)⟩
   have n2_ : Aside0 ((w56.setCell ⟨gb651, 2, none⟩ (.slice Ao57 y653.length co57)).heap[gb643]? = some (.cells #[.int .i64 a0_0, .slice A0_1 l0_1.length c0_1, .slice A0_2 l0_2.length c0_2] 44 (0, 0))) := ⟨by refine blk_far ?_ NB643_651.out _; exact BK643.out⟩
   have n3_ : Aside0 ((w56.setCell ⟨gb651, 2, none⟩ (.slice Ao57 y653.length co57)).heap[gb644]? = some (.cells #[.int .i64 a1_0, .int .i64 a1_1, .int .i64 a1_2] 113 (0, 0))) := ⟨by refine blk_far ?_ NB644_651.out _; exact BK644.out⟩
   have n4_ : Aside0 ((w56.setCell ⟨gb651, 2, none⟩ (.slice Ao57 y653.length co57)).heap[gb645]? = some (.cells #[.int .i64 0, .slice none 0 0, .slice none 0 0] 44 (0, 0))) := ⟨by refine blk_far ?_ NB645_651.out _; exact BK645.out⟩
   have n5_ : Aside0 ((w56.setCell ⟨gb651, 2, none⟩ (.slice Ao57 y653.length co57)).heap[gb651]? = some (.cells #[.int .i64 t647, .slice Ao15 t648.length co15, .slice Ao57 y653.length co57] 44 (0, 0))) := ⟨by refine blk_put (cs := #[.int .i64 t647, .slice Ao15 t648.length co15, u652002]) ?_ 2 _ rfl; exact BK651.out⟩
   have n6_ : Aside0 (Below w.heap.size w (w56.setCell ⟨gb651, 2, none⟩ (.slice Ao57 y653.length co57))) := ⟨bl4 HB GE643 GE644 GE645 GE651⟩
   (try clear HO_652001)
   (try clear HO655)
   (try clear BK643)
   (try clear BK644)
   (try clear BK645)
   (try clear BK651)
   (try clear HB)
   generalize (w56.setCell ⟨gb651, 2, none⟩ (.slice Ao57 y653.length co57)) = w59 at n0_ n1_ n2_ n3_ n4_ n5_ n6_ ⊢
   have HO_652001 := n0_
   have HO655 := n1_
   have BK643 := n2_
   have BK644 := n3_
   have BK645 := n4_
   have BK651 := n5_
   have HB := n6_
   clear n0_ n1_ n2_ n3_ n4_ n5_ n6_
   replace HO_652001 := ak (Kd.R_drew HO_652001.out)
   replace HO655 := ak (Kd.R_drew HO655.out)
   replace BK643 := ak (blk_drew BK643.out)
   replace BK644 := ak (blk_drew BK644.out)
   replace BK645 := ak (blk_drew BK645.out)
   replace BK651 := ak (blk_drew BK651.out)
   replace HB := ak (below_drew1 HB.out)
   have p656 : 0 ≤ (x8_1 : Int) := oT (by (with_reducible assumption))
   have q656 : x8_1 < (l0_2.length : Int) := oT (by (with_reducible assumption))
   obtain ⟨ad656, e656, hx656_0, hx656_1, hx656_2⟩ := at_T113 HR0_2.out x8_1 p656 q656
   have hw656_2 := hx656_2
   have hw656_1 := hx656_1
   have hw656_0 := hx656_0
   cases e656
   replace hx656_0 := hcb HB.out hx656_0
   replace hx656_1 := hcb HB.out hx656_1
   replace hx656_2 := hcb HB.out hx656_2
   replace p656 := eq_true p656
   replace q656 := eq_true q656
   refine start_ (n := 9) (S := fun w' => w'.cell? ⟨gb643, 0, none⟩ = some (.int .i64 a0_0) ∧ w'.cell? ⟨gb643, 1, none⟩ = some (.slice A0_1 l0_1.length c0_1) ∧ w'.cell? ⟨gb643, 2, none⟩ = some (.slice (some ad656) l0_2.length c0_2) ∧ w'.cell? ⟨gb644, 0, none⟩ = some (.int .i64 a1_0) ∧ w'.cell? ⟨gb644, 1, none⟩ = some (.int .i64 a1_1) ∧ w'.cell? ⟨gb644, 2, none⟩ = some (.int .i64 a1_2) ∧ w'.cell? (ad656.add ((x8_1).toNat * 3)) = some (.int .i64 ((rd_T113 l0_2 x8_1).f0)) ∧ w'.cell? ⟨(ad656.add ((x8_1).toNat * 3)).block, (ad656.add ((x8_1).toNat * 3)).off + 1, none⟩ = some (.int .i64 ((rd_T113 l0_2 x8_1).f1)) ∧ w'.cell? ⟨(ad656.add ((x8_1).toNat * 3)).block, (ad656.add ((x8_1).toNat * 3)).off + 2, none⟩ = some (.int .i64 ((rd_T113 l0_2 x8_1).f2))) (ds := []) (ms 9 0) (by kernel_rfl) rfl (by kernel_rfl) ⟨(blk_cell BK643.out 0).trans rfl, (blk_cell BK643.out 1).trans rfl, (blk_cell BK643.out 2).trans rfl, (blk_cell BK644.out 0).trans rfl, (blk_cell BK644.out 1).trans rfl, (blk_cell BK644.out 2).trans rfl, ((HB.out.cell (World.block_lt_of_cell? w _ hw656_0)).trans hw656_0), ((HB.out.cell (World.block_lt_of_cell? w _ hw656_1)).trans hw656_1), ((HB.out.cell (World.block_lt_of_cell? w _ hw656_2)).trans hw656_2)⟩ (fun hHeld => ?_); refine with_tabW spec_LiveTell.tab11 spec_LiveTell.bits11 (fun HT_ HW_ => ?_)
   generalize w59.drew = w60 at HO_652001 HO655 BK643 BK644 BK645 BK651 HB hx656_0 hx656_1 hx656_2 hHeld ⊢
   refine pu 0 43 ?_ (ms 9 1) rfl rfl HT_ (by kernel_rfl) (fun _ _ _ h => h) (by rfl) ?_ ?_ ?_ ?_
   rotate_left
   ·intro w'
    go_simp
    with_reducible rfl
   rotate_left
   ·simp only [SX]
    rfl
   refine pu 2 45 ?_ (ms 9 5) rfl rfl HT_ (by kernel_rfl) (fun _ _ _ h => h) (by rfl) ?_ ?_ ?_ ?_
   rotate_left
   ·intro w'
    go_simp
    with_reducible rfl
   rotate_left
   ·simp only [SX]
    rfl
   refine pu 6 49 ?_ (ms 9 69) rfl rfl HT_ (by kernel_rfl) (fun _ _ _ h => h) (by rfl) ?_ ?_ ?_ ?_
   rotate_left
   ·intro w'
    go_simp
    with_reducible rfl
   rotate_left
   ·simp only [SX]
    rfl
   refine tk 1 44 ?_ (ms 9 71) rfl rfl HT_ HW_ (by kernel_rfl) (fun _ _ _ h => h) (by rfl) ?_ hHeld ?_ ?_ ?_
   rotate_left
   ·rintro w' ⟨s0, s1, s2, s3, s4, s5, s6, s7, s8⟩
    go_simp
    with_reducible rfl
   rotate_left
   ·simp only [SX]
    rfl
   refine pu 3 46 ?_ (ms 9 79) rfl rfl HT_ (by kernel_rfl) (fun _ _ _ h => h) (by rfl) ?_ ?_ ?_ ?_
   rotate_left
   ·intro w'
    go_simp
    with_reducible rfl
   rotate_left
   ·simp only [SX]
    rfl
   refine pu 4 47 ?_ (ms 9 95) rfl rfl HT_ (by kernel_rfl) (fun _ _ _ h => h) (by rfl) ?_ ?_ ?_ ?_
   rotate_left
   ·intro w'
    go_simp
    with_reducible rfl
   rotate_left
   ·simp only [SX]
    rfl
   refine tk 5 48 ?_ (ms 9 127) rfl rfl HT_ HW_ (by kernel_rfl) (fun _ _ _ h => h) (by rfl) ?_ hHeld ?_ ?_ ?_
   rotate_left
   ·rintro w' ⟨s0, s1, s2, s3, s4, s5, s6, s7, s8⟩
    go_simp
    with_reducible rfl
   rotate_left
   ·simp only [SX]
    rfl
   refine tk 7 50 ?_ (ms 9 255) rfl rfl HT_ HW_ (by kernel_rfl) (fun _ _ _ h => h) (by rfl) ?_ hHeld ?_ ?_ ?_
   rotate_left
   ·rintro w' ⟨s0, s1, s2, s3, s4, s5, s6, s7, s8⟩
    go_simp
    with_reducible rfl
   rotate_left
   ·simp only [SX]
    rfl
   refine pu 8 51 ?_ (ms 9 511) rfl rfl HT_ (by kernel_rfl) (fun _ _ _ h => h) (by rfl) ?_ ?_ ?_ ?_
   rotate_left
   ·intro w'
    go_simp
    with_reducible rfl
   rotate_left
   ·simp only [SX]
    rfl
   refine done_ (done_of HT_.out (by kernel_rfl)) ?_
   try go_wp2
   replace HO_652001 := ak (Kd.R_drew HO_652001.out)
   replace HO655 := ak (Kd.R_drew HO655.out)
   replace BK643 := ak (blk_drew BK643.out)
   replace BK644 := ak (blk_drew BK644.out)
   replace BK645 := ak (blk_drew BK645.out)
   replace BK651 := ak (blk_drew BK651.out)
   replace HB := ak (below_drew1 HB.out)
   have p657 : 0 ≤ (x8_1 : Int) := oT (by (with_reducible assumption))
   have q657 : x8_1 < (l0_2.length : Int) := oT (by (with_reducible assumption))
   obtain ⟨ad657, e657, hx657_0, hx657_1, hx657_2⟩ := at_T113 HR0_2.out x8_1 p657 q657
   have hw657_2 := hx657_2
   have hw657_1 := hx657_1
   have hw657_0 := hx657_0
   obtain rfl : ad656 = ad657 := (by injection e657)
   replace hx657_0 := hcb HB.out hx657_0
   replace hx657_1 := hcb HB.out hx657_1
   replace hx657_2 := hcb HB.out hx657_2
   replace p657 := eq_true p657
   replace q657 := eq_true q657
   refine start_ (n := 11) (S := fun w' => w'.cell? ⟨gb651, 0, none⟩ = some (.int .i64 t647) ∧ w'.cell? ⟨gb651, 1, none⟩ = some (.slice Ao15 t648.length co15) ∧ w'.cell? ⟨gb651, 2, none⟩ = some (.slice Ao57 y653.length co57) ∧ w'.cell? ⟨gb643, 0, none⟩ = some (.int .i64 a0_0) ∧ w'.cell? ⟨gb643, 1, none⟩ = some (.slice A0_1 l0_1.length c0_1) ∧ w'.cell? ⟨gb643, 2, none⟩ = some (.slice (some ad656) l0_2.length c0_2) ∧ w'.cell? (ad656.add ((x8_1).toNat * 3)) = some (.int .i64 ((rd_T113 l0_2 x8_1).f0)) ∧ w'.cell? ⟨(ad656.add ((x8_1).toNat * 3)).block, (ad656.add ((x8_1).toNat * 3)).off + 1, none⟩ = some (.int .i64 ((rd_T113 l0_2 x8_1).f1)) ∧ w'.cell? ⟨(ad656.add ((x8_1).toNat * 3)).block, (ad656.add ((x8_1).toNat * 3)).off + 2, none⟩ = some (.int .i64 ((rd_T113 l0_2 x8_1).f2))) (ds := [10]) (ms 11 0) (by kernel_rfl) rfl (by kernel_rfl) ⟨(blk_cell BK651.out 0).trans rfl, (blk_cell BK651.out 1).trans rfl, (blk_cell BK651.out 2).trans rfl, (blk_cell BK643.out 0).trans rfl, (blk_cell BK643.out 1).trans rfl, (blk_cell BK643.out 2).trans rfl, ((HB.out.cell (World.block_lt_of_cell? w _ hw657_0)).trans hw657_0), ((HB.out.cell (World.block_lt_of_cell? w _ hw657_1)).trans hw657_1), ((HB.out.cell (World.block_lt_of_cell? w _ hw657_2)).trans hw657_2)⟩ (fun hHeld => ?_); refine with_tabW spec_LiveTell.tab12 spec_LiveTell.bits12 (fun HT_ HW_ => ?_)
   generalize w60.drew = w61 at HO_652001 HO655 BK643 BK644 BK645 BK651 HB hx657_0 hx657_1 hx657_2 hHeld ⊢
   refine pu 0 52 ?_ (ms 11 1) rfl rfl HT_ (by kernel_rfl) (fun _ _ _ h => h) (by rfl) ?_ ?_ ?_ ?_
   rotate_left
   ·intro w'
    go_simp
    with_reducible rfl
   rotate_left
   ·simp only [SX]
    rfl
   refine pu 2 54 ?_ (ms 11 5) rfl rfl HT_ (by kernel_rfl) (fun _ _ _ h => h) (by rfl) ?_ ?_ ?_ ?_
   rotate_left
   ·intro w'
    go_simp
    with_reducible rfl
   rotate_left
   ·simp only [SX]
    rfl
   refine pu 4 56 ?_ (ms 11 21) rfl rfl HT_ (by kernel_rfl) (fun _ _ _ h => h) (by rfl) ?_ ?_ ?_ ?_
   rotate_left
   ·intro w'
    go_simp
    with_reducible rfl
   rotate_left
   ·simp only [SX]
    rfl
   refine tk 1 53 ?_ (ms 11 23) rfl rfl HT_ HW_ (by kernel_rfl) (fun _ _ _ h => h) (by rfl) ?_ hHeld ?_ ?_ ?_
   rotate_left
   ·rintro w' ⟨s0, s1, s2, s3, s4, s5, s6, s7, s8⟩
    go_simp
    with_reducible rfl
   rotate_left
   ·simp only [SX]
    rfl
   refine tk 3 55 ?_ (ms 11 31) rfl rfl HT_ HW_ (by kernel_rfl) (fun _ _ _ h => h) (by rfl) ?_ hHeld ?_ ?_ ?_
   rotate_left
   ·rintro w' ⟨s0, s1, s2, s3, s4, s5, s6, s7, s8⟩
    go_simp
    with_reducible rfl
   rotate_left
   ·simp only [SX]
    rfl
   refine pu 5 57 ?_ (ms 11 63) rfl rfl HT_ (by kernel_rfl) (fun _ _ _ h => h) (by rfl) ?_ ?_ ?_ ?_
   rotate_left
   ·intro w'
    go_simp
    with_reducible rfl
   rotate_left
   ·simp only [SX]
    rfl
   refine tk 6 58 ?_ (ms 11 127) rfl rfl HT_ HW_ (by kernel_rfl) (fun _ _ _ h => h) (by rfl) ?_ hHeld ?_ ?_ ?_
   rotate_left
   ·rintro w' ⟨s0, s1, s2, s3, s4, s5, s6, s7, s8⟩
    go_simp
    with_reducible rfl
   rotate_left
   ·simp only [SX]
    rfl
   refine one_ (i := 7) (N := some 59) (ms 11 255) rfl rfl (one_of HT_.out (by kernel_rfl)) (by decide) (fun K hK => ?_)
   refine value_ (w1 := ?_) (v := ?_) (by rfl) rfl ?_ ?_
   rotate_left 2
   ·go_simp
    constructor
    rotate_left
    ·rfl
    rfl
   refine hK.out _ _ ⟨(blk_cell (blk_alloc BK651.out _) 0).trans rfl, (blk_cell (blk_alloc BK651.out _) 1).trans rfl, (blk_cell (blk_alloc BK651.out _) 2).trans rfl, (blk_cell (blk_alloc BK643.out _) 0).trans rfl, (blk_cell (blk_alloc BK643.out _) 1).trans rfl, (blk_cell (blk_alloc BK643.out _) 2).trans rfl, (World.cell?_alloc_lt _ _ _ (World.block_lt_of_cell? _ _ (((HB.out.cell (World.block_lt_of_cell? w _ hw657_0)).trans hw657_0)))).trans (((HB.out.cell (World.block_lt_of_cell? w _ hw657_0)).trans hw657_0)), (World.cell?_alloc_lt _ _ _ (World.block_lt_of_cell? _ _ (((HB.out.cell (World.block_lt_of_cell? w _ hw657_1)).trans hw657_1)))).trans (((HB.out.cell (World.block_lt_of_cell? w _ hw657_1)).trans hw657_1)), (World.cell?_alloc_lt _ _ _ (World.block_lt_of_cell? _ _ (((HB.out.cell (World.block_lt_of_cell? w _ hw657_2)).trans hw657_2)))).trans (((HB.out.cell (World.block_lt_of_cell? w _ hw657_2)).trans hw657_2))⟩ (fun hHeld => ?_)
   clear hK K
   refine norm_ (a' := ?_) ?_ ?_
   rotate_left
   ·show Act.put _ (some 59) _ = _
    simp only [SX]
    rfl
   refine one_ (i := 8) (N := some 60) (ms 11 511) rfl rfl (one_of HT_.out (by kernel_rfl)) (by decide) (fun K hK => ?_)
   refine Kd.R_append_step k113 (w0 := w) w.heap.size (by rfl) (.tmp 53) (.tmp 59) 42 113 (.agg #[(.int .i64 0), (.int .i64 0), (.int .i64 0)]) 24 rfl Try.underlying42 info113 rfl (by decide) (by omega) (.slice Ao57 y653.length co57) y653 (⟨(rd_T113 l0_2 x8_1).f0, (rd_T113 l0_2 x8_1).f1, (rd_T113 l0_2 x8_1).f2⟩ : S113) [.int .i64 ((rd_T113 l0_2 x8_1).f0), .int .i64 ((rd_T113 l0_2 x8_1).f1), .int .i64 ((rd_T113 l0_2 x8_1).f2)] (fun k_ => k_ ≠ gb644) (fun _ => False) rfl rfl ?aP (fun _ hk => hk.elim) ?aF ?aO ?aB ?aS ?aL ?_
   (case aP => exact k113_mkM _ _ _ (⟨(rd_T113 l0_2 x8_1).f0, (rd_T113 l0_2 x8_1).f1, (rd_T113 l0_2 x8_1).f2⟩ : S113))
   (case aB => exact (bl4 HB GE643 GE644 GE645 GE651))
   (case aF => exact (fun k_ hk => Kd.freshB (bk BK644) k_ hk))
   (case aO => exact (rk HO655))
   (case aS => exact (below_size (bl4 HB GE643 GE644 GE645 GE651)))
   (case aL => have := LMc48.out; omega)
   intro v659 w62 ho hb hg hat
   rw [← Ny658.out] at ho
   have n0_ := ak (Kd.R_over' (rk HO_652001) (Kd.R_typed (rk HO655)) (by decide) hg)
   have n1_ := ak (blk_grown (bk BK643) hg (Kd.R_ne HO655.out BK643.out (by decide)))
   have n2_ := ak (blk_grown (bk BK644) hg (Kd.R_away HO655.out (fun _ hk => hk)))
   have n3_ := ak (blk_grown (bk BK645) hg (Kd.R_ne HO655.out BK645.out (by decide)))
   have n4_ := ak (blk_grown (bk BK651) hg (Kd.R_ne HO655.out BK651.out (by decide)))
   have n5_ := ak (hb)
   have n6_ := ak (ho)
   clear HO_652001
   clear BK643
   clear BK644
   clear BK645
   clear BK651
   clear HB
   clear HO655
   have HO_652001 := n0_
   have BK643 := n1_
   have BK644 := n2_
   have BK645 := n3_
   have BK651 := n4_
   have HB := n5_
   have HO660 := n6_
   clear n0_ n1_ n2_ n3_ n4_ n5_ n6_
   clear ho hb hg hat
   obtain ⟨Ao63, co63, eo63⟩ := Kd.R_slice HO660.out
   (subst eo63)
   refine hK.out _ _ ⟨(blk_cell BK651.out 0).trans rfl, (blk_cell BK651.out 1).trans rfl, (blk_cell BK651.out 2).trans rfl, (blk_cell BK643.out 0).trans rfl, (blk_cell BK643.out 1).trans rfl, (blk_cell BK643.out 2).trans rfl, ((HB.out.cell (World.block_lt_of_cell? w _ hw657_0)).trans hw657_0), ((HB.out.cell (World.block_lt_of_cell? w _ hw657_1)).trans hw657_1), ((HB.out.cell (World.block_lt_of_cell? w _ hw657_2)).trans hw657_2)⟩ (fun hHeld => ?_)
   clear hK K
   refine norm_ (a' := ?_) ?_ ?_
   rotate_left
   ·show Act.put _ (some 60) _ = _
    simp only [SX]
    rfl
   refine pu 9 61 ?_ (ms 11 1023) rfl rfl HT_ (by kernel_rfl) (fun _ _ _ h => h) (by rfl) ?_ ?_ ?_ ?_
   rotate_left
   ·intro w'
    go_simp
    with_reducible rfl
   rotate_left
   ·simp only [SX]
    rfl
   refine last_ (i := 10) (N := none) (ms 11 2047) rfl rfl (one_of HT_.out (by kernel_rfl)) (by decide) (fun K hK => ?_)
   have hs64 : w62.cell? ⟨gb651, 2, none⟩ = some (.slice Ao57 y653.length co57) := (blk_cell BK651.out 2).trans rfl
   have hfs64 := blk_frozen BK651.out 2
   have hns64_0 := NB643_651.out
   have hns64_1 := NB644_651.out
   have hns64_2 := NB645_651.out
   have hms64_0 := NB651_643.out
   have hms64_1 := NB651_644.out
   have hms64_2 := NB651_645.out
   refine skip_ (w1 := ?_) (by rfl) rfl ?_ ?_
   rotate_left
   ·go_simp
    rfl
   refine hK.out _ _ ?_
   clear hK K
   refine done_ (done_of HT_.out (by kernel_rfl)) ?_
   try go_wp2
   go_roundg kj21
   case measure => have := HK1.out; have := HJ21.out; omega
   case rel => exact ⟨(true), (wrap64 (x8_1 + 1)), (y658), (.slice Ao63 y658.length co63), (by rfl), (by rfl), H', ⟨by have := HK1.out; have := HJ21.out; omega⟩, ⟨by exact Kd.R_mono (Kd.R_far (p := ⟨gb651, 2, none⟩) (Kd.R_types HO_652001.out BK651.out (by decide)) (fun _ hk => hk.2) (.slice Ao63 y658.length co63)) (fun _ hk => trivial)⟩, ⟨by exact Kd.R_mono (Kd.R_far (p := ⟨gb651, 2, none⟩) (Kd.R_types HO660.out BK651.out (by decide)) (fun _ hk => hk.2) (.slice Ao63 y658.length co63)) (fun _ hk => hk.1)⟩, ⟨by refine blk_far ?_ NB643_651.out _; exact BK643.out⟩, ⟨by refine blk_far ?_ NB644_651.out _; exact BK644.out⟩, ⟨by refine blk_far ?_ NB645_651.out _; exact BK645.out⟩, ⟨by refine blk_put (cs := #[.int .i64 t647, .slice Ao15 t648.length co15, .slice Ao57 y653.length co57]) ?_ 2 _ rfl; exact BK651.out⟩, ⟨bl4 HB GE643 GE644 GE645 GE651⟩⟩

end Go.Proofs.Ytgickejeakmenaa.F
