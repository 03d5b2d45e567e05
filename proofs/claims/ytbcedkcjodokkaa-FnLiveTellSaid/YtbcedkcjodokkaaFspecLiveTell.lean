-- Printed by wip/px/px.py of this claim's repository (the kit's printer, extended there). Lean checks it.
import Derived.Test.YtbcedkcjodokkaaFKinds
import Derived.Test.YtbcedkcjodokkaaFspecl16Ok
import Derived.Test.YtbcedkcjodokkaaFspecl1Copy
import Derived.Test.YtbcedkcjodokkaaFspecl16Copy
namespace Go.Proofs.Ytbcedkcjodokkaa.F
open Go.RowKit Go.Proofs.YtbcedkcjodokkaaW.PrintWords Go.Proofs.YtbcedkcjodokkaaW.PrintLast Go.Proofs.YtbcedkcjodokkaaW.PrintMore
attribute [local go_sem] max2_int min2_int max_two min_two max_three min_three max_four min_four   -- for this text's walks alone
set_option linter.unusedVariables false
set_option linter.unusedSimpArgs false

/-! ### spec_LiveTell: function 8 -/
mutual
def spec_LiveTell.l0 : Nat → Bool → Int → Int → List (S65) → List (S30) → Int → Int → Int → Int → List (S65) → List (S30) → Option (Int × (List (S65)) × (List (S30)) × Bool)
 | 0, _, _, _, _, _, _, _, _, _, _, _ => none
 | k + 1, x7, x8, x142000, x142001, x142002, x143000, x143001, x143002, x150000, x150001, x150002 => if x8 < (x142002.length : Int) then (if x7 = true then (spec_LiveTell.j1 k x7 x8 false x142000 x142001 x142002 x143000 x143001 x143002 x150000 x150001 x150002) else (if 0 ≤ x8 then (spec_LiveTell.j1 k x7 x8 (decide (((rd_T30 x142002 x8).f0) ≥ x143000)) x142000 x142001 x142002 x143000 x143001 x143002 x150000 x150001 x150002) else (none))) else (if x7 = true then (spec_LiveTell.j2 k x142000 x142001 x142002 x150000 x150001 x150002) else (if x150002.length < 5864062014805 then (spec_LiveTell.j2 k x142000 x142001 x142002 x150000 x150001 (x150002 ++ [(⟨x143000, x143001, x143002⟩ : S30)])) else (none)))
def spec_LiveTell.j1 : Nat → Bool → Int → Bool → Int → List (S65) → List (S30) → Int → Int → Int → Int → List (S65) → List (S30) → Option (Int × (List (S65)) × (List (S30)) × Bool)
 | 0, _, _, _, _, _, _, _, _, _, _, _, _ => none
 | k + 1, x7, x8, x36, x142000, x142001, x142002, x143000, x143001, x143002, x150000, x150001, x150002 => if x36 = true then (if x150002.length < 5864062014805 then ((some (x150002 ++ [(⟨x143000, x143001, x143002⟩ : S30)] : List (S30))).bind fun y151 => (if 0 ≤ x8 then (if x8 < (x142002.length : Int) then (if ((rd_T30 x142002 x8).f0) = x143000 then (spec_LiveTell.l0 k true (wrap64 (x8 + 1)) x142000 x142001 x142002 x143000 x143001 x143002 x150000 x150001 y151) else (if y151.length < 5864062014805 then (spec_LiveTell.l0 k true (wrap64 (x8 + 1)) x142000 x142001 x142002 x143000 x143001 x143002 x150000 x150001 (y151 ++ [(⟨(rd_T30 x142002 x8).f0, (rd_T30 x142002 x8).f1, (rd_T30 x142002 x8).f2⟩ : S30)])) else (none))) else (none)) else (none))) else (none)) else (if 0 ≤ x8 then (if x8 < (x142002.length : Int) then (if ((rd_T30 x142002 x8).f0) = x143000 then (spec_LiveTell.l0 k x7 (wrap64 (x8 + 1)) x142000 x142001 x142002 x143000 x143001 x143002 x150000 x150001 x150002) else (if x150002.length < 5864062014805 then (spec_LiveTell.l0 k x7 (wrap64 (x8 + 1)) x142000 x142001 x142002 x143000 x143001 x143002 x150000 x150001 (x150002 ++ [(⟨(rd_T30 x142002 x8).f0, (rd_T30 x142002 x8).f1, (rd_T30 x142002 x8).f2⟩ : S30)])) else (none))) else (none)) else (none))
def spec_LiveTell.j2 : Nat → Int → List (S65) → List (S30) → Int → List (S65) → List (S30) → Option (Int × (List (S65)) × (List (S30)) × Bool)
 | 0, _, _, _, _, _, _ => none
 | k + 1, x142000, x142001, x142002, x150000, x150001, x150002 => (spec_l16Ok.f k x150000 x150001 x150002).bind fun t167 => (if t167 = true then (some (x150000, x150001, x150002, true)) else ((spec_l16Copy.f x142000 x142001 x142002).bind fun bt168 => (some (bt168.1, bt168.2.1, bt168.2.2, false))))
end
def spec_LiveTell.f (k : Nat) (a0_0 : Int) (l0_1 : List (S65)) (l0_2 : List (S30)) (a1_0 : Int) (a1_1 : Int) (a1_2 : Int) : Option (Int × (List (S65)) × (List (S30)) × Bool) := (spec_l16Ok.f k a0_0 l0_1 l0_2).bind fun t144 => (if t144 = true then ((spec_l1Copy.f a0_0 l0_1).bind fun bt145 => (spec_LiveTell.l0 k false 0 a0_0 l0_1 l0_2 a1_0 a1_1 a1_2 bt145.1 bt145.2 ([] : List (S30)))) else (some (0, ([] : List (S65)), ([] : List (S30)), false)))
theorem spec_LiveTell.mono_l : ∀ k, (∀ y0 y1 y2 y3 y4 y5 y6 y7 y8 y9 y10, LeO (spec_LiveTell.l0 k y0 y1 y2 y3 y4 y5 y6 y7 y8 y9 y10) (spec_LiveTell.l0 (k + 1) y0 y1 y2 y3 y4 y5 y6 y7 y8 y9 y10)) ∧ (∀ y0 y1 y2 y3 y4 y5 y6 y7 y8 y9 y10 y11, LeO (spec_LiveTell.j1 k y0 y1 y2 y3 y4 y5 y6 y7 y8 y9 y10 y11) (spec_LiveTell.j1 (k + 1) y0 y1 y2 y3 y4 y5 y6 y7 y8 y9 y10 y11)) ∧ (∀ y0 y1 y2 y3 y4 y5, LeO (spec_LiveTell.j2 k y0 y1 y2 y3 y4 y5) (spec_LiveTell.j2 (k + 1) y0 y1 y2 y3 y4 y5))
 | 0 => ⟨fun _ _ _ _ _ _ _ _ _ _ _ r h => by simp [spec_LiveTell.l0] at h, fun _ _ _ _ _ _ _ _ _ _ _ _ r h => by simp [spec_LiveTell.j1] at h, fun _ _ _ _ _ _ r h => by simp [spec_LiveTell.j2] at h⟩
 | k + 1 => by
  obtain ⟨ih0, ih1, ih2⟩ := spec_LiveTell.mono_l k
  refine ⟨?_, ?_, ?_⟩
  ·intro y0 y1 y2 y3 y4 y5 y6 y7 y8 y9 y10
   unfold spec_LiveTell.l0
   repeat' first | (with_reducible exact ih1 _ _ _ _ _ _ _ _ _ _ _ _) | (with_reducible exact ih2 _ _ _ _ _ _) | (with_reducible exact LeO.refl _) | (with_reducible refine LeO.ite ?_ ?_)
  ·intro y0 y1 y2 y3 y4 y5 y6 y7 y8 y9 y10 y11
   unfold spec_LiveTell.j1
   repeat' first | (with_reducible exact ih0 _ _ _ _ _ _ _ _ _ _ _) | (with_reducible exact LeO.refl _) | (with_reducible refine LeO.ite ?_ ?_) | (with_reducible refine LeO.bind ?_ (fun _ => ?_))
  ·intro y0 y1 y2 y3 y4 y5
   unfold spec_LiveTell.j2
   repeat' first | (with_reducible exact spec_l16Ok.mono _ _ _ _) | (with_reducible exact LeO.refl _) | (with_reducible refine LeO.bind ?_ (fun _ => ?_))
theorem spec_LiveTell.mono : ∀ a0 a1 a2 a3 a4 a5 k, LeO (spec_LiveTell.f k a0 a1 a2 a3 a4 a5) (spec_LiveTell.f (k + 1) a0 a1 a2 a3 a4 a5) := by
 intro a0 a1 a2 a3 a4 a5 k
 obtain ⟨ih0, ih1, ih2⟩ := spec_LiveTell.mono_l k
 unfold spec_LiveTell.f
 repeat' first | (with_reducible exact ih0 _ _ _ _ _ _ _ _ _ _ _) | (with_reducible exact spec_l16Ok.mono _ _ _ _) | (with_reducible exact LeO.refl _) | (with_reducible refine LeO.ite ?_ ?_) | (with_reducible refine LeO.bind ?_ (fun _ => ?_))
def spec_LiveTell.T8 : Bool × List (List Nat × List Nat) := (true, [([], []), ([0], [0]), ([1], [1]), ([2], [2]), ([3, 2], [2, 3]), ([2], [2]), ([4, 5, 2], [2, 4, 5]), ([6, 2], [2, 6]), ([7, 2], [2, 7]), ([2], [2]), ([9, 2], [2, 9]), ([8, 10, 2], [2, 8, 10]), ([2, 11], [2, 11])])
def spec_LiveTell.B8 : List Nat := [0, 1, 3, 7, 15, 7, 63, 127, 255, 7, 519, 2047, 4095]
theorem spec_LiveTell.tab8 : rtab .any (opsOf Try.f8 8) = spec_LiveTell.T8 := by kernel_rfl
theorem spec_LiveTell.bits8 : waitsOk spec_LiveTell.T8.2 spec_LiveTell.B8 = true := by kernel_rfl
def spec_LiveTell.T11 : Bool × List (List Nat × List Nat) := (true, [([], []), ([0], [0]), ([], []), ([1, 2], [1, 2]), ([3], [3]), ([4], [4]), ([], []), ([6], [6]), ([5, 7], [5, 7])])
def spec_LiveTell.B11 : List Nat := [0, 1, 0, 7, 15, 31, 0, 64, 255]
theorem spec_LiveTell.tab11 : rtab .any (opsOf Try.f8 11) = spec_LiveTell.T11 := by kernel_rfl
theorem spec_LiveTell.bits11 : waitsOk spec_LiveTell.T11.2 spec_LiveTell.B11 = true := by kernel_rfl
def spec_LiveTell.T12 : Bool × List (List Nat × List Nat) := (true, [([], []), ([0], [0]), ([], []), ([2], [2]), ([], []), ([3, 4], [3, 4]), ([5], [5]), ([6], [6]), ([1, 7], [1, 7]), ([0, 1, 2, 3, 4, 5, 6, 7, 8], []), ([9, 8, 8, 0, 1, 2, 3, 4, 5, 6, 7, 8], [8, 9])])
def spec_LiveTell.B12 : List Nat := [0, 1, 0, 4, 0, 28, 60, 124, 255, 511, 1023]
theorem spec_LiveTell.tab12 : rtab .any (opsOf Try.f8 12) = spec_LiveTell.T12 := by kernel_rfl
theorem spec_LiveTell.bits12 : waitsOk spec_LiveTell.T12.2 spec_LiveTell.B12 = true := by kernel_rfl
set_option maxHeartbeats 8000000 in
set_option maxRecDepth 100000 in
theorem spec_LiveTell.calls (k : Nat) (a0_0 : Int) (A0_1 : Option Addr) (c0_1 : Nat) (l0_1 : List (S65)) (A0_2 : Option Addr) (c0_2 : Nat) (l0_2 : List (S30)) (a1_0 : Int) (a1_1 : Int) (a1_2 : Int) (r1 : Int) (r2 : List (S65)) (r3 : List (S30)) (r4 : Bool) (w : World) (hr0_1 : Kd.C k65 w A0_1 l0_1.length l0_1) (hc0_1 : l0_1.length ≤ c0_1) (hr0_2 : Kd.C k30 w A0_2 l0_2.length l0_2) (hc0_2 : l0_2.length ≤ c0_2) (h : spec_LiveTell.f k a0_0 l0_1 l0_2 a1_0 a1_1 a1_2 = some (r1, r2, r3, r4)) :
  Calls Try.prog 8 #[.agg #[.int .i64 a0_0, .slice A0_1 l0_1.length c0_1, .slice A0_2 l0_2.length c0_2], .agg #[.int .i64 a1_0, .int .i64 a1_1, .int .i64 a1_2]] w fun e w' => ∃ v1_ v2_ : Value, e = .returned (.tuple #[.agg #[.int .i64 r1, v1_, v2_], .bool r4]) ∧ Kd.R k65 65 w' w.heap.size (fun _ => True) v1_ r2 ∧ Kd.R k30 30 w' w.heap.size (fun _ => True) v2_ r3 ∧ Below w.heap.size w w' := by
 have hu28 := Try.underlying28
 have hu30 := Try.underlying30
 have hu25 := Try.underlying25
 have HR0_1 := ak hr0_1
 have HC0_1 := ak hc0_1
 clear hr0_1 hc0_1
 have HR0_2 := ak hr0_2
 have HC0_2 := ak hc0_2
 clear hr0_2 hc0_2
 have HB := ak (Below.refl w.heap.size w)
 have H : ((spec_l16Ok.f k a0_0 l0_1 l0_2).bind fun t144 => (if t144 = true then ((spec_l1Copy.f a0_0 l0_1).bind fun bt145 => (spec_LiveTell.l0 k false 0 a0_0 l0_1 l0_2 a1_0 a1_1 a1_2 bt145.1 bt145.2 ([] : List (S30)))) else (some (0, ([] : List (S65)), ([] : List (S30)), false)))) = some (r1, r2, r3, r4) := h
 clear h
 replace H := Option.bind_eq_some_iff.mp H
 obtain ⟨t144, A30, H⟩ := H
 have A3 := ak A30
 clear A30
 by_cases c4 : t144 = true
 rotate_left
 ·replace c4 := Bool.eq_false_iff.mpr c4
  subst c4
  rw [if_neg (show ¬ (false = true) by decide)] at H
  simp only [Option.some.injEq, Prod.mk.injEq] at H
  obtain ⟨rfl, rfl, rfl, rfl⟩ := H
  go_enter Try.func8, Try.ntmps8
  go_wp2_with (first | ((with_reducible refine gate_dst (N := 2) rfl ?_); refine box_event ?hg (N := 2) ?hd (cs := #[.int .i64 a0_0, .slice A0_1 l0_1.length c0_1, .slice A0_2 l0_2.length c0_2]) (t := 28) ?hr ?_; (case hd => rfl); (case hg => rfl); (case hr => (go_simp; done)); intro gb141 hg w119 hbox hb; have BK141 := ak (hbox); have GW141 := ak ((by rw [hg]; exact (below_size (bl HB)) : w.heap.size ≤ gb141)); have GE141 := ak ((by rw [hg]; exact (below_size (bl HB)) : w.heap.size ≤ gb141)); replace HB := ak (below_step (bl HB) hb); clear hb hbox hg) | ((with_reducible refine gate_dst (N := 3) rfl ?_); refine box_event ?hg (N := 3) ?hd (cs := #[.int .i64 a1_0, .int .i64 a1_1, .int .i64 a1_2]) (t := 30) ?hr ?_; (case hd => rfl); (case hg => rfl); (case hr => (go_simp; done)); intro gb142 hg w120 hbox hb; have BK142 := ak (hbox); have GW142 := ak ((by rw [hg]; exact (below_size (bl1 HB GE141)) : w.heap.size ≤ gb142)); have GE142 := ak ((by rw [hg]; exact (below_size (bl1 HB GE141)) : w.heap.size ≤ gb142)); replace HB := ak (below_step (bl1 HB GE141) hb); have NB141_142 := ak ((by rw [hg]; exact Nat.ne_of_lt (blk_lt (bk BK141)) : gb141 ≠ gb142)); have NB142_141 := ak ((by rw [hg]; exact Nat.ne_of_gt (blk_lt (bk BK141)) : gb142 ≠ gb141)); replace BK141 := ak (blk_below (bk BK141) hb); clear hb hbox hg) | ((with_reducible refine gate_dst (N := 4) rfl ?_); refine box_event ?hg (N := 4) ?hd (cs := #[.int .i64 0, .slice none 0 0, .slice none 0 0]) (t := 28) ?hr ?_; (case hd => rfl); (case hg => rfl); (case hr => (go_simp; done)); intro gb143 hg w121 hbox hb; have BK143 := ak (hbox); have GW143 := ak ((by rw [hg]; exact (below_size (bl2 HB GE141 GE142)) : w.heap.size ≤ gb143)); have GE143 := ak ((by rw [hg]; exact (below_size (bl2 HB GE141 GE142)) : w.heap.size ≤ gb143)); replace HB := ak (below_step (bl2 HB GE141 GE142) hb); have NB141_143 := ak ((by rw [hg]; exact Nat.ne_of_lt (blk_lt (bk BK141)) : gb141 ≠ gb143)); have NB143_141 := ak ((by rw [hg]; exact Nat.ne_of_gt (blk_lt (bk BK141)) : gb143 ≠ gb141)); replace BK141 := ak (blk_below (bk BK141) hb); have NB142_143 := ak ((by rw [hg]; exact Nat.ne_of_lt (blk_lt (bk BK142)) : gb142 ≠ gb143)); have NB143_142 := ak ((by rw [hg]; exact Nat.ne_of_gt (blk_lt (bk BK142)) : gb143 ≠ gb142)); replace BK142 := ak (blk_below (bk BK142) hb); clear hb hbox hg; have hnb122 := NB141_142.out; have hnc122 := NB142_141.out; have hnb123 := NB141_143.out; have hnc123 := NB143_141.out; have hcz124_0 := bc w121 BK141 0 (.int .i64 a0_0) rfl; have hcz124_1 := bc w121 BK141 1 (.slice A0_1 l0_1.length c0_1) rfl; have hcz124_2 := bc w121 BK141 2 (.slice A0_2 l0_2.length c0_2) rfl; have hfz124_0 := fz BK141 0; have hfz124_1 := fz BK141 1; have hfz124_2 := fz BK141 2) | ((with_reducible refine gate_callee (f := 21) rfl ?_); refine goesL_ (some 10) rfl rfl Try.func21 (by kernel_rfl) rfl #[.agg #[.int .i64 a0_0, .slice A0_1 l0_1.length c0_1, .slice A0_2 l0_2.length c0_2]] rfl (by (try simp only [List.map_toArray, List.map_cons, List.map_nil]); rfl) ?_; (with_reducible refine (spec_l16Ok.calls k a0_0 _ _ l0_1 _ _ l0_2 false _ ?side1 ?side2 ?side3 ?side4 A3.out).mono ?_); (case side1 => repeat (exact (Kd.C_below HR0_1.out HB.out))); (case side2 => exact HC0_1.out); (case side3 => repeat (exact (Kd.C_below HR0_2.out HB.out))); (case side4 => exact HC0_2.out); rintro e w125 ⟨rfl, hb⟩; refine ⟨_, rfl, ?_⟩; replace BK141 := ak (blk_below (bk BK141) hb); replace BK142 := ak (blk_below (bk BK142) hb); replace BK143 := ak (blk_below (bk BK143) hb); replace HB := ak (below_step (bl3 HB GE141 GE142 GE143) hb); (try clear hb); (try clear hb2); (try clear hk); (try clear hi); have hnb126 := NB143_142.out; have hnc126 := NB142_143.out; have hcz127_0 := bc w125 BK143 0 (.int .i64 0) rfl; have hcz127_1 := bc w125 BK143 1 (.slice none 0 0) rfl; have hcz127_2 := bc w125 BK143 2 (.slice none 0 0) rfl; have hfz127_0 := fz BK143 0; have hfz127_1 := fz BK143 1; have hfz127_2 := fz BK143 2))
  refine bodyPost_ret (results_ct rfl _ _ gb143 28 #[.int .i64 0, .slice none 0 0, .slice none 0 0] (0, 0) _ rfl (by refine blk_put (cs := #[.int .i64 0, .slice none 0 0, .slice none 0 0]) ?_ 2 _ rfl; refine blk_put (cs := #[.int .i64 0, .slice none 0 0, .slice none 0 0]) ?_ 1 _ rfl; refine blk_put (cs := #[.int .i64 0, .slice none 0 0, .slice none 0 0]) ?_ 0 _ rfl; exact BK143.out) Try.underlying28 rfl (by kernel_rfl)) rfl ?_
  exact ⟨_, _, by rfl, by exact Kd.R_nil _ _ _ _ _, by exact Kd.R_nil _ _ _ _ _, bl3 HB GE141 GE142 GE143⟩
 subst c4
 rw [if_pos rfl] at H
 replace H := Option.bind_eq_some_iff.mp H
 obtain ⟨⟨t145, t146⟩, A50, H⟩ := H
 have A5 := ak A50
 clear A50
 have H' := ak H
 clear H
 go_enter Try.func8, Try.ntmps8
 go_wp2_with (first | ((with_reducible refine gate_dst (N := 2) rfl ?_); refine box_event ?hg (N := 2) ?hd (cs := #[.int .i64 a0_0, .slice A0_1 l0_1.length c0_1, .slice A0_2 l0_2.length c0_2]) (t := 28) ?hr ?_; (case hd => rfl); (case hg => rfl); (case hr => (go_simp; done)); intro gb141 hg w6 hbox hb; have BK141 := ak (hbox); have GW141 := ak ((by rw [hg]; exact (below_size (bl HB)) : w.heap.size ≤ gb141)); have GE141 := ak ((by rw [hg]; exact (below_size (bl HB)) : w.heap.size ≤ gb141)); replace HB := ak (below_step (bl HB) hb); clear hb hbox hg) | ((with_reducible refine gate_dst (N := 3) rfl ?_); refine box_event ?hg (N := 3) ?hd (cs := #[.int .i64 a1_0, .int .i64 a1_1, .int .i64 a1_2]) (t := 30) ?hr ?_; (case hd => rfl); (case hg => rfl); (case hr => (go_simp; done)); intro gb142 hg w7 hbox hb; have BK142 := ak (hbox); have GW142 := ak ((by rw [hg]; exact (below_size (bl1 HB GE141)) : w.heap.size ≤ gb142)); have GE142 := ak ((by rw [hg]; exact (below_size (bl1 HB GE141)) : w.heap.size ≤ gb142)); replace HB := ak (below_step (bl1 HB GE141) hb); have NB141_142 := ak ((by rw [hg]; exact Nat.ne_of_lt (blk_lt (bk BK141)) : gb141 ≠ gb142)); have NB142_141 := ak ((by rw [hg]; exact Nat.ne_of_gt (blk_lt (bk BK141)) : gb142 ≠ gb141)); replace BK141 := ak (blk_below (bk BK141) hb); clear hb hbox hg) | ((with_reducible refine gate_dst (N := 4) rfl ?_); refine box_event ?hg (N := 4) ?hd (cs := #[.int .i64 0, .slice none 0 0, .slice none 0 0]) (t := 28) ?hr ?_; (case hd => rfl); (case hg => rfl); (case hr => (go_simp; done)); intro gb143 hg w8 hbox hb; have BK143 := ak (hbox); have GW143 := ak ((by rw [hg]; exact (below_size (bl2 HB GE141 GE142)) : w.heap.size ≤ gb143)); have GE143 := ak ((by rw [hg]; exact (below_size (bl2 HB GE141 GE142)) : w.heap.size ≤ gb143)); replace HB := ak (below_step (bl2 HB GE141 GE142) hb); have NB141_143 := ak ((by rw [hg]; exact Nat.ne_of_lt (blk_lt (bk BK141)) : gb141 ≠ gb143)); have NB143_141 := ak ((by rw [hg]; exact Nat.ne_of_gt (blk_lt (bk BK141)) : gb143 ≠ gb141)); replace BK141 := ak (blk_below (bk BK141) hb); have NB142_143 := ak ((by rw [hg]; exact Nat.ne_of_lt (blk_lt (bk BK142)) : gb142 ≠ gb143)); have NB143_142 := ak ((by rw [hg]; exact Nat.ne_of_gt (blk_lt (bk BK142)) : gb143 ≠ gb142)); replace BK142 := ak (blk_below (bk BK142) hb); clear hb hbox hg; have hnb9 := NB141_142.out; have hnc9 := NB142_141.out; have hnb10 := NB141_143.out; have hnc10 := NB143_141.out; have hcz11_0 := bc w8 BK141 0 (.int .i64 a0_0) rfl; have hcz11_1 := bc w8 BK141 1 (.slice A0_1 l0_1.length c0_1) rfl; have hcz11_2 := bc w8 BK141 2 (.slice A0_2 l0_2.length c0_2) rfl; have hfz11_0 := fz BK141 0; have hfz11_1 := fz BK141 1; have hfz11_2 := fz BK141 2) | ((with_reducible refine gate_callee (f := 21) rfl ?_); refine goesL_ (some 10) rfl rfl Try.func21 (by kernel_rfl) rfl #[.agg #[.int .i64 a0_0, .slice A0_1 l0_1.length c0_1, .slice A0_2 l0_2.length c0_2]] rfl (by (try simp only [List.map_toArray, List.map_cons, List.map_nil]); rfl) ?_; (with_reducible refine (spec_l16Ok.calls k a0_0 _ _ l0_1 _ _ l0_2 true _ ?side1 ?side2 ?side3 ?side4 A3.out).mono ?_); (case side1 => repeat (exact (Kd.C_below HR0_1.out HB.out))); (case side2 => exact HC0_1.out); (case side3 => repeat (exact (Kd.C_below HR0_2.out HB.out))); (case side4 => exact HC0_2.out); rintro e w12 ⟨rfl, hb⟩; refine ⟨_, rfl, ?_⟩; replace BK141 := ak (blk_below (bk BK141) hb); replace BK142 := ak (blk_below (bk BK142) hb); replace BK143 := ak (blk_below (bk BK143) hb); replace HB := ak (below_step (bl3 HB GE141 GE142 GE143) hb); (try clear hb); (try clear hb2); (try clear hk); (try clear hi); have hcz13_0 := bc w12 BK141 0 (.int .i64 a0_0) rfl; have hcz13_1 := bc w12 BK141 1 (.slice A0_1 l0_1.length c0_1) rfl; have hcz13_2 := bc w12 BK141 2 (.slice A0_2 l0_2.length c0_2) rfl; have hfz13_0 := fz BK141 0; have hfz13_1 := fz BK141 1; have hfz13_2 := fz BK141 2) | ((with_reducible refine gate_callee (f := 22) rfl ?_); refine goesL_ (some 15) rfl rfl Try.func22 (by kernel_rfl) rfl #[.agg #[.int .i64 a0_0, .slice A0_1 l0_1.length c0_1]] rfl (by (try simp only [List.map_toArray, List.map_cons, List.map_nil]); rfl) ?_; (with_reducible refine (spec_l1Copy.calls a0_0 _ _ l0_1 t145 t146 _ ?side1 ?side2 A5.out).mono ?_); (case side1 => repeat (exact (Kd.C_below HR0_1.out HB.out))); (case side2 => exact HC0_1.out); rintro e w14 ⟨v147, rfl, ho0, hb⟩; refine ⟨_, rfl, ?_⟩; have HO148 := ak (Kd.R_lower ho0 (below_size (bl3 HB GE141 GE142 GE143))); replace BK141 := ak (blk_below (bk BK141) hb); replace BK142 := ak (blk_below (bk BK142) hb); replace BK143 := ak (blk_below (bk BK143) hb); replace HB := ak (below_step (bl3 HB GE141 GE142 GE143) hb); (try clear hb); (try clear hb2); (try clear hk); (try clear hi); (try clear ho0); obtain ⟨Ao15, co15, eo15⟩ := Kd.R_slice HO148.out; subst eo15) | ((with_reducible refine gate_dst (N := 6) rfl ?_); refine box_event ?hg (N := 6) ?hd (cs := #[.int .i64 0, .slice none 0 0, .slice none 0 0]) (t := 28) ?hr ?_; (case hd => rfl); (case hg => rfl); (case hr => (go_simp; done)); intro gb149 hg w16 hbox hb; replace HO148 := ak (Kd.R_below (rk HO148) hb); have BK149 := ak (hbox); have GW149 := ak ((by rw [hg]; exact (below_size (bl3 HB GE141 GE142 GE143)) : w.heap.size ≤ gb149)); have GE149 := ak ((by rw [hg]; exact (below_size (bl3 HB GE141 GE142 GE143)) : w.heap.size ≤ gb149)); replace HB := ak (below_step (bl3 HB GE141 GE142 GE143) hb); have NB141_149 := ak ((by rw [hg]; exact Nat.ne_of_lt (blk_lt (bk BK141)) : gb141 ≠ gb149)); have NB149_141 := ak ((by rw [hg]; exact Nat.ne_of_gt (blk_lt (bk BK141)) : gb149 ≠ gb141)); replace BK141 := ak (blk_below (bk BK141) hb); have NB142_149 := ak ((by rw [hg]; exact Nat.ne_of_lt (blk_lt (bk BK142)) : gb142 ≠ gb149)); have NB149_142 := ak ((by rw [hg]; exact Nat.ne_of_gt (blk_lt (bk BK142)) : gb149 ≠ gb142)); replace BK142 := ak (blk_below (bk BK142) hb); have NB143_149 := ak ((by rw [hg]; exact Nat.ne_of_lt (blk_lt (bk BK143)) : gb143 ≠ gb149)); have NB149_143 := ak ((by rw [hg]; exact Nat.ne_of_gt (blk_lt (bk BK143)) : gb149 ≠ gb143)); replace BK143 := ak (blk_below (bk BK143) hb); clear hb hbox hg; have hnb17 := NB149_141.out; have hnc17 := NB141_149.out; have hnb18 := NB149_142.out; have hnc18 := NB142_149.out; have hnb19 := NB149_143.out; have hnc19 := NB143_149.out; have hcz20_0 := bc w16 BK149 0 (.int .i64 0) rfl; have hcz20_1 := bc w16 BK149 1 (.slice none 0 0) rfl; have hcz20_2 := bc w16 BK149 2 (.slice none 0 0) rfl; have hfz20_0 := fz BK149 0; have hfz20_1 := fz BK149 1; have hfz20_2 := fz BK149 2))
 go_loopg [7, 8] k (fun kq v7 v8 w' => ∃ (x7_1 : Bool) (x8_1 : Int) (x150002_1 : List (S30)) (u150002 : Value), v7 = .bool x7_1 ∧ v8 = .int .i64 x8_1 ∧ Aside0 (spec_LiveTell.l0 kq x7_1 x8_1 a0_0 l0_1 l0_2 a1_0 a1_1 a1_2 t145 t146 x150002_1 = some (r1, r2, r3, r4)) ∧ Aside0 (kq ≤ k) ∧ Aside0 (Kd.R k65 65 w' w.heap.size (fun _ => True) (.slice Ao15 t146.length co15) t146) ∧ Aside0 (Kd.R k30 30 w' w.heap.size (fun k_ => k_ ≠ gb142) u150002 x150002_1) ∧ Aside0 (w'.heap[gb141]? = some (.cells #[.int .i64 a0_0, (.slice A0_1 l0_1.length c0_1), (.slice A0_2 l0_2.length c0_2)] 28 (0, 0))) ∧ Aside0 (w'.heap[gb142]? = some (.cells #[.int .i64 a1_0, .int .i64 a1_1, .int .i64 a1_2] 30 (0, 0))) ∧ Aside0 (w'.heap[gb143]? = some (.cells #[.int .i64 0, (.slice none 0 0), (.slice none 0 0)] 28 (0, 0))) ∧ Aside0 (w'.heap[gb149]? = some (.cells #[.int .i64 t145, (.slice Ao15 t146.length co15), u150002] 28 (0, 0))) ∧ Aside0 (Below w.heap.size w w'))
 case atStart => exact ⟨(false), (0), (([] : List (S30))), (.slice none 0 0), (by rfl), (by rfl), H', ⟨Nat.le_refl _⟩, ⟨by exact Kd.R_mono (Kd.R_far (p := ⟨gb149, 2, none⟩) (Kd.R_far (p := ⟨gb149, 1, none⟩) (Kd.R_far (p := ⟨gb149, 0, none⟩) (Kd.R_types HO148.out BK149.out (by decide)) (fun _ hk => hk.2) (.int .i64 t145)) (fun _ hk => hk.2) (.slice Ao15 t146.length co15)) (fun _ hk => hk.2) (.slice none 0 0)) (fun _ hk => trivial)⟩, ⟨by exact Kd.R_nil _ _ _ _ _⟩, ⟨by refine blk_far ?_ NB141_149.out _; refine blk_far ?_ NB141_149.out _; refine blk_far ?_ NB141_149.out _; exact BK141.out⟩, ⟨by refine blk_far ?_ NB142_149.out _; refine blk_far ?_ NB142_149.out _; refine blk_far ?_ NB142_149.out _; exact BK142.out⟩, ⟨by refine blk_far ?_ NB143_149.out _; refine blk_far ?_ NB143_149.out _; refine blk_far ?_ NB143_149.out _; exact BK143.out⟩, ⟨by refine blk_put (cs := #[.int .i64 t145, .slice Ao15 t146.length co15, .slice none 0 0]) ?_ 2 _ rfl; refine blk_put (cs := #[.int .i64 t145, .slice none 0 0, .slice none 0 0]) ?_ 1 _ rfl; refine blk_put (cs := #[.int .i64 0, .slice none 0 0, .slice none 0 0]) ?_ 0 _ rfl; exact BK149.out⟩, ⟨bl4 HB GE141 GE142 GE143 GE149⟩⟩
 clear H'
 try clear c1
 try clear c2
 try clear p2
 try clear c4
 try clear c8
 try clear c9
 try clear c10
 try clear c17
 try clear c18
 try clear c19
 try clear hcz11_0
 try clear hcz11_1
 try clear hcz11_2
 try clear hcz13_0
 try clear hcz13_1
 try clear hcz13_2
 try clear hcz20_0
 try clear hcz20_1
 try clear hcz20_2
 try clear hfz11_0
 try clear hfz11_1
 try clear hfz11_2
 try clear hfz13_0
 try clear hfz13_1
 try clear hfz13_2
 try clear hfz20_0
 try clear hfz20_1
 try clear hfz20_2
 obtain ⟨x7_1, x8_1, x150002_1, u150002, rfl, rfl, HA, HK1, HO_150001, HO_150002, BK141, BK142, BK143, BK149, HB⟩ := hrel
 cases gk with
 | zero => exact absurd HA.out (by simp [spec_LiveTell.l0])
 | succ k1 =>
  have H := HA.out
  clear HA
  simp only [spec_LiveTell.l0] at H
  by_cases c21 : x8_1 < (l0_2.length : Int)
  rotate_left
  ·rw [if_neg c21] at H
   have c21b0 : decide (x8_1 < (l0_2.length : Int)) = false := decide_eq_false c21
   clear c21
   have HC75 := ak H
   clear H
   have hnb76 := NB141_142.out
   have hnc76 := NB142_141.out
   have hnb77 := NB141_143.out
   have hnc77 := NB143_141.out
   have hnb78 := NB141_149.out
   have hnc78 := NB149_141.out
   have hcz79_0 := bc wr BK141 0 (.int .i64 a0_0) rfl
   have hcz79_1 := bc wr BK141 1 (.slice A0_1 l0_1.length c0_1) rfl
   have hcz79_2 := bc wr BK141 2 (.slice A0_2 l0_2.length c0_2) rfl
   have hfz79_0 := fz BK141 0
   have hfz79_1 := fz BK141 1
   have hfz79_2 := fz BK141 2
   go_upto_if 63 with (fail)
   go_cut [] (fun wc => ∃ (kq : Nat) (x150002_74 : List (S30)) (u150002 : Value), Aside0 (spec_LiveTell.j2 kq a0_0 l0_1 l0_2 t145 t146 x150002_74 = some (r1, r2, r3, r4)) ∧ Aside0 (kq ≤ k1) ∧ Aside0 (Kd.R k65 65 wc w.heap.size (fun _ => True) (.slice Ao15 t146.length co15) t146) ∧ Aside0 (Kd.R k30 30 wc w.heap.size (fun k_ => k_ ≠ gb142) u150002 x150002_74) ∧ Aside0 (wc.heap[gb141]? = some (.cells #[.int .i64 a0_0, (.slice A0_1 l0_1.length c0_1), (.slice A0_2 l0_2.length c0_2)] 28 (0, 0))) ∧ Aside0 (wc.heap[gb142]? = some (.cells #[.int .i64 a1_0, .int .i64 a1_1, .int .i64 a1_2] 30 (0, 0))) ∧ Aside0 (wc.heap[gb143]? = some (.cells #[.int .i64 0, (.slice none 0 0), (.slice none 0 0)] 28 (0, 0))) ∧ Aside0 (wc.heap[gb149]? = some (.cells #[.int .i64 t145, (.slice Ao15 t146.length co15), u150002] 28 (0, 0))) ∧ Aside0 (Below w.heap.size w wc))
   case first =>
    have H := HC75.out
    clear HC75
    by_cases c80 : x7_1 = true
    ·subst c80
     rw [if_pos rfl] at H
     have H' := ak H
     clear H
     go_wp2
     go_meet
     case rel => exact ⟨_, (x150002_1), (u150002), H', ⟨by have := HK1.out; omega⟩, ⟨rk HO_150001⟩, ⟨rk HO_150002⟩, ⟨bk BK141⟩, ⟨bk BK142⟩, ⟨bk BK143⟩, ⟨bk BK149⟩, ⟨bl4 HB GE141 GE142 GE143 GE149⟩⟩
    replace c80 := Bool.eq_false_iff.mpr c80
    subst c80
    rw [if_neg (show ¬ (false = true) by decide)] at H
    by_cases c81 : x150002_1.length < 5864062014805
    rotate_left
    ·rw [if_neg c81] at H
     exact absurd H (by simp)
    rw [if_pos c81] at H
    have LMc81 := ak c81
    clear c81
    obtain ⟨y164, hy164⟩ : ∃ y_ : List (S30), y_ = (x150002_1 ++ [(⟨a1_0, a1_1, a1_2⟩ : S30)]) := ⟨_, rfl⟩
    replace H : (spec_LiveTell.j2 k1 a0_0 l0_1 l0_2 t145 t146 y164) = some (r1, r2, r3, r4) := by (rw [hy164]; with_reducible exact H)
    have Ny164 := ak hy164
    clear hy164
    have H' := ak H
    clear H
    have hnb82 := NB149_141.out
    have hnc82 := NB141_149.out
    have hnb83 := NB149_142.out
    have hnc83 := NB142_149.out
    have hnb84 := NB149_143.out
    have hnc84 := NB143_149.out
    have hcz85_0 := bc wr BK149 0 (.int .i64 t145) rfl
    have hcz85_1 := bc wr BK149 1 (.slice Ao15 t146.length co15) rfl
    have hcz85_2 := bc wr BK149 2 (u150002) rfl
    have hfz85_0 := fz BK149 0
    have hfz85_1 := fz BK149 1
    have hfz85_2 := fz BK149 2
    have hnb86 := NB142_141.out
    have hnc86 := NB141_142.out
    have hnb87 := NB142_143.out
    have hnc87 := NB143_142.out
    have hcz88_0 := bc wr BK142 0 (.int .i64 a1_0) rfl
    have hcz88_1 := bc wr BK142 1 (.int .i64 a1_1) rfl
    have hcz88_2 := bc wr BK142 2 (.int .i64 a1_2) rfl
    have hfz88_0 := fz BK142 0
    have hfz88_1 := fz BK142 1
    have hfz88_2 := fz BK142 2
    go_wp2_with (((with_reducible refine gate_builtin (b := .append) (xs := #[.tmp 65, .tmp 67]) rfl ?_); at_builtin; refine Kd.R_append k30 (w0 := w) w.heap.size rfl (.tmp 65) (.tmp 67) 26 30 (.agg #[(.int .i64 0), (.int .i64 0), (.int .i64 0)]) 24 rfl Try.underlying26 info30 rfl (by decide) (by omega) u150002 x150002_1 (⟨a1_0, a1_1, a1_2⟩ : S30) [.int .i64 a1_0, .int .i64 a1_1, .int .i64 a1_2] (fun k_ => k_ ≠ gb142) (fun _ => False) rfl rfl ?aP (fun _ hk => hk.elim) ?aF ?aO ?aB ?aS ?aL ?_; (case aP => exact k30_mkM _ _ _ (⟨a1_0, a1_1, a1_2⟩ : S30)); (case aB => exact (bl4 HB GE141 GE142 GE143 GE149)); (case aF => exact (fun k_ hk => Kd.freshB (bk BK142) k_ hk)); (case aO => exact (rk HO_150002)); (case aS => exact (below_size (bl4 HB GE141 GE142 GE143 GE149))); (case aL => have := LMc81.out; omega); intro v165 w89 ho hb hg hat; rw [← Ny164.out] at ho; have n0_ := ak (Kd.R_over' (rk HO_150001) (Kd.R_typed (rk HO_150002)) (by decide) hg); have n1_ := ak (blk_grown (bk BK141) hg (Kd.R_ne HO_150002.out BK141.out (by decide))); have n2_ := ak (blk_grown (bk BK142) hg (Kd.R_away HO_150002.out (fun _ hk => hk))); have n3_ := ak (blk_grown (bk BK143) hg (Kd.R_ne HO_150002.out BK143.out (by decide))); have n4_ := ak (blk_grown (bk BK149) hg (Kd.R_ne HO_150002.out BK149.out (by decide))); have n5_ := ak (hb); have n6_ := ak (ho); clear HO_150001; clear BK141; clear BK142; clear BK143; clear BK149; clear HB; clear HO_150002; have HO_150001 := n0_; have BK141 := n1_; have BK142 := n2_; have BK143 := n3_; have BK149 := n4_; have HB := n5_; have HO166 := n6_; clear n0_ n1_ n2_ n3_ n4_ n5_ n6_; clear ho hb hg hat; obtain ⟨Ao90, co90, eo90⟩ := Kd.R_slice HO166.out; subst eo90; have hcz91_0 := bc w89 BK149 0 (.int .i64 t145) rfl; have hcz91_1 := bc w89 BK149 1 (.slice Ao15 t146.length co15) rfl; have hcz91_2 := bc w89 BK149 2 (u150002) rfl; have hfz91_0 := fz BK149 0; have hfz91_1 := fz BK149 1; have hfz91_2 := fz BK149 2))
    go_meet
    case rel => exact ⟨_, (y164), (.slice Ao90 y164.length co90), H', ⟨by have := HK1.out; omega⟩, ⟨by exact Kd.R_mono (Kd.R_far (p := ⟨gb149, 2, none⟩) (Kd.R_types HO_150001.out BK149.out (by decide)) (fun _ hk => hk.2) (.slice Ao90 y164.length co90)) (fun _ hk => trivial)⟩, ⟨by exact Kd.R_mono (Kd.R_far (p := ⟨gb149, 2, none⟩) (Kd.R_types HO166.out BK149.out (by decide)) (fun _ hk => hk.2) (.slice Ao90 y164.length co90)) (fun _ hk => hk.1)⟩, ⟨by refine blk_far ?_ NB141_149.out _; exact BK141.out⟩, ⟨by refine blk_far ?_ NB142_149.out _; exact BK142.out⟩, ⟨by refine blk_far ?_ NB143_149.out _; exact BK143.out⟩, ⟨by refine blk_put (cs := #[.int .i64 t145, .slice Ao15 t146.length co15, u150002]) ?_ 2 _ rfl; exact BK149.out⟩, ⟨bl4 HB GE141 GE142 GE143 GE149⟩⟩
   clear HC75
   try clear p1
   try clear q1
   try clear hx1
   try clear c2
   try clear p2
   try clear c3
   try clear c4
   try clear c6
   try clear p6
   try clear c7
   try clear c8
   try clear p15
   try clear q15
   try clear hx15
   try clear p16
   try clear q16
   try clear hx16
   try clear c21
   try clear c21b0
   try clear c31
   try clear c32
   try clear c33
   try clear c34
   try clear c48
   try clear p64
   try clear c65
   try clear c65b0
   try clear c66
   try clear c66b0
   try clear c67
   try clear c67b0
   try clear c67b1
   try clear c69
   try clear c76
   try clear c77
   try clear c78
   try clear c80
   try clear c81
   try clear c82
   try clear c83
   try clear c84
   try clear c86
   try clear c87
   try clear hcz79_0
   try clear hcz79_1
   try clear hcz79_2
   try clear hcz85_0
   try clear hcz85_1
   try clear hcz85_2
   try clear hcz88_0
   try clear hcz88_1
   try clear hcz88_2
   try clear hcz91_0
   try clear hcz91_1
   try clear hcz91_2
   try clear hfz79_0
   try clear hfz79_1
   try clear hfz79_2
   try clear hfz85_0
   try clear hfz85_1
   try clear hfz85_2
   try clear hfz88_0
   try clear hfz88_1
   try clear hfz88_2
   try clear hfz91_0
   try clear hfz91_1
   try clear hfz91_2
   try clear hx159_0
   try clear hx159_1
   try clear hx159_2
   try clear hx160_0
   try clear hx160_1
   try clear hx160_2
   try clear p159
   try clear p160
   try clear q159
   try clear q160
   obtain ⟨kq, x150002_74, u150002, HA, HJ74, HO_150001, HO_150002, BK141, BK142, BK143, BK149, HB⟩ := hcut
   cases kq with
   | zero => exact absurd HA.out (by simp [spec_LiveTell.j2])
   | succ kj74 =>
    have H := HA.out
    clear HA
    simp only [spec_LiveTell.j2] at H
    replace H := Option.bind_eq_some_iff.mp H
    obtain ⟨t167, A920, H⟩ := H
    have A92 := ak A920
    clear A920
    by_cases c93 : t167 = true
    ·subst c93
     rw [if_pos rfl] at H
     simp only [Option.some.injEq, Prod.mk.injEq] at H
     obtain ⟨rfl, rfl, rfl, rfl⟩ := H
     have hnb94 := NB149_141.out
     have hnc94 := NB141_149.out
     have hnb95 := NB149_142.out
     have hnc95 := NB142_149.out
     have hnb96 := NB149_143.out
     have hnc96 := NB143_149.out
     have hcz97_0 := bc wc BK149 0 (.int .i64 t145) rfl
     have hcz97_1 := bc wc BK149 1 (.slice Ao15 t146.length co15) rfl
     have hcz97_2 := bc wc BK149 2 (u150002) rfl
     have hfz97_0 := fz BK149 0
     have hfz97_1 := fz BK149 1
     have hfz97_2 := fz BK149 2
     obtain ⟨Ao98, co98, eo98⟩ := Kd.R_slice HO_150002.out
     subst eo98
     go_wp2_with (((with_reducible refine gate_callee (f := 21) rfl ?_); refine goesL_ (some 71) rfl rfl Try.func21 (by kernel_rfl) rfl #[.agg #[.int .i64 t145, .slice Ao15 t146.length co15, .slice Ao98 x150002_74.length co98]] rfl (by (try simp only [List.map_toArray, List.map_cons, List.map_nil]); rfl) ?_; (with_reducible refine (spec_l16Ok.calls kj74 t145 _ _ t146 _ _ x150002_74 true _ ?side1 ?side2 ?side3 ?side4 A92.out).mono ?_); (case side1 => repeat (exact (Kd.R_reads' HO_150001.out).2.2)); (case side2 => exact (Kd.R_reads' HO_150001.out).2.1); (case side3 => repeat (exact (Kd.R_reads' HO_150002.out).2.2)); (case side4 => exact (Kd.R_reads' HO_150002.out).2.1); rintro e w99 ⟨rfl, hb⟩; refine ⟨_, rfl, ?_⟩; replace HO_150001 := ak (Kd.R_below (rk HO_150001) hb); replace HO_150002 := ak (Kd.R_below (rk HO_150002) hb); replace BK141 := ak (blk_below (bk BK141) hb); replace BK142 := ak (blk_below (bk BK142) hb); replace BK143 := ak (blk_below (bk BK143) hb); replace BK149 := ak (blk_below (bk BK149) hb); replace HB := ak (below_step (bl4 HB GE141 GE142 GE143 GE149) hb); (try clear hb); (try clear hb2); (try clear hk); (try clear hi); have hcz100_0 := bc w99 BK149 0 (.int .i64 t145) rfl; have hcz100_1 := bc w99 BK149 1 (.slice Ao15 t146.length co15) rfl; have hcz100_2 := bc w99 BK149 2 (.slice Ao98 x150002_74.length co98) rfl; have hfz100_0 := fz BK149 0; have hfz100_1 := fz BK149 1; have hfz100_2 := fz BK149 2; have hnb101 := NB143_141.out; have hnc101 := NB141_143.out; have hnb102 := NB143_142.out; have hnc102 := NB142_143.out; have hcz103_0 := bc w99 BK143 0 (.int .i64 0) rfl; have hcz103_1 := bc w99 BK143 1 (.slice none 0 0) rfl; have hcz103_2 := bc w99 BK143 2 (.slice none 0 0) rfl; have hfz103_0 := fz BK143 0; have hfz103_1 := fz BK143 1; have hfz103_2 := fz BK143 2))
     refine bodyPost_ret (results_ct rfl _ _ gb143 28 #[.int .i64 t145, .slice Ao15 t146.length co15, .slice Ao98 x150002_74.length co98] (0, 0) _ rfl (by refine blk_put (cs := #[.int .i64 t145, .slice Ao15 t146.length co15, .slice none 0 0]) ?_ 2 _ rfl; refine blk_put (cs := #[.int .i64 t145, .slice none 0 0, .slice none 0 0]) ?_ 1 _ rfl; refine blk_put (cs := #[.int .i64 0, .slice none 0 0, .slice none 0 0]) ?_ 0 _ rfl; exact BK143.out) Try.underlying28 rfl (by kernel_rfl)) rfl ?_
     exact ⟨_, _, by rfl, by exact Kd.R_mono (Kd.R_far (p := ⟨gb143, 2, none⟩) (Kd.R_far (p := ⟨gb143, 1, none⟩) (Kd.R_far (p := ⟨gb143, 0, none⟩) (Kd.R_types HO_150001.out BK143.out (by decide)) (fun _ hk => hk.2) (.int .i64 t145)) (fun _ hk => hk.2) (.slice Ao15 t146.length co15)) (fun _ hk => hk.2) (.slice Ao98 x150002_74.length co98)) (fun _ hk => trivial), by exact Kd.R_mono (Kd.R_far (p := ⟨gb143, 2, none⟩) (Kd.R_far (p := ⟨gb143, 1, none⟩) (Kd.R_far (p := ⟨gb143, 0, none⟩) (Kd.R_types HO_150002.out BK143.out (by decide)) (fun _ hk => hk.2) (.int .i64 t145)) (fun _ hk => hk.2) (.slice Ao15 t146.length co15)) (fun _ hk => hk.2) (.slice Ao98 x150002_74.length co98)) (fun _ hk => trivial), bl4 HB GE141 GE142 GE143 GE149⟩
    replace c93 := Bool.eq_false_iff.mpr c93
    subst c93
    rw [if_neg (show ¬ (false = true) by decide)] at H
    replace H := Option.bind_eq_some_iff.mp H
    obtain ⟨⟨t168, t169, t172⟩, A1040, H⟩ := H
    have A104 := ak A1040
    clear A1040
    simp only [Option.some.injEq, Prod.mk.injEq] at H
    obtain ⟨rfl, rfl, rfl, rfl⟩ := H
    have hnb105 := NB149_141.out
    have hnc105 := NB141_149.out
    have hnb106 := NB149_142.out
    have hnc106 := NB142_149.out
    have hnb107 := NB149_143.out
    have hnc107 := NB143_149.out
    have hcz108_0 := bc wc BK149 0 (.int .i64 t145) rfl
    have hcz108_1 := bc wc BK149 1 (.slice Ao15 t146.length co15) rfl
    have hcz108_2 := bc wc BK149 2 (u150002) rfl
    have hfz108_0 := fz BK149 0
    have hfz108_1 := fz BK149 1
    have hfz108_2 := fz BK149 2
    obtain ⟨Ao109, co109, eo109⟩ := Kd.R_slice HO_150002.out
    subst eo109
    go_wp2_with (first | ((with_reducible refine gate_callee (f := 21) rfl ?_); refine goesL_ (some 71) rfl rfl Try.func21 (by kernel_rfl) rfl #[.agg #[.int .i64 t145, .slice Ao15 t146.length co15, .slice Ao109 x150002_74.length co109]] rfl (by (try simp only [List.map_toArray, List.map_cons, List.map_nil]); rfl) ?_; (with_reducible refine (spec_l16Ok.calls kj74 t145 _ _ t146 _ _ x150002_74 false _ ?side1 ?side2 ?side3 ?side4 A92.out).mono ?_); (case side1 => repeat (exact (Kd.R_reads' HO_150001.out).2.2)); (case side2 => exact (Kd.R_reads' HO_150001.out).2.1); (case side3 => repeat (exact (Kd.R_reads' HO_150002.out).2.2)); (case side4 => exact (Kd.R_reads' HO_150002.out).2.1); rintro e w110 ⟨rfl, hb⟩; refine ⟨_, rfl, ?_⟩; replace HO_150001 := ak (Kd.R_below (rk HO_150001) hb); replace HO_150002 := ak (Kd.R_below (rk HO_150002) hb); replace BK141 := ak (blk_below (bk BK141) hb); replace BK142 := ak (blk_below (bk BK142) hb); replace BK143 := ak (blk_below (bk BK143) hb); replace BK149 := ak (blk_below (bk BK149) hb); replace HB := ak (below_step (bl4 HB GE141 GE142 GE143 GE149) hb); (try clear hb); (try clear hb2); (try clear hk); (try clear hi); have hnb111 := NB141_142.out; have hnc111 := NB142_141.out; have hnb112 := NB141_143.out; have hnc112 := NB143_141.out; have hcz113_0 := bc w110 BK141 0 (.int .i64 a0_0) rfl; have hcz113_1 := bc w110 BK141 1 (.slice A0_1 l0_1.length c0_1) rfl; have hcz113_2 := bc w110 BK141 2 (.slice A0_2 l0_2.length c0_2) rfl; have hfz113_0 := fz BK141 0; have hfz113_1 := fz BK141 1; have hfz113_2 := fz BK141 2) | ((with_reducible refine gate_callee (f := 23) rfl ?_); refine goesL_ (some 74) rfl rfl Try.func23 (by kernel_rfl) rfl #[.agg #[.int .i64 a0_0, .slice A0_1 l0_1.length c0_1, .slice A0_2 l0_2.length c0_2]] rfl (by (try simp only [List.map_toArray, List.map_cons, List.map_nil]); rfl) ?_; (with_reducible refine (spec_l16Copy.calls a0_0 _ _ l0_1 _ _ l0_2 t168 t169 t172 _ ?side1 ?side2 ?side3 ?side4 A104.out).mono ?_); (case side1 => repeat (exact (Kd.C_below HR0_1.out HB.out))); (case side2 => exact HC0_1.out); (case side3 => repeat (exact (Kd.C_below HR0_2.out HB.out))); (case side4 => exact HC0_2.out); rintro e w114 ⟨v170, v173, rfl, ho0, ho1, hb⟩; refine ⟨_, rfl, ?_⟩; have HO171 := ak (Kd.R_lower (Kd.R_new' ho0 (Kd.R_lt (rk HO_150001))) (below_size (bl4 HB GE141 GE142 GE143 GE149))); replace HO_150001 := ak (Kd.R_elder' (rk HO_150001) (Kd.R_base ho0) hb); have HO174 := ak (Kd.R_lower (Kd.R_newB (Kd.R_new' ho1 (Kd.R_lt (rk HO_150002))) (bk BK142)) (below_size (bl4 HB GE141 GE142 GE143 GE149))); replace HO_150002 := ak (Kd.R_elder' (rk HO_150002) (Kd.R_base ho1) hb); replace BK141 := ak (blk_below (bk BK141) hb); replace BK142 := ak (blk_below (bk BK142) hb); replace BK143 := ak (blk_below (bk BK143) hb); replace BK149 := ak (blk_below (bk BK149) hb); replace HB := ak (below_step (bl4 HB GE141 GE142 GE143 GE149) hb); (try clear hb); (try clear hb2); (try clear hk); (try clear hi); (try clear ho0); (try clear ho1); have hnb115 := NB143_142.out; have hnc115 := NB142_143.out; have hcz116_0 := bc w114 BK143 0 (.int .i64 0) rfl; have hcz116_1 := bc w114 BK143 1 (.slice none 0 0) rfl; have hcz116_2 := bc w114 BK143 2 (.slice none 0 0) rfl; have hfz116_0 := fz BK143 0; have hfz116_1 := fz BK143 1; have hfz116_2 := fz BK143 2; obtain ⟨Ao117, co117, eo117⟩ := Kd.R_slice HO171.out; subst eo117; obtain ⟨Ao118, co118, eo118⟩ := Kd.R_slice HO174.out; subst eo118))
    refine bodyPost_ret (results_ct rfl _ _ gb143 28 #[.int .i64 t168, .slice Ao117 t169.length co117, .slice Ao118 t172.length co118] (0, 0) _ rfl (by refine blk_put (cs := #[.int .i64 t168, .slice Ao117 t169.length co117, .slice none 0 0]) ?_ 2 _ rfl; refine blk_put (cs := #[.int .i64 t168, .slice none 0 0, .slice none 0 0]) ?_ 1 _ rfl; refine blk_put (cs := #[.int .i64 0, .slice none 0 0, .slice none 0 0]) ?_ 0 _ rfl; exact BK143.out) Try.underlying28 rfl (by kernel_rfl)) rfl ?_
    exact ⟨_, _, by rfl, by exact Kd.R_mono (Kd.R_far (p := ⟨gb143, 2, none⟩) (Kd.R_far (p := ⟨gb143, 1, none⟩) (Kd.R_far (p := ⟨gb143, 0, none⟩) (Kd.R_types HO171.out BK143.out (by decide)) (fun _ hk => hk.2) (.int .i64 t168)) (fun _ hk => hk.2) (.slice Ao117 t169.length co117)) (fun _ hk => hk.2) (.slice Ao118 t172.length co118)) (fun _ hk => trivial), by exact Kd.R_mono (Kd.R_far (p := ⟨gb143, 2, none⟩) (Kd.R_far (p := ⟨gb143, 1, none⟩) (Kd.R_far (p := ⟨gb143, 0, none⟩) (Kd.R_types HO174.out BK143.out (by decide)) (fun _ hk => hk.2) (.int .i64 t168)) (fun _ hk => hk.2) (.slice Ao117 t169.length co117)) (fun _ hk => hk.2) (.slice Ao118 t172.length co118)) (fun _ hk => trivial), bl4 HB GE141 GE142 GE143 GE149⟩
  rw [if_pos c21] at H
  have c21b0 : decide (x8_1 < (l0_2.length : Int)) = true := decide_eq_true c21
  clear c21
  have HC22 := ak H
  clear H
  have hnb23 := NB141_142.out
  have hnc23 := NB142_141.out
  have hnb24 := NB141_143.out
  have hnc24 := NB143_141.out
  have hnb25 := NB141_149.out
  have hnc25 := NB149_141.out
  have hcz26_0 := bc wr BK141 0 (.int .i64 a0_0) rfl
  have hcz26_1 := bc wr BK141 1 (.slice A0_1 l0_1.length c0_1) rfl
  have hcz26_2 := bc wr BK141 2 (.slice A0_2 l0_2.length c0_2) rfl
  have hfz26_0 := fz BK141 0
  have hfz26_1 := fz BK141 1
  have hfz26_2 := fz BK141 2
  go_upto_region 8 with (fail)
  go_cut [36] (fun v36 wc => ∃ (kq : Nat) (x36_21 : Bool), v36 = .bool x36_21 ∧ Aside0 (spec_LiveTell.j1 kq x7_1 x8_1 x36_21 a0_0 l0_1 l0_2 a1_0 a1_1 a1_2 t145 t146 x150002_1 = some (r1, r2, r3, r4)) ∧ Aside0 (kq ≤ k1) ∧ Aside0 (Kd.R k65 65 wc w.heap.size (fun _ => True) (.slice Ao15 t146.length co15) t146) ∧ Aside0 (Kd.R k30 30 wc w.heap.size (fun k_ => k_ ≠ gb142) u150002 x150002_1) ∧ Aside0 (wc.heap[gb141]? = some (.cells #[.int .i64 a0_0, (.slice A0_1 l0_1.length c0_1), (.slice A0_2 l0_2.length c0_2)] 28 (0, 0))) ∧ Aside0 (wc.heap[gb142]? = some (.cells #[.int .i64 a1_0, .int .i64 a1_1, .int .i64 a1_2] 30 (0, 0))) ∧ Aside0 (wc.heap[gb143]? = some (.cells #[.int .i64 0, (.slice none 0 0), (.slice none 0 0)] 28 (0, 0))) ∧ Aside0 (wc.heap[gb149]? = some (.cells #[.int .i64 t145, (.slice Ao15 t146.length co15), u150002] 28 (0, 0))) ∧ Aside0 (Below w.heap.size w wc))
  case first =>
   have H := HC22.out
   clear HC22
   by_cases c27 : x7_1 = true
   ·subst c27
    rw [if_pos rfl] at H
    have H' := ak H
    clear H
    try go_wp2
    replace HO_150001 := ak (Kd.R_drew HO_150001.out)
    replace HO_150002 := ak (Kd.R_drew HO_150002.out)
    replace BK141 := ak (blk_drew BK141.out)
    replace BK142 := ak (blk_drew BK142.out)
    replace BK143 := ak (blk_drew BK143.out)
    replace BK149 := ak (blk_drew BK149.out)
    replace HB := ak (below_drew1 HB.out)
    refine start_ (n := 13) (S := fun w' => True) (ds := []) (ms 13 0) (by kernel_rfl) rfl (by kernel_rfl) trivial (fun hHeld => ?_); refine with_tabW spec_LiveTell.tab8 spec_LiveTell.bits8 (fun HT_ HW_ => ?_)
    generalize wr.drew = w28 at HO_150001 HO_150002 BK141 BK142 BK143 BK149 HB hHeld ⊢
    refine pu 0 24 ?_ (ms 13 1) rfl rfl HT_ (by kernel_rfl) (fun _ _ _ h => h) (by rfl) ?_ ?_ ?_ ?_
    rotate_left
    ·intro w'
     go_simp
     with_reducible rfl
    rotate_left
    ·simp only [SX]
     rfl
    refine pu 1 25 ?_ (ms 13 3) rfl rfl HT_ (by kernel_rfl) (fun _ _ _ h => h) (by rfl) ?_ ?_ ?_ ?_
    rotate_left
    ·intro w'
     go_simp
     with_reducible rfl
    rotate_left
    ·simp only [SX]
     rfl
    refine pu 2 26 ?_ (ms 13 7) rfl rfl HT_ (by kernel_rfl) (fun _ _ _ h => h) (by rfl) ?_ ?_ ?_ ?_
    rotate_left
    ·intro w'
     go_simp
     with_reducible rfl
    rotate_left
    ·simp only [SX]
     rfl
    refine pure_ (i := 3) (N := some 27) (v := undef) (a' := ?_) (ms 13 15) rfl rfl (any_of HT_.out (by kernel_rfl)) (fun _ _ _ h => h) (Or.inr ⟨by rfl, rfl⟩) ?_ ?_
    rotate_left
    ·simp only [SX]
     rfl
    refine pure_ (i := 4) (N := some 28) (v := undef) (a' := ?_) (ms 13 31) rfl rfl (any_of HT_.out (by kernel_rfl)) (fun _ _ _ h => h) (Or.inr ⟨by rfl, rfl⟩) ?_ ?_
    rotate_left
    ·simp only [SX]
     rfl
    refine pure_ (i := 5) (N := some 29) (v := undef) (a' := ?_) (ms 13 63) rfl rfl (any_of HT_.out (by kernel_rfl)) (fun _ _ _ h => h) (Or.inr ⟨by rfl, rfl⟩) ?_ ?_
    rotate_left
    ·simp only [SX]
     rfl
    refine pure_ (i := 6) (N := some 30) (v := undef) (a' := ?_) (ms 13 127) rfl rfl (any_of HT_.out (by kernel_rfl)) (fun _ _ _ h => h) (Or.inr ⟨by rfl, rfl⟩) ?_ ?_
    rotate_left
    ·simp only [SX]
     rfl
    refine pure_ (i := 7) (N := some 31) (v := undef) (a' := ?_) (ms 13 255) rfl rfl (any_of HT_.out (by kernel_rfl)) (fun _ _ _ h => h) (Or.inr ⟨by rfl, rfl⟩) ?_ ?_
    rotate_left
    ·simp only [SX]
     rfl
    refine pure_ (i := 8) (N := some 32) (v := undef) (a' := ?_) (ms 13 511) rfl rfl (any_of HT_.out (by kernel_rfl)) (fun _ _ _ h => h) (Or.inr ⟨by rfl, rfl⟩) ?_ ?_
    rotate_left
    ·simp only [SX]
     rfl
    refine pure_ (i := 9) (N := some 33) (v := undef) (a' := ?_) (ms 13 1023) rfl rfl (any_of HT_.out (by kernel_rfl)) (fun _ _ _ h => h) (Or.inr ⟨by rfl, rfl⟩) ?_ ?_
    rotate_left
    ·simp only [SX]
     rfl
    refine pure_ (i := 10) (N := some 34) (v := undef) (a' := ?_) (ms 13 2047) rfl rfl (any_of HT_.out (by kernel_rfl)) (fun _ _ _ h => h) (Or.inr ⟨by rfl, rfl⟩) ?_ ?_
    rotate_left
    ·simp only [SX]
     rfl
    refine pure_ (i := 11) (N := some 35) (v := undef) (a' := ?_) (ms 13 4095) rfl rfl (any_of HT_.out (by kernel_rfl)) (fun _ _ _ h => h) (Or.inr ⟨by rfl, rfl⟩) ?_ ?_
    rotate_left
    ·simp only [SX]
     rfl
    refine pu 12 36 ?_ (ms 13 8191) rfl rfl HT_ (by kernel_rfl) (fun _ _ _ h => h) (by rfl) ?_ ?_ ?_ ?_
    rotate_left
    ·intro w'
     go_simp
     with_reducible rfl
    rotate_left
    ·simp only [SX]
     rfl
    refine done_ (done_of HT_.out (by kernel_rfl)) ?_
    try go_wp2
    go_meet
    case rel => exact ⟨_, (false), (by rfl), H', ⟨by have := HK1.out; omega⟩, ⟨rk HO_150001⟩, ⟨rk HO_150002⟩, ⟨bk BK141⟩, ⟨bk BK142⟩, ⟨bk BK143⟩, ⟨bk BK149⟩, ⟨bl4 HB GE141 GE142 GE143 GE149⟩⟩
   replace c27 := Bool.eq_false_iff.mpr c27
   subst c27
   rw [if_neg (show ¬ (false = true) by decide)] at H
   by_cases c29 : 0 ≤ x8_1
   rotate_left
   ·rw [if_neg c29] at H
    exact absurd H (by simp)
   rw [if_pos c29] at H
   have c29b0 : decide (0 ≤ x8_1) = true := decide_eq_true c29
   clear c29
   (skip)
   have H' := ak H
   clear H
   try go_wp2
   replace HO_150001 := ak (Kd.R_drew HO_150001.out)
   replace HO_150002 := ak (Kd.R_drew HO_150002.out)
   replace BK141 := ak (blk_drew BK141.out)
   replace BK142 := ak (blk_drew BK142.out)
   replace BK143 := ak (blk_drew BK143.out)
   replace BK149 := ak (blk_drew BK149.out)
   replace HB := ak (below_drew1 HB.out)
   have p150 : 0 ≤ (x8_1 : Int) := oT (by (with_reducible assumption))
   have q150 : x8_1 < (l0_2.length : Int) := oT (by (with_reducible assumption))
   obtain ⟨ad150, e150, hx150_0, hx150_1, hx150_2⟩ := at_T30 HR0_2.out x8_1 p150 q150
   have hw150_2 := hx150_2
   have hw150_1 := hx150_1
   have hw150_0 := hx150_0
   cases e150
   replace hx150_0 := hcb HB.out hx150_0
   replace hx150_1 := hcb HB.out hx150_1
   replace hx150_2 := hcb HB.out hx150_2
   replace p150 := eq_true p150
   replace q150 := eq_true q150
   refine start_ (n := 13) (S := fun w' => w'.cell? ⟨gb141, 0, none⟩ = some (.int .i64 a0_0) ∧ w'.cell? ⟨gb141, 1, none⟩ = some (.slice A0_1 l0_1.length c0_1) ∧ w'.cell? ⟨gb141, 2, none⟩ = some (.slice (some ad150) l0_2.length c0_2) ∧ w'.cell? ⟨gb142, 0, none⟩ = some (.int .i64 a1_0) ∧ w'.cell? ⟨gb142, 1, none⟩ = some (.int .i64 a1_1) ∧ w'.cell? ⟨gb142, 2, none⟩ = some (.int .i64 a1_2) ∧ w'.cell? (ad150.add ((x8_1).toNat * 3)) = some (.int .i64 ((rd_T30 l0_2 x8_1).f0)) ∧ w'.cell? ⟨(ad150.add ((x8_1).toNat * 3)).block, (ad150.add ((x8_1).toNat * 3)).off + 1, none⟩ = some (.int .i64 ((rd_T30 l0_2 x8_1).f1)) ∧ w'.cell? ⟨(ad150.add ((x8_1).toNat * 3)).block, (ad150.add ((x8_1).toNat * 3)).off + 2, none⟩ = some (.int .i64 ((rd_T30 l0_2 x8_1).f2))) (ds := []) (ms 13 0) (by kernel_rfl) rfl (by kernel_rfl) ⟨(blk_cell BK141.out 0).trans rfl, (blk_cell BK141.out 1).trans rfl, (blk_cell BK141.out 2).trans rfl, (blk_cell BK142.out 0).trans rfl, (blk_cell BK142.out 1).trans rfl, (blk_cell BK142.out 2).trans rfl, ((HB.out.cell (World.block_lt_of_cell? w _ hw150_0)).trans hw150_0), ((HB.out.cell (World.block_lt_of_cell? w _ hw150_1)).trans hw150_1), ((HB.out.cell (World.block_lt_of_cell? w _ hw150_2)).trans hw150_2)⟩ (fun hHeld => ?_); refine with_tabW spec_LiveTell.tab8 spec_LiveTell.bits8 (fun HT_ HW_ => ?_)
   generalize wr.drew = w30 at HO_150001 HO_150002 BK141 BK142 BK143 BK149 HB hx150_0 hx150_1 hx150_2 hHeld ⊢
   refine pu 0 24 ?_ (ms 13 1) rfl rfl HT_ (by kernel_rfl) (fun _ _ _ h => h) (by rfl) ?_ ?_ ?_ ?_
   rotate_left
   ·intro w'
    go_simp
    with_reducible rfl
   rotate_left
   ·simp only [SX]
    rfl
   refine pu 1 25 ?_ (ms 13 3) rfl rfl HT_ (by kernel_rfl) (fun _ _ _ h => h) (by rfl) ?_ ?_ ?_ ?_
   rotate_left
   ·intro w'
    go_simp
    with_reducible rfl
   rotate_left
   ·simp only [SX]
    rfl
   refine pu 2 26 ?_ (ms 13 7) rfl rfl HT_ (by kernel_rfl) (fun _ _ _ h => h) (by rfl) ?_ ?_ ?_ ?_
   rotate_left
   ·intro w'
    go_simp
    with_reducible rfl
   rotate_left
   ·simp only [SX]
    rfl
   refine pu 3 27 ?_ (ms 13 15) rfl rfl HT_ (by kernel_rfl) (fun _ _ _ h => h) (by rfl) ?_ ?_ ?_ ?_
   rotate_left
   ·intro w'
    go_simp
    with_reducible rfl
   rotate_left
   ·simp only [SX]
    rfl
   refine pu 5 29 ?_ (ms 13 47) rfl rfl HT_ (by kernel_rfl) (fun _ _ _ h => h) (by rfl) ?_ ?_ ?_ ?_
   rotate_left
   ·intro w'
    go_simp
    with_reducible rfl
   rotate_left
   ·simp only [SX]
    rfl
   refine pu 9 33 ?_ (ms 13 559) rfl rfl HT_ (by kernel_rfl) (fun _ _ _ h => h) (by rfl) ?_ ?_ ?_ ?_
   rotate_left
   ·intro w'
    go_simp
    with_reducible rfl
   rotate_left
   ·simp only [SX]
    rfl
   refine tk 4 28 ?_ (ms 13 575) rfl rfl HT_ HW_ (by kernel_rfl) (fun _ _ _ h => h) (by rfl) ?_ hHeld ?_ ?_ ?_
   rotate_left
   ·rintro w' ⟨s0, s1, s2, s3, s4, s5, s6, s7, s8⟩
    go_simp
    with_reducible rfl
   rotate_left
   ·simp only [SX]
    rfl
   refine pu 6 30 ?_ (ms 13 639) rfl rfl HT_ (by kernel_rfl) (fun _ _ _ h => h) (by rfl) ?_ ?_ ?_ ?_
   rotate_left
   ·intro w'
    go_simp
    with_reducible rfl
   rotate_left
   ·simp only [SX]
    rfl
   refine pu 7 31 ?_ (ms 13 767) rfl rfl HT_ (by kernel_rfl) (fun _ _ _ h => h) (by rfl) ?_ ?_ ?_ ?_
   rotate_left
   ·intro w'
    go_simp
    with_reducible rfl
   rotate_left
   ·simp only [SX]
    rfl
   refine tk 8 32 ?_ (ms 13 1023) rfl rfl HT_ HW_ (by kernel_rfl) (fun _ _ _ h => h) (by rfl) ?_ hHeld ?_ ?_ ?_
   rotate_left
   ·rintro w' ⟨s0, s1, s2, s3, s4, s5, s6, s7, s8⟩
    go_simp
    with_reducible rfl
   rotate_left
   ·simp only [SX]
    rfl
   refine tk 10 34 ?_ (ms 13 2047) rfl rfl HT_ HW_ (by kernel_rfl) (fun _ _ _ h => h) (by rfl) ?_ hHeld ?_ ?_ ?_
   rotate_left
   ·rintro w' ⟨s0, s1, s2, s3, s4, s5, s6, s7, s8⟩
    go_simp
    with_reducible rfl
   rotate_left
   ·simp only [SX]
    rfl
   refine pu 11 35 ?_ (ms 13 4095) rfl rfl HT_ (by kernel_rfl) (fun _ _ _ h => h) (by rfl) ?_ ?_ ?_ ?_
   rotate_left
   ·intro w'
    go_simp
    with_reducible rfl
   rotate_left
   ·simp only [SX]
    rfl
   refine pu 12 36 ?_ (ms 13 8191) rfl rfl HT_ (by kernel_rfl) (fun _ _ _ h => h) (by rfl) ?_ ?_ ?_ ?_
   rotate_left
   ·intro w'
    go_simp
    with_reducible rfl
   rotate_left
   ·simp only [SX]
    rfl
   refine done_ (done_of HT_.out (by kernel_rfl)) ?_
   try go_wp2
   go_meet
   case rel => exact ⟨_, (decide (((rd_T30 l0_2 x8_1).f0) ≥ a1_0)), (by rfl), H', ⟨by have := HK1.out; omega⟩, ⟨rk HO_150001⟩, ⟨rk HO_150002⟩, ⟨bk BK141⟩, ⟨bk BK142⟩, ⟨bk BK143⟩, ⟨bk BK149⟩, ⟨bl4 HB GE141 GE142 GE143 GE149⟩⟩
  clear HC22
  try clear c1
  try clear p1
  try clear q1
  try clear hx1
  try clear c2
  try clear p2
  try clear c4
  try clear c8
  try clear c9
  try clear c10
  try clear p15
  try clear q15
  try clear hx15
  try clear c17
  try clear c18
  try clear c19
  try clear c21
  try clear c21b0
  try clear c22
  try clear c23
  try clear c24
  try clear c25
  try clear c27
  try clear c29
  try clear c29b0
  try clear hcz11_0
  try clear hcz11_1
  try clear hcz11_2
  try clear hcz13_0
  try clear hcz13_1
  try clear hcz13_2
  try clear hcz20_0
  try clear hcz20_1
  try clear hcz20_2
  try clear hcz26_0
  try clear hcz26_1
  try clear hcz26_2
  try clear hfz11_0
  try clear hfz11_1
  try clear hfz11_2
  try clear hfz13_0
  try clear hfz13_1
  try clear hfz13_2
  try clear hfz20_0
  try clear hfz20_1
  try clear hfz20_2
  try clear hfz26_0
  try clear hfz26_1
  try clear hfz26_2
  try clear hx150_0
  try clear hx150_1
  try clear hx150_2
  try clear p150
  try clear p2
  try clear q150
  obtain ⟨kq, x36_21, rfl, HA, HJ21, HO_150001, HO_150002, BK141, BK142, BK143, BK149, HB⟩ := hcut
  cases kq with
  | zero => exact absurd HA.out (by simp [spec_LiveTell.j1])
  | succ kj21 =>
   have H := HA.out
   clear HA
   simp only [spec_LiveTell.j1] at H
   by_cases c31 : x36_21 = true
   rotate_left
   ·replace c31 := Bool.eq_false_iff.mpr c31
    subst c31
    rw [if_neg (show ¬ (false = true) by decide)] at H
    by_cases c65 : 0 ≤ x8_1
    rotate_left
    ·rw [if_neg c65] at H
     exact absurd H (by simp)
    rw [if_pos c65] at H
    have c65b0 : decide (0 ≤ x8_1) = true := decide_eq_true c65
    clear c65
    by_cases c66 : x8_1 < (l0_2.length : Int)
    rotate_left
    ·rw [if_neg c66] at H
     exact absurd H (by simp)
    rw [if_pos c66] at H
    have c66b0 : decide (x8_1 < (l0_2.length : Int)) = true := decide_eq_true c66
    clear c66
    by_cases c67 : ((rd_T30 l0_2 x8_1).f0) = a1_0
    ·rw [if_pos c67] at H
     have c67b0 : (((rd_T30 l0_2 x8_1).f0) == a1_0) = true := beq_iff_eq.mpr c67
     have c67b1 : (((rd_T30 l0_2 x8_1).f0) != a1_0) = false := bne_eq_false_iff_eq.mpr c67
     clear c67
     have H' := ak H
     clear H
     try go_wp2
     replace HO_150001 := ak (Kd.R_drew HO_150001.out)
     replace HO_150002 := ak (Kd.R_drew HO_150002.out)
     replace BK141 := ak (blk_drew BK141.out)
     replace BK142 := ak (blk_drew BK142.out)
     replace BK143 := ak (blk_drew BK143.out)
     replace BK149 := ak (blk_drew BK149.out)
     replace HB := ak (below_drew1 HB.out)
     have p159 : 0 ≤ (x8_1 : Int) := oT (by (with_reducible assumption))
     have q159 : x8_1 < (l0_2.length : Int) := oT (by (with_reducible assumption))
     obtain ⟨ad159, e159, hx159_0, hx159_1, hx159_2⟩ := at_T30 HR0_2.out x8_1 p159 q159
     have hw159_2 := hx159_2
     have hw159_1 := hx159_1
     have hw159_0 := hx159_0
     cases e159
     replace hx159_0 := hcb HB.out hx159_0
     replace hx159_1 := hcb HB.out hx159_1
     replace hx159_2 := hcb HB.out hx159_2
     replace p159 := eq_true p159
     replace q159 := eq_true q159
     refine start_ (n := 9) (S := fun w' => w'.cell? ⟨gb141, 0, none⟩ = some (.int .i64 a0_0) ∧ w'.cell? ⟨gb141, 1, none⟩ = some (.slice A0_1 l0_1.length c0_1) ∧ w'.cell? ⟨gb141, 2, none⟩ = some (.slice (some ad159) l0_2.length c0_2) ∧ w'.cell? ⟨gb142, 0, none⟩ = some (.int .i64 a1_0) ∧ w'.cell? ⟨gb142, 1, none⟩ = some (.int .i64 a1_1) ∧ w'.cell? ⟨gb142, 2, none⟩ = some (.int .i64 a1_2) ∧ w'.cell? (ad159.add ((x8_1).toNat * 3)) = some (.int .i64 ((rd_T30 l0_2 x8_1).f0)) ∧ w'.cell? ⟨(ad159.add ((x8_1).toNat * 3)).block, (ad159.add ((x8_1).toNat * 3)).off + 1, none⟩ = some (.int .i64 ((rd_T30 l0_2 x8_1).f1)) ∧ w'.cell? ⟨(ad159.add ((x8_1).toNat * 3)).block, (ad159.add ((x8_1).toNat * 3)).off + 2, none⟩ = some (.int .i64 ((rd_T30 l0_2 x8_1).f2))) (ds := []) (ms 9 0) (by kernel_rfl) rfl (by kernel_rfl) ⟨(blk_cell BK141.out 0).trans rfl, (blk_cell BK141.out 1).trans rfl, (blk_cell BK141.out 2).trans rfl, (blk_cell BK142.out 0).trans rfl, (blk_cell BK142.out 1).trans rfl, (blk_cell BK142.out 2).trans rfl, ((HB.out.cell (World.block_lt_of_cell? w _ hw159_0)).trans hw159_0), ((HB.out.cell (World.block_lt_of_cell? w _ hw159_1)).trans hw159_1), ((HB.out.cell (World.block_lt_of_cell? w _ hw159_2)).trans hw159_2)⟩ (fun hHeld => ?_); refine with_tabW spec_LiveTell.tab11 spec_LiveTell.bits11 (fun HT_ HW_ => ?_)
     generalize wc.drew = w68 at HO_150001 HO_150002 BK141 BK142 BK143 BK149 HB hx159_0 hx159_1 hx159_2 hHeld ⊢
     refine pu 0 43 ?_ (ms 9 1) rfl rfl HT_ (by kernel_rfl) (fun _ _ _ h => h) (by rfl) ?_ ?_ ?_ ?_
     rotate_left
     ·intro w'
      go_simp
      with_reducible rfl
     rotate_left
     ·simp only [SX]
      rfl
     refine pu 2 45 ?_ (ms 9 5) rfl rfl HT_ (by kernel_rfl) (fun _ _ _ h => h) (by rfl) ?_ ?_ ?_ ?_
     rotate_left
     ·intro w'
      go_simp
      with_reducible rfl
     rotate_left
     ·simp only [SX]
      rfl
     refine pu 6 49 ?_ (ms 9 69) rfl rfl HT_ (by kernel_rfl) (fun _ _ _ h => h) (by rfl) ?_ ?_ ?_ ?_
     rotate_left
     ·intro w'
      go_simp
      with_reducible rfl
     rotate_left
     ·simp only [SX]
      rfl
     refine tk 1 44 ?_ (ms 9 71) rfl rfl HT_ HW_ (by kernel_rfl) (fun _ _ _ h => h) (by rfl) ?_ hHeld ?_ ?_ ?_
     rotate_left
     ·rintro w' ⟨s0, s1, s2, s3, s4, s5, s6, s7, s8⟩
      go_simp
      with_reducible rfl
     rotate_left
     ·simp only [SX]
      rfl
     refine pu 3 46 ?_ (ms 9 79) rfl rfl HT_ (by kernel_rfl) (fun _ _ _ h => h) (by rfl) ?_ ?_ ?_ ?_
     rotate_left
     ·intro w'
      go_simp
      with_reducible rfl
     rotate_left
     ·simp only [SX]
      rfl
     refine pu 4 47 ?_ (ms 9 95) rfl rfl HT_ (by kernel_rfl) (fun _ _ _ h => h) (by rfl) ?_ ?_ ?_ ?_
     rotate_left
     ·intro w'
      go_simp
      with_reducible rfl
     rotate_left
     ·simp only [SX]
      rfl
     refine tk 5 48 ?_ (ms 9 127) rfl rfl HT_ HW_ (by kernel_rfl) (fun _ _ _ h => h) (by rfl) ?_ hHeld ?_ ?_ ?_
     rotate_left
     ·rintro w' ⟨s0, s1, s2, s3, s4, s5, s6, s7, s8⟩
      go_simp
      with_reducible rfl
     rotate_left
     ·simp only [SX]
      rfl
     refine tk 7 50 ?_ (ms 9 255) rfl rfl HT_ HW_ (by kernel_rfl) (fun _ _ _ h => h) (by rfl) ?_ hHeld ?_ ?_ ?_
     rotate_left
     ·rintro w' ⟨s0, s1, s2, s3, s4, s5, s6, s7, s8⟩
      go_simp
      with_reducible rfl
     rotate_left
     ·simp only [SX]
      rfl
     refine pu 8 51 ?_ (ms 9 511) rfl rfl HT_ (by kernel_rfl) (fun _ _ _ h => h) (by rfl) ?_ ?_ ?_ ?_
     rotate_left
     ·intro w'
      go_simp
      with_reducible rfl
     rotate_left
     ·simp only [SX]
      rfl
     refine done_ (done_of HT_.out (by kernel_rfl)) ?_
     try go_wp2
     go_roundg kj21
     case measure => have := HK1.out; have := HJ21.out; omega
     case rel => exact ⟨(x7_1), (wrap64 (x8_1 + 1)), (x150002_1), (u150002), (by rfl), (by rfl), H', ⟨by have := HK1.out; have := HJ21.out; omega⟩, ⟨rk HO_150001⟩, ⟨rk HO_150002⟩, ⟨bk BK141⟩, ⟨bk BK142⟩, ⟨bk BK143⟩, ⟨bk BK149⟩, ⟨bl4 HB GE141 GE142 GE143 GE149⟩⟩
    rw [if_neg c67] at H
    have c67b0 : (((rd_T30 l0_2 x8_1).f0) == a1_0) = false := beq_eq_false_iff_ne.mpr c67
    have c67b1 : (((rd_T30 l0_2 x8_1).f0) != a1_0) = true := bne_iff_ne.mpr c67
    by_cases c69 : x150002_1.length < 5864062014805
    rotate_left
    ·rw [if_neg c69] at H
     exact absurd H (by simp)
    rw [if_pos c69] at H
    have LMc69 := ak c69
    clear c69
    obtain ⟨y161, hy161⟩ : ∃ y_ : List (S30), y_ = (x150002_1 ++ [(⟨(rd_T30 l0_2 x8_1).f0, (rd_T30 l0_2 x8_1).f1, (rd_T30 l0_2 x8_1).f2⟩ : S30)]) := ⟨_, rfl⟩
    replace H : (spec_LiveTell.l0 kj21 x7_1 (wrap64 (x8_1 + 1)) a0_0 l0_1 l0_2 a1_0 a1_1 a1_2 t145 t146 y161) = some (r1, r2, r3, r4) := by (rw [hy161]; with_reducible exact H)
    have Ny161 := ak hy161
    clear hy161
    have H' := ak H
    clear H
    try go_wp2
    replace HO_150001 := ak (Kd.R_drew HO_150001.out)
    replace HO_150002 := ak (Kd.R_drew HO_150002.out)
    replace BK141 := ak (blk_drew BK141.out)
    replace BK142 := ak (blk_drew BK142.out)
    replace BK143 := ak (blk_drew BK143.out)
    replace BK149 := ak (blk_drew BK149.out)
    replace HB := ak (below_drew1 HB.out)
    have p159 : 0 ≤ (x8_1 : Int) := oT (by (with_reducible assumption))
    have q159 : x8_1 < (l0_2.length : Int) := oT (by (with_reducible assumption))
    obtain ⟨ad159, e159, hx159_0, hx159_1, hx159_2⟩ := at_T30 HR0_2.out x8_1 p159 q159
    have hw159_2 := hx159_2
    have hw159_1 := hx159_1
    have hw159_0 := hx159_0
    cases e159
    replace hx159_0 := hcb HB.out hx159_0
    replace hx159_1 := hcb HB.out hx159_1
    replace hx159_2 := hcb HB.out hx159_2
    replace p159 := eq_true p159
    replace q159 := eq_true q159
    refine start_ (n := 9) (S := fun w' => w'.cell? ⟨gb141, 0, none⟩ = some (.int .i64 a0_0) ∧ w'.cell? ⟨gb141, 1, none⟩ = some (.slice A0_1 l0_1.length c0_1) ∧ w'.cell? ⟨gb141, 2, none⟩ = some (.slice (some ad159) l0_2.length c0_2) ∧ w'.cell? ⟨gb142, 0, none⟩ = some (.int .i64 a1_0) ∧ w'.cell? ⟨gb142, 1, none⟩ = some (.int .i64 a1_1) ∧ w'.cell? ⟨gb142, 2, none⟩ = some (.int .i64 a1_2) ∧ w'.cell? (ad159.add ((x8_1).toNat * 3)) = some (.int .i64 ((rd_T30 l0_2 x8_1).f0)) ∧ w'.cell? ⟨(ad159.add ((x8_1).toNat * 3)).block, (ad159.add ((x8_1).toNat * 3)).off + 1, none⟩ = some (.int .i64 ((rd_T30 l0_2 x8_1).f1)) ∧ w'.cell? ⟨(ad159.add ((x8_1).toNat * 3)).block, (ad159.add ((x8_1).toNat * 3)).off + 2, none⟩ = some (.int .i64 ((rd_T30 l0_2 x8_1).f2))) (ds := []) (ms 9 0) (by kernel_rfl) rfl (by kernel_rfl) ⟨(blk_cell BK141.out 0).trans rfl, (blk_cell BK141.out 1).trans rfl, (blk_cell BK141.out 2).trans rfl, (blk_cell BK142.out 0).trans rfl, (blk_cell BK142.out 1).trans rfl, (blk_cell BK142.out 2).trans rfl, ((HB.out.cell (World.block_lt_of_cell? w _ hw159_0)).trans hw159_0), ((HB.out.cell (World.block_lt_of_cell? w _ hw159_1)).trans hw159_1), ((HB.out.cell (World.block_lt_of_cell? w _ hw159_2)).trans hw159_2)⟩ (fun hHeld => ?_); refine with_tabW spec_LiveTell.tab11 spec_LiveTell.bits11 (fun HT_ HW_ => ?_)
    generalize wc.drew = w70 at HO_150001 HO_150002 BK141 BK142 BK143 BK149 HB hx159_0 hx159_1 hx159_2 hHeld ⊢
    refine pu 0 43 ?_ (ms 9 1) rfl rfl HT_ (by kernel_rfl) (fun _ _ _ h => h) (by rfl) ?_ ?_ ?_ ?_
    rotate_left
    ·intro w'
     go_simp
     with_reducible rfl
    rotate_left
    ·simp only [SX]
     rfl
    refine pu 2 45 ?_ (ms 9 5) rfl rfl HT_ (by kernel_rfl) (fun _ _ _ h => h) (by rfl) ?_ ?_ ?_ ?_
    rotate_left
    ·intro w'
     go_simp
     with_reducible rfl
    rotate_left
    ·simp only [SX]
     rfl
    refine pu 6 49 ?_ (ms 9 69) rfl rfl HT_ (by kernel_rfl) (fun _ _ _ h => h) (by rfl) ?_ ?_ ?_ ?_
    rotate_left
    ·intro w'
     go_simp
     with_reducible rfl
    rotate_left
    ·simp only [SX]
     rfl
    refine tk 1 44 ?_ (ms 9 71) rfl rfl HT_ HW_ (by kernel_rfl) (fun _ _ _ h => h) (by rfl) ?_ hHeld ?_ ?_ ?_
    rotate_left
    ·rintro w' ⟨s0, s1, s2, s3, s4, s5, s6, s7, s8⟩
     go_simp
     with_reducible rfl
    rotate_left
    ·simp only [SX]
     rfl
    refine pu 3 46 ?_ (ms 9 79) rfl rfl HT_ (by kernel_rfl) (fun _ _ _ h => h) (by rfl) ?_ ?_ ?_ ?_
    rotate_left
    ·intro w'
     go_simp
     with_reducible rfl
    rotate_left
    ·simp only [SX]
     rfl
    refine pu 4 47 ?_ (ms 9 95) rfl rfl HT_ (by kernel_rfl) (fun _ _ _ h => h) (by rfl) ?_ ?_ ?_ ?_
    rotate_left
    ·intro w'
     go_simp
     with_reducible rfl
    rotate_left
    ·simp only [SX]
     rfl
    refine tk 5 48 ?_ (ms 9 127) rfl rfl HT_ HW_ (by kernel_rfl) (fun _ _ _ h => h) (by rfl) ?_ hHeld ?_ ?_ ?_
    rotate_left
    ·rintro w' ⟨s0, s1, s2, s3, s4, s5, s6, s7, s8⟩
     go_simp
     with_reducible rfl
    rotate_left
    ·simp only [SX]
     rfl
    refine tk 7 50 ?_ (ms 9 255) rfl rfl HT_ HW_ (by kernel_rfl) (fun _ _ _ h => h) (by rfl) ?_ hHeld ?_ ?_ ?_
    rotate_left
    ·rintro w' ⟨s0, s1, s2, s3, s4, s5, s6, s7, s8⟩
     go_simp
     with_reducible rfl
    rotate_left
    ·simp only [SX]
     rfl
    refine pu 8 51 ?_ (ms 9 511) rfl rfl HT_ (by kernel_rfl) (fun _ _ _ h => h) (by rfl) ?_ ?_ ?_ ?_
    rotate_left
    ·intro w'
     go_simp
     with_reducible rfl
    rotate_left
    ·simp only [SX]
     rfl
    refine done_ (done_of HT_.out (by kernel_rfl)) ?_
    try go_wp2
    replace HO_150001 := ak (Kd.R_drew HO_150001.out)
    replace HO_150002 := ak (Kd.R_drew HO_150002.out)
    replace BK141 := ak (blk_drew BK141.out)
    replace BK142 := ak (blk_drew BK142.out)
    replace BK143 := ak (blk_drew BK143.out)
    replace BK149 := ak (blk_drew BK149.out)
    replace HB := ak (below_drew1 HB.out)
    have p160 : 0 ≤ (x8_1 : Int) := oT (by (with_reducible assumption))
    have q160 : x8_1 < (l0_2.length : Int) := oT (by (with_reducible assumption))
    obtain ⟨ad160, e160, hx160_0, hx160_1, hx160_2⟩ := at_T30 HR0_2.out x8_1 p160 q160
    have hw160_2 := hx160_2
    have hw160_1 := hx160_1
    have hw160_0 := hx160_0
    obtain rfl : ad159 = ad160 := (by injection e160)
    replace hx160_0 := hcb HB.out hx160_0
    replace hx160_1 := hcb HB.out hx160_1
    replace hx160_2 := hcb HB.out hx160_2
    replace p160 := eq_true p160
    replace q160 := eq_true q160
    refine start_ (n := 11) (S := fun w' => w'.cell? ⟨gb149, 0, none⟩ = some (.int .i64 t145) ∧ w'.cell? ⟨gb149, 1, none⟩ = some (.slice Ao15 t146.length co15) ∧ w'.cell? ⟨gb149, 2, none⟩ = some (u150002) ∧ w'.cell? ⟨gb141, 0, none⟩ = some (.int .i64 a0_0) ∧ w'.cell? ⟨gb141, 1, none⟩ = some (.slice A0_1 l0_1.length c0_1) ∧ w'.cell? ⟨gb141, 2, none⟩ = some (.slice (some ad159) l0_2.length c0_2) ∧ w'.cell? (ad159.add ((x8_1).toNat * 3)) = some (.int .i64 ((rd_T30 l0_2 x8_1).f0)) ∧ w'.cell? ⟨(ad159.add ((x8_1).toNat * 3)).block, (ad159.add ((x8_1).toNat * 3)).off + 1, none⟩ = some (.int .i64 ((rd_T30 l0_2 x8_1).f1)) ∧ w'.cell? ⟨(ad159.add ((x8_1).toNat * 3)).block, (ad159.add ((x8_1).toNat * 3)).off + 2, none⟩ = some (.int .i64 ((rd_T30 l0_2 x8_1).f2))) (ds := [10]) (ms 11 0) (by kernel_rfl) rfl (by kernel_rfl) ⟨(blk_cell BK149.out 0).trans rfl, (blk_cell BK149.out 1).trans rfl, (blk_cell BK149.out 2).trans rfl, (blk_cell BK141.out 0).trans rfl, (blk_cell BK141.out 1).trans rfl, (blk_cell BK141.out 2).trans rfl, ((HB.out.cell (World.block_lt_of_cell? w _ hw160_0)).trans hw160_0), ((HB.out.cell (World.block_lt_of_cell? w _ hw160_1)).trans hw160_1), ((HB.out.cell (World.block_lt_of_cell? w _ hw160_2)).trans hw160_2)⟩ (fun hHeld => ?_); refine with_tabW spec_LiveTell.tab12 spec_LiveTell.bits12 (fun HT_ HW_ => ?_)
    generalize w70.drew = w71 at HO_150001 HO_150002 BK141 BK142 BK143 BK149 HB hx160_0 hx160_1 hx160_2 hHeld ⊢
    refine pu 0 52 ?_ (ms 11 1) rfl rfl HT_ (by kernel_rfl) (fun _ _ _ h => h) (by rfl) ?_ ?_ ?_ ?_
    rotate_left
    ·intro w'
     go_simp
     with_reducible rfl
    rotate_left
    ·simp only [SX]
     rfl
    refine pu 2 54 ?_ (ms 11 5) rfl rfl HT_ (by kernel_rfl) (fun _ _ _ h => h) (by rfl) ?_ ?_ ?_ ?_
    rotate_left
    ·intro w'
     go_simp
     with_reducible rfl
    rotate_left
    ·simp only [SX]
     rfl
    refine pu 4 56 ?_ (ms 11 21) rfl rfl HT_ (by kernel_rfl) (fun _ _ _ h => h) (by rfl) ?_ ?_ ?_ ?_
    rotate_left
    ·intro w'
     go_simp
     with_reducible rfl
    rotate_left
    ·simp only [SX]
     rfl
    refine tk 1 53 ?_ (ms 11 23) rfl rfl HT_ HW_ (by kernel_rfl) (fun _ _ _ h => h) (by rfl) ?_ hHeld ?_ ?_ ?_
    rotate_left
    ·rintro w' ⟨s0, s1, s2, s3, s4, s5, s6, s7, s8⟩
     go_simp
     with_reducible rfl
    rotate_left
    ·simp only [SX]
     rfl
    refine tk 3 55 ?_ (ms 11 31) rfl rfl HT_ HW_ (by kernel_rfl) (fun _ _ _ h => h) (by rfl) ?_ hHeld ?_ ?_ ?_
    rotate_left
    ·rintro w' ⟨s0, s1, s2, s3, s4, s5, s6, s7, s8⟩
     go_simp
     with_reducible rfl
    rotate_left
    ·simp only [SX]
     rfl
    refine pu 5 57 ?_ (ms 11 63) rfl rfl HT_ (by kernel_rfl) (fun _ _ _ h => h) (by rfl) ?_ ?_ ?_ ?_
    rotate_left
    ·intro w'
     go_simp
     with_reducible rfl
    rotate_left
    ·simp only [SX]
     rfl
    refine tk 6 58 ?_ (ms 11 127) rfl rfl HT_ HW_ (by kernel_rfl) (fun _ _ _ h => h) (by rfl) ?_ hHeld ?_ ?_ ?_
    rotate_left
    ·rintro w' ⟨s0, s1, s2, s3, s4, s5, s6, s7, s8⟩
     go_simp
     with_reducible rfl
    rotate_left
    ·simp only [SX]
     rfl
    refine one_ (i := 7) (N := some 59) (ms 11 255) rfl rfl (one_of HT_.out (by kernel_rfl)) (by decide) (fun K hK => ?_)
    refine value_ (w1 := ?_) (v := ?_) (by rfl) rfl ?_ ?_
    rotate_left 2
    ·go_simp
     constructor
     rotate_left
     ·rfl
     rfl
    refine hK.out _ _ ⟨(blk_cell (blk_alloc BK149.out _) 0).trans rfl, (blk_cell (blk_alloc BK149.out _) 1).trans rfl, (blk_cell (blk_alloc BK149.out _) 2).trans rfl, (blk_cell (blk_alloc BK141.out _) 0).trans rfl, (blk_cell (blk_alloc BK141.out _) 1).trans rfl, (blk_cell (blk_alloc BK141.out _) 2).trans rfl, (World.cell?_alloc_lt _ _ _ (World.block_lt_of_cell? _ _ (((HB.out.cell (World.block_lt_of_cell? w _ hw160_0)).trans hw160_0)))).trans (((HB.out.cell (World.block_lt_of_cell? w _ hw160_0)).trans hw160_0)), (World.cell?_alloc_lt _ _ _ (World.block_lt_of_cell? _ _ (((HB.out.cell (World.block_lt_of_cell? w _ hw160_1)).trans hw160_1)))).trans (((HB.out.cell (World.block_lt_of_cell? w _ hw160_1)).trans hw160_1)), (World.cell?_alloc_lt _ _ _ (World.block_lt_of_cell? _ _ (((HB.out.cell (World.block_lt_of_cell? w _ hw160_2)).trans hw160_2)))).trans (((HB.out.cell (World.block_lt_of_cell? w _ hw160_2)).trans hw160_2))⟩ (fun hHeld => ?_)
    clear hK K
    refine norm_ (a' := ?_) ?_ ?_
    rotate_left
    ·show Act.put _ (some 59) _ = _
     simp only [SX]
     rfl
    refine one_ (i := 8) (N := some 60) (ms 11 511) rfl rfl (one_of HT_.out (by kernel_rfl)) (by decide) (fun K hK => ?_)
    refine Kd.R_append_step k30 (w0 := w) w.heap.size (by rfl) (.tmp 53) (.tmp 59) 26 30 (.agg #[(.int .i64 0), (.int .i64 0), (.int .i64 0)]) 24 rfl Try.underlying26 info30 rfl (by decide) (by omega) u150002 x150002_1 (⟨(rd_T30 l0_2 x8_1).f0, (rd_T30 l0_2 x8_1).f1, (rd_T30 l0_2 x8_1).f2⟩ : S30) [.int .i64 ((rd_T30 l0_2 x8_1).f0), .int .i64 ((rd_T30 l0_2 x8_1).f1), .int .i64 ((rd_T30 l0_2 x8_1).f2)] (fun k_ => k_ ≠ gb142) (fun _ => False) rfl rfl ?aP (fun _ hk => hk.elim) ?aF ?aO ?aB ?aS ?aL ?_
    (case aP => exact k30_mkM _ _ _ (⟨(rd_T30 l0_2 x8_1).f0, (rd_T30 l0_2 x8_1).f1, (rd_T30 l0_2 x8_1).f2⟩ : S30))
    (case aB => exact (bl4 HB GE141 GE142 GE143 GE149))
    (case aF => exact (fun k_ hk => Kd.freshB (bk BK142) k_ hk))
    (case aO => exact (rk HO_150002))
    (case aS => exact (below_size (bl4 HB GE141 GE142 GE143 GE149)))
    (case aL => have := LMc69.out; omega)
    intro v162 w72 ho hb hg hat
    rw [← Ny161.out] at ho
    have n0_ := ak (Kd.R_over' (rk HO_150001) (Kd.R_typed (rk HO_150002)) (by decide) hg)
    have n1_ := ak (blk_grown (bk BK141) hg (Kd.R_ne HO_150002.out BK141.out (by decide)))
    have n2_ := ak (blk_grown (bk BK142) hg (Kd.R_away HO_150002.out (fun _ hk => hk)))
    have n3_ := ak (blk_grown (bk BK143) hg (Kd.R_ne HO_150002.out BK143.out (by decide)))
    have n4_ := ak (blk_grown (bk BK149) hg (Kd.R_ne HO_150002.out BK149.out (by decide)))
    have n5_ := ak (hb)
    have n6_ := ak (ho)
    clear HO_150001
    clear BK141
    clear BK142
    clear BK143
    clear BK149
    clear HB
    clear HO_150002
    have HO_150001 := n0_
    have BK141 := n1_
    have BK142 := n2_
    have BK143 := n3_
    have BK149 := n4_
    have HB := n5_
    have HO163 := n6_
    clear n0_ n1_ n2_ n3_ n4_ n5_ n6_
    clear ho hb hg hat
    obtain ⟨Ao73, co73, eo73⟩ := Kd.R_slice HO163.out
    (subst eo73)
    refine hK.out _ _ ⟨(blk_cell BK149.out 0).trans rfl, (blk_cell BK149.out 1).trans rfl, (blk_cell BK149.out 2).trans rfl, (blk_cell BK141.out 0).trans rfl, (blk_cell BK141.out 1).trans rfl, (blk_cell BK141.out 2).trans rfl, ((HB.out.cell (World.block_lt_of_cell? w _ hw160_0)).trans hw160_0), ((HB.out.cell (World.block_lt_of_cell? w _ hw160_1)).trans hw160_1), ((HB.out.cell (World.block_lt_of_cell? w _ hw160_2)).trans hw160_2)⟩ (fun hHeld => ?_)
    clear hK K
    refine norm_ (a' := ?_) ?_ ?_
    rotate_left
    ·show Act.put _ (some 60) _ = _
     simp only [SX]
     rfl
    refine pu 9 61 ?_ (ms 11 1023) rfl rfl HT_ (by kernel_rfl) (fun _ _ _ h => h) (by rfl) ?_ ?_ ?_ ?_
    rotate_left
    ·intro w'
     go_simp
     with_reducible rfl
    rotate_left
    ·simp only [SX]
     rfl
    refine last_ (i := 10) (N := none) (ms 11 2047) rfl rfl (one_of HT_.out (by kernel_rfl)) (by decide) (fun K hK => ?_)
    have hs74 : w72.cell? ⟨gb149, 2, none⟩ = some (u150002) := (blk_cell BK149.out 2).trans rfl
    have hfs74 := blk_frozen BK149.out 2
    have hns74_0 := NB141_149.out
    have hns74_1 := NB142_149.out
    have hns74_2 := NB143_149.out
    have hms74_0 := NB149_141.out
    have hms74_1 := NB149_142.out
    have hms74_2 := NB149_143.out
    refine skip_ (w1 := ?_) (by rfl) rfl ?_ ?_
    rotate_left
    ·go_simp
     rfl
    refine hK.out _ _ ?_
    clear hK K
    refine done_ (done_of HT_.out (by kernel_rfl)) ?_
    try go_wp2
    go_roundg kj21
    case measure => have := HK1.out; have := HJ21.out; omega
    case rel => exact ⟨(x7_1), (wrap64 (x8_1 + 1)), (y161), (.slice Ao73 y161.length co73), (by rfl), (by rfl), H', ⟨by have := HK1.out; have := HJ21.out; omega⟩, ⟨by exact Kd.R_mono (Kd.R_far (p := ⟨gb149, 2, none⟩) (Kd.R_types HO_150001.out BK149.out (by decide)) (fun _ hk => hk.2) (.slice Ao73 y161.length co73)) (fun _ hk => trivial)⟩, ⟨by exact Kd.R_mono (Kd.R_far (p := ⟨gb149, 2, none⟩) (Kd.R_types HO163.out BK149.out (by decide)) (fun _ hk => hk.2) (.slice Ao73 y161.length co73)) (fun _ hk => hk.1)⟩, ⟨by refine blk_far ?_ NB141_149.out _; exact BK141.out⟩, ⟨by refine blk_far ?_ NB142_149.out _; exact BK142.out⟩, ⟨by refine blk_far ?_ NB143_149.out _; exact BK143.out⟩, ⟨by refine blk_put (cs := #[.int .i64 t145, .slice Ao15 t146.length co15, u150002]) ?_ 2 _ rfl; exact BK149.out⟩, ⟨bl4 HB GE141 GE142 GE143 GE149⟩⟩
   subst c31
   rw [if_pos rfl] at H
   by_cases c32 : x150002_1.length < 5864062014805
   rotate_left
   ·rw [if_neg c32] at H
    exact absurd H (by simp)
   rw [if_pos c32] at H
   have LMc32 := ak c32
   clear c32
   obtain ⟨y151, hy151⟩ : ∃ y_ : List (S30), y_ = (x150002_1 ++ [(⟨a1_0, a1_1, a1_2⟩ : S30)]) := ⟨_, rfl⟩
   replace H : (if 0 ≤ x8_1 then (if x8_1 < (l0_2.length : Int) then (if ((rd_T30 l0_2 x8_1).f0) = a1_0 then (spec_LiveTell.l0 kj21 true (wrap64 (x8_1 + 1)) a0_0 l0_1 l0_2 a1_0 a1_1 a1_2 t145 t146 y151) else (if y151.length < 5864062014805 then (spec_LiveTell.l0 kj21 true (wrap64 (x8_1 + 1)) a0_0 l0_1 l0_2 a1_0 a1_1 a1_2 t145 t146 (y151 ++ [(⟨(rd_T30 l0_2 x8_1).f0, (rd_T30 l0_2 x8_1).f1, (rd_T30 l0_2 x8_1).f2⟩ : S30)])) else (none))) else (none)) else (none)) = some (r1, r2, r3, r4) := by (have H2_ := (Option.bind_some _ _).symm.trans H; rw [hy151]; with_reducible exact H2_)
   have Ny151 := ak hy151
   clear hy151
   by_cases c33 : 0 ≤ x8_1
   rotate_left
   ·rw [if_neg c33] at H
    exact absurd H (by simp)
   rw [if_pos c33] at H
   have c33b0 : decide (0 ≤ x8_1) = true := decide_eq_true c33
   clear c33
   by_cases c34 : x8_1 < (l0_2.length : Int)
   rotate_left
   ·rw [if_neg c34] at H
    exact absurd H (by simp)
   rw [if_pos c34] at H
   have c34b0 : decide (x8_1 < (l0_2.length : Int)) = true := decide_eq_true c34
   clear c34
   by_cases c35 : ((rd_T30 l0_2 x8_1).f0) = a1_0
   ·rw [if_pos c35] at H
    have c35b0 : (((rd_T30 l0_2 x8_1).f0) == a1_0) = true := beq_iff_eq.mpr c35
    have c35b1 : (((rd_T30 l0_2 x8_1).f0) != a1_0) = false := bne_eq_false_iff_eq.mpr c35
    clear c35
    have H' := ak H
    clear H
    have hnb36 := NB149_141.out
    have hnc36 := NB141_149.out
    have hnb37 := NB149_142.out
    have hnc37 := NB142_149.out
    have hnb38 := NB149_143.out
    have hnc38 := NB143_149.out
    have hcz39_0 := bc wc BK149 0 (.int .i64 t145) rfl
    have hcz39_1 := bc wc BK149 1 (.slice Ao15 t146.length co15) rfl
    have hcz39_2 := bc wc BK149 2 (u150002) rfl
    have hfz39_0 := fz BK149 0
    have hfz39_1 := fz BK149 1
    have hfz39_2 := fz BK149 2
    have hnb40 := NB142_141.out
    have hnc40 := NB141_142.out
    have hnb41 := NB142_143.out
    have hnc41 := NB143_142.out
    have hcz42_0 := bc wc BK142 0 (.int .i64 a1_0) rfl
    have hcz42_1 := bc wc BK142 1 (.int .i64 a1_1) rfl
    have hcz42_2 := bc wc BK142 2 (.int .i64 a1_2) rfl
    have hfz42_0 := fz BK142 0
    have hfz42_1 := fz BK142 1
    have hfz42_2 := fz BK142 2
    try go_wp2_with (((with_reducible refine gate_builtin (b := .append) (xs := #[.tmp 38, .tmp 40]) rfl ?_); at_builtin; refine Kd.R_append k30 (w0 := w) w.heap.size rfl (.tmp 38) (.tmp 40) 26 30 (.agg #[(.int .i64 0), (.int .i64 0), (.int .i64 0)]) 24 rfl Try.underlying26 info30 rfl (by decide) (by omega) u150002 x150002_1 (⟨a1_0, a1_1, a1_2⟩ : S30) [.int .i64 a1_0, .int .i64 a1_1, .int .i64 a1_2] (fun k_ => k_ ≠ gb142) (fun _ => False) rfl rfl ?aP (fun _ hk => hk.elim) ?aF ?aO ?aB ?aS ?aL ?_; (case aP => exact k30_mkM _ _ _ (⟨a1_0, a1_1, a1_2⟩ : S30)); (case aB => exact (bl4 HB GE141 GE142 GE143 GE149)); (case aF => exact (fun k_ hk => Kd.freshB (bk BK142) k_ hk)); (case aO => exact (rk HO_150002)); (case aS => exact (below_size (bl4 HB GE141 GE142 GE143 GE149))); (case aL => have := LMc32.out; omega); intro v152 w43 ho hb hg hat; rw [← Ny151.out] at ho; have n0_ := ak (Kd.R_over' (rk HO_150001) (Kd.R_typed (rk HO_150002)) (by decide) hg); have n1_ := ak (blk_grown (bk BK141) hg (Kd.R_ne HO_150002.out BK141.out (by decide))); have n2_ := ak (blk_grown (bk BK142) hg (Kd.R_away HO_150002.out (fun _ hk => hk))); have n3_ := ak (blk_grown (bk BK143) hg (Kd.R_ne HO_150002.out BK143.out (by decide))); have n4_ := ak (blk_grown (bk BK149) hg (Kd.R_ne HO_150002.out BK149.out (by decide))); have n5_ := ak (hb); have n6_ := ak (ho); clear HO_150001; clear BK141; clear BK142; clear BK143; clear BK149; clear HB; clear HO_150002; have HO_150001 := n0_; have BK141 := n1_; have BK142 := n2_; have BK143 := n3_; have BK149 := n4_; have HB := n5_; have HO153 := n6_; clear n0_ n1_ n2_ n3_ n4_ n5_ n6_; clear ho hb hg hat; obtain ⟨Ao44, co44, eo44⟩ := Kd.R_slice HO153.out; subst eo44; have hcz45_0 := bc w43 BK149 0 (.int .i64 t145) rfl; have hcz45_1 := bc w43 BK149 1 (.slice Ao15 t146.length co15) rfl; have hcz45_2 := bc w43 BK149 2 (u150002) rfl; have hfz45_0 := fz BK149 0; have hfz45_1 := fz BK149 1; have hfz45_2 := fz BK149 2))
    have n0_ : Aside0 (Kd.R k65 65 (w43.setCell ⟨gb149, 2, none⟩ (.slice Ao44 y151.length co44)) w.heap.size (fun _ => True) (.slice Ao15 t146.length co15) t146) := ⟨by exact Kd.R_mono (Kd.R_far (p := ⟨gb149, 2, none⟩) (Kd.R_types HO_150001.out BK149.out (by decide)) (fun _ hk => hk.2) (.slice Ao44 y151.length co44)) (fun _ hk => trivial)⟩
    have n1_ : Aside0 (Kd.R k30 30 (w43.setCell ⟨gb149, 2, none⟩ (.slice Ao44 y151.length co44)) w.heap.size (fun k_ => k_ ≠ gb142) (.slice Ao44 y151.length co44) y151) := ⟨by exact Kd.R_mono (Kd.R_far (p := ⟨gb149, 2, none⟩) (Kd.R_types HO153.out BK149.out (by decide)) (fun _ hk => hk.2) (.slice Ao44 y151.length co44)) (fun _ hk => hk.1)⟩
    have n2_ : Aside0 ((w43.setCell ⟨gb149, 2, none⟩ (.slice Ao44 y151.length co44)).heap[gb141]? = some (.cells #[.int .i64 a0_0, .slice A0_1 l0_1.length c0_1, .slice A0_2 l0_2.length c0_2] 28 (0, 0))) := ⟨by refine blk_far ?_ NB141_149.out _; exact BK141.out⟩
    have n3_ : Aside0 ((w43.setCell ⟨gb149, 2, none⟩ (.slice Ao44 y151.length co44)).heap[gb142]? = some (.cells #[.int .i64 a1_0, .int .i64 a1_1, .int .i64 a1_2] 30 (0, 0))) := ⟨by refine blk_far ?_ NB142_149.out _; exact BK142.out⟩
    have n4_ : Aside0 ((w43.setCell ⟨gb149, 2, none⟩ (.slice Ao44 y151.length co44)).heap[gb143]? = some (.cells #[.int .i64 0, .slice none 0 0, .slice none 0 0] 28 (0, 0))) := ⟨by refine blk_far ?_ NB143_149.out _; exact BK143.out⟩
    have n5_ : Aside0 ((w43.setCell ⟨gb149, 2, none⟩ (.slice Ao44 y151.length co44)).heap[gb149]? = some (.cells #[.int .i64 t145, .slice Ao15 t146.length co15, .slice Ao44 y151.length co44] 28 (0, 0))) := ⟨by refine blk_put (cs := #[.int .i64 t145, .slice Ao15 t146.length co15, u150002]) ?_ 2 _ rfl; exact BK149.out⟩
    have n6_ : Aside0 (Below w.heap.size w (w43.setCell ⟨gb149, 2, none⟩ (.slice Ao44 y151.length co44))) := ⟨bl4 HB GE141 GE142 GE143 GE149⟩
    (try clear HO_150001)
    (try clear HO153)
    (try clear BK141)
    (try clear BK142)
    (try clear BK143)
    (try clear BK149)
    (try clear HB)
    generalize (w43.setCell ⟨gb149, 2, none⟩ (.slice Ao44 y151.length co44)) = w46 at n0_ n1_ n2_ n3_ n4_ n5_ n6_ ⊢
    have HO_150001 := n0_
    have HO153 := n1_
    have BK141 := n2_
    have BK142 := n3_
    have BK143 := n4_
    have BK149 := n5_
    have HB := n6_
    clear n0_ n1_ n2_ n3_ n4_ n5_ n6_
    replace HO_150001 := ak (Kd.R_drew HO_150001.out)
    replace HO153 := ak (Kd.R_drew HO153.out)
    replace BK141 := ak (blk_drew BK141.out)
    replace BK142 := ak (blk_drew BK142.out)
    replace BK143 := ak (blk_drew BK143.out)
    replace BK149 := ak (blk_drew BK149.out)
    replace HB := ak (below_drew1 HB.out)
    have p154 : 0 ≤ (x8_1 : Int) := oT (by (with_reducible assumption))
    have q154 : x8_1 < (l0_2.length : Int) := oT (by (with_reducible assumption))
    obtain ⟨ad154, e154, hx154_0, hx154_1, hx154_2⟩ := at_T30 HR0_2.out x8_1 p154 q154
    have hw154_2 := hx154_2
    have hw154_1 := hx154_1
    have hw154_0 := hx154_0
    cases e154
    replace hx154_0 := hcb HB.out hx154_0
    replace hx154_1 := hcb HB.out hx154_1
    replace hx154_2 := hcb HB.out hx154_2
    replace p154 := eq_true p154
    replace q154 := eq_true q154
    refine start_ (n := 9) (S := fun w' => w'.cell? ⟨gb141, 0, none⟩ = some (.int .i64 a0_0) ∧ w'.cell? ⟨gb141, 1, none⟩ = some (.slice A0_1 l0_1.length c0_1) ∧ w'.cell? ⟨gb141, 2, none⟩ = some (.slice (some ad154) l0_2.length c0_2) ∧ w'.cell? ⟨gb142, 0, none⟩ = some (.int .i64 a1_0) ∧ w'.cell? ⟨gb142, 1, none⟩ = some (.int .i64 a1_1) ∧ w'.cell? ⟨gb142, 2, none⟩ = some (.int .i64 a1_2) ∧ w'.cell? (ad154.add ((x8_1).toNat * 3)) = some (.int .i64 ((rd_T30 l0_2 x8_1).f0)) ∧ w'.cell? ⟨(ad154.add ((x8_1).toNat * 3)).block, (ad154.add ((x8_1).toNat * 3)).off + 1, none⟩ = some (.int .i64 ((rd_T30 l0_2 x8_1).f1)) ∧ w'.cell? ⟨(ad154.add ((x8_1).toNat * 3)).block, (ad154.add ((x8_1).toNat * 3)).off + 2, none⟩ = some (.int .i64 ((rd_T30 l0_2 x8_1).f2))) (ds := []) (ms 9 0) (by kernel_rfl) rfl (by kernel_rfl) ⟨(blk_cell BK141.out 0).trans rfl, (blk_cell BK141.out 1).trans rfl, (blk_cell BK141.out 2).trans rfl, (blk_cell BK142.out 0).trans rfl, (blk_cell BK142.out 1).trans rfl, (blk_cell BK142.out 2).trans rfl, ((HB.out.cell (World.block_lt_of_cell? w _ hw154_0)).trans hw154_0), ((HB.out.cell (World.block_lt_of_cell? w _ hw154_1)).trans hw154_1), ((HB.out.cell (World.block_lt_of_cell? w _ hw154_2)).trans hw154_2)⟩ (fun hHeld => ?_); refine with_tabW spec_LiveTell.tab11 spec_LiveTell.bits11 (fun HT_ HW_ => ?_)
    generalize w46.drew = w47 at HO_150001 HO153 BK141 BK142 BK143 BK149 HB hx154_0 hx154_1 hx154_2 hHeld ⊢
    refine pu 0 43 ?_ (ms 9 1) rfl rfl HT_ (by kernel_rfl) (fun _ _ _ h => h) (by rfl) ?_ ?_ ?_ ?_
    rotate_left
    ·intro w'
     go_simp
     with_reducible rfl
    rotate_left
    ·simp only [SX]
     rfl
    refine pu 2 45 ?_ (ms 9 5) rfl rfl HT_ (by kernel_rfl) (fun _ _ _ h => h) (by rfl) ?_ ?_ ?_ ?_
    rotate_left
    ·intro w'
     go_simp
     with_reducible rfl
    rotate_left
    ·simp only [SX]
     rfl
    refine pu 6 49 ?_ (ms 9 69) rfl rfl HT_ (by kernel_rfl) (fun _ _ _ h => h) (by rfl) ?_ ?_ ?_ ?_
    rotate_left
    ·intro w'
     go_simp
     with_reducible rfl
    rotate_left
    ·simp only [SX]
     rfl
    refine tk 1 44 ?_ (ms 9 71) rfl rfl HT_ HW_ (by kernel_rfl) (fun _ _ _ h => h) (by rfl) ?_ hHeld ?_ ?_ ?_
    rotate_left
    ·rintro w' ⟨s0, s1, s2, s3, s4, s5, s6, s7, s8⟩
     go_simp
     with_reducible rfl
    rotate_left
    ·simp only [SX]
     rfl
    refine pu 3 46 ?_ (ms 9 79) rfl rfl HT_ (by kernel_rfl) (fun _ _ _ h => h) (by rfl) ?_ ?_ ?_ ?_
    rotate_left
    ·intro w'
     go_simp
     with_reducible rfl
    rotate_left
    ·simp only [SX]
     rfl
    refine pu 4 47 ?_ (ms 9 95) rfl rfl HT_ (by kernel_rfl) (fun _ _ _ h => h) (by rfl) ?_ ?_ ?_ ?_
    rotate_left
    ·intro w'
     go_simp
     with_reducible rfl
    rotate_left
    ·simp only [SX]
     rfl
    refine tk 5 48 ?_ (ms 9 127) rfl rfl HT_ HW_ (by kernel_rfl) (fun _ _ _ h => h) (by rfl) ?_ hHeld ?_ ?_ ?_
    rotate_left
    ·rintro w' ⟨s0, s1, s2, s3, s4, s5, s6, s7, s8⟩
     go_simp
     with_reducible rfl
    rotate_left
    ·simp only [SX]
     rfl
    refine tk 7 50 ?_ (ms 9 255) rfl rfl HT_ HW_ (by kernel_rfl) (fun _ _ _ h => h) (by rfl) ?_ hHeld ?_ ?_ ?_
    rotate_left
    ·rintro w' ⟨s0, s1, s2, s3, s4, s5, s6, s7, s8⟩
     go_simp
     with_reducible rfl
    rotate_left
    ·simp only [SX]
     rfl
    refine pu 8 51 ?_ (ms 9 511) rfl rfl HT_ (by kernel_rfl) (fun _ _ _ h => h) (by rfl) ?_ ?_ ?_ ?_
    rotate_left
    ·intro w'
     go_simp
     with_reducible rfl
    rotate_left
    ·simp only [SX]
     rfl
    refine done_ (done_of HT_.out (by kernel_rfl)) ?_
    try go_wp2
    go_roundg kj21
    case measure => have := HK1.out; have := HJ21.out; omega
    case rel => exact ⟨(true), (wrap64 (x8_1 + 1)), (y151), (.slice Ao44 y151.length co44), (by rfl), (by rfl), H', ⟨by have := HK1.out; have := HJ21.out; omega⟩, ⟨rk HO_150001⟩, ⟨rk HO153⟩, ⟨bk BK141⟩, ⟨bk BK142⟩, ⟨bk BK143⟩, ⟨bk BK149⟩, ⟨bl4 HB GE141 GE142 GE143 GE149⟩⟩
   rw [if_neg c35] at H
   have c35b0 : (((rd_T30 l0_2 x8_1).f0) == a1_0) = false := beq_eq_false_iff_ne.mpr c35
   have c35b1 : (((rd_T30 l0_2 x8_1).f0) != a1_0) = true := bne_iff_ne.mpr c35
   by_cases c48 : y151.length < 5864062014805
   rotate_left
   ·rw [if_neg c48] at H
    exact absurd H (by simp)
   rw [if_pos c48] at H
   have LMc48 := ak c48
   clear c48
   obtain ⟨y156, hy156⟩ : ∃ y_ : List (S30), y_ = (y151 ++ [(⟨(rd_T30 l0_2 x8_1).f0, (rd_T30 l0_2 x8_1).f1, (rd_T30 l0_2 x8_1).f2⟩ : S30)]) := ⟨_, rfl⟩
   replace H : (spec_LiveTell.l0 kj21 true (wrap64 (x8_1 + 1)) a0_0 l0_1 l0_2 a1_0 a1_1 a1_2 t145 t146 y156) = some (r1, r2, r3, r4) := by (rw [hy156]; with_reducible exact H)
   have Ny156 := ak hy156
   clear hy156
   have H' := ak H
   clear H
   have hnb49 := NB149_141.out
   have hnc49 := NB141_149.out
   have hnb50 := NB149_142.out
   have hnc50 := NB142_149.out
   have hnb51 := NB149_143.out
   have hnc51 := NB143_149.out
   have hcz52_0 := bc wc BK149 0 (.int .i64 t145) rfl
   have hcz52_1 := bc wc BK149 1 (.slice Ao15 t146.length co15) rfl
   have hcz52_2 := bc wc BK149 2 (u150002) rfl
   have hfz52_0 := fz BK149 0
   have hfz52_1 := fz BK149 1
   have hfz52_2 := fz BK149 2
   have hnb53 := NB142_141.out
   have hnc53 := NB141_142.out
   have hnb54 := NB142_143.out
   have hnc54 := NB143_142.out
   have hcz55_0 := bc wc BK142 0 (.int .i64 a1_0) rfl
   have hcz55_1 := bc wc BK142 1 (.int .i64 a1_1) rfl
   have hcz55_2 := bc wc BK142 2 (.int .i64 a1_2) rfl
   have hfz55_0 := fz BK142 0
   have hfz55_1 := fz BK142 1
   have hfz55_2 := fz BK142 2
   try go_wp2_with (((with_reducible refine gate_builtin (b := .append) (xs := #[.tmp 38, .tmp 40]) rfl ?_); at_builtin; refine Kd.R_append k30 (w0 := w) w.heap.size rfl (.tmp 38) (.tmp 40) 26 30 (.agg #[(.int .i64 0), (.int .i64 0), (.int .i64 0)]) 24 rfl Try.underlying26 info30 rfl (by decide) (by omega) u150002 x150002_1 (⟨a1_0, a1_1, a1_2⟩ : S30) [.int .i64 a1_0, .int .i64 a1_1, .int .i64 a1_2] (fun k_ => k_ ≠ gb142) (fun _ => False) rfl rfl ?aP (fun _ hk => hk.elim) ?aF ?aO ?aB ?aS ?aL ?_; (case aP => exact k30_mkM _ _ _ (⟨a1_0, a1_1, a1_2⟩ : S30)); (case aB => exact (bl4 HB GE141 GE142 GE143 GE149)); (case aF => exact (fun k_ hk => Kd.freshB (bk BK142) k_ hk)); (case aO => exact (rk HO_150002)); (case aS => exact (below_size (bl4 HB GE141 GE142 GE143 GE149))); (case aL => have := LMc32.out; omega); intro v152 w56 ho hb hg hat; rw [← Ny151.out] at ho; have n0_ := ak (Kd.R_over' (rk HO_150001) (Kd.R_typed (rk HO_150002)) (by decide) hg); have n1_ := ak (blk_grown (bk BK141) hg (Kd.R_ne HO_150002.out BK141.out (by decide))); have n2_ := ak (blk_grown (bk BK142) hg (Kd.R_away HO_150002.out (fun _ hk => hk))); have n3_ := ak (blk_grown (bk BK143) hg (Kd.R_ne HO_150002.out BK143.out (by decide))); have n4_ := ak (blk_grown (bk BK149) hg (Kd.R_ne HO_150002.out BK149.out (by decide))); have n5_ := ak (hb); have n6_ := ak (ho); clear HO_150001; clear BK141; clear BK142; clear BK143; clear BK149; clear HB; clear HO_150002; have HO_150001 := n0_; have BK141 := n1_; have BK142 := n2_; have BK143 := n3_; have BK149 := n4_; have HB := n5_; have HO153 := n6_; clear n0_ n1_ n2_ n3_ n4_ n5_ n6_; clear ho hb hg hat; obtain ⟨Ao57, co57, eo57⟩ := Kd.R_slice HO153.out; subst eo57; have hcz58_0 := bc w56 BK149 0 (.int .i64 t145) rfl; have hcz58_1 := bc w56 BK149 1 (.slice Ao15 t146.length co15) rfl; have hcz58_2 := bc w56 BK149 2 (u150002) rfl; have hfz58_0 := fz BK149 0; have hfz58_1 := fz BK149 1; have hfz58_2 := fz BK149 2))
   have n0_ : Aside0 (Kd.R k65 65 (w56.setCell ⟨gb149, 2, none⟩ (.slice Ao57 y151.length co57)) w.heap.size (fun _ => True) (.slice Ao15 t146.length co15) t146) := ⟨by exact Kd.R_mono (Kd.R_far (p := ⟨gb149, 2, none⟩) (Kd.R_types HO_150001.out BK149.out (by decide)) (fun _ hk => hk.2) (.slice Ao57 y151.length co57)) (fun _ hk => trivial)⟩
   have n1_ : Aside0 (Kd.R k30 30 (w56.setCell ⟨gb149, 2, none⟩ (.slice Ao57 y151.length co57)) w.heap.size (fun k_ => k_ ≠ gb142) (.slice Ao57 y151.length co57) y151) := ⟨by exact Kd.R_mono (Kd.R_far (p := ⟨gb149, 2, none⟩) (Kd.R_types HO153.out BK149.out (by decide)) (fun _ hk => hk.2) (.slice Ao57 y151.length co57)) (fun _ hk => hk.1)⟩
   have n2_ : Aside0 ((w56.setCell ⟨gb149, 2, none⟩ (.slice Ao57 y151.length co57)).heap[gb141]? = some (.cells #[.int .i64 a0_0, .slice A0_1 l0_1.length c0_1, .slice A0_2 l0_2.length c0_2] 28 (0, 0))) := ⟨by refine blk_far ?_ NB141_149.out _; exact BK141.out⟩
   have n3_ : Aside0 ((w56.setCell ⟨gb149, 2, none⟩ (.slice Ao57 y151.length co57)).heap[gb142]? = some (.cells #[.int .i64 a1_0, .int .i64 a1_1, .int .i64 a1_2] 30 (0, 0))) := ⟨by refine blk_far ?_ NB142_149.out _; exact BK142.out⟩
   have n4_ : Aside0 ((w56.setCell ⟨gb149, 2, none⟩ (.slice Ao57 y151.length co57)).heap[gb143]? = some (.cells #[.int .i64 0, .slice none 0 0, .slice none 0 0] 28 (0, 0))) := ⟨by refine blk_far ?_ NB143_149.out _; exact BK143.out⟩
   have n5_ : Aside0 ((w56.setCell ⟨gb149, 2, none⟩ (.slice Ao57 y151.length co57)).heap[gb149]? = some (.cells #[.int .i64 t145, .slice Ao15 t146.length co15, .slice Ao57 y151.length co57] 28 (0, 0))) := ⟨by refine blk_put (cs := #[.int .i64 t145, .slice Ao15 t146.length co15, u150002]) ?_ 2 _ rfl; exact BK149.out⟩
   have n6_ : Aside0 (Below w.heap.size w (w56.setCell ⟨gb149, 2, none⟩ (.slice Ao57 y151.length co57))) := ⟨bl4 HB GE141 GE142 GE143 GE149⟩
   (try clear HO_150001)
   (try clear HO153)
   (try clear BK141)
   (try clear BK142)
   (try clear BK143)
   (try clear BK149)
   (try clear HB)
   generalize (w56.setCell ⟨gb149, 2, none⟩ (.slice Ao57 y151.length co57)) = w59 at n0_ n1_ n2_ n3_ n4_ n5_ n6_ ⊢
   have HO_150001 := n0_
   have HO153 := n1_
   have BK141 := n2_
   have BK142 := n3_
   have BK143 := n4_
   have BK149 := n5_
   have HB := n6_
   clear n0_ n1_ n2_ n3_ n4_ n5_ n6_
   replace HO_150001 := ak (Kd.R_drew HO_150001.out)
   replace HO153 := ak (Kd.R_drew HO153.out)
   replace BK141 := ak (blk_drew BK141.out)
   replace BK142 := ak (blk_drew BK142.out)
   replace BK143 := ak (blk_drew BK143.out)
   replace BK149 := ak (blk_drew BK149.out)
   replace HB := ak (below_drew1 HB.out)
   have p154 : 0 ≤ (x8_1 : Int) := oT (by (with_reducible assumption))
   have q154 : x8_1 < (l0_2.length : Int) := oT (by (with_reducible assumption))
   obtain ⟨ad154, e154, hx154_0, hx154_1, hx154_2⟩ := at_T30 HR0_2.out x8_1 p154 q154
   have hw154_2 := hx154_2
   have hw154_1 := hx154_1
   have hw154_0 := hx154_0
   cases e154
   replace hx154_0 := hcb HB.out hx154_0
   replace hx154_1 := hcb HB.out hx154_1
   replace hx154_2 := hcb HB.out hx154_2
   replace p154 := eq_true p154
   replace q154 := eq_true q154
   refine start_ (n := 9) (S := fun w' => w'.cell? ⟨gb141, 0, none⟩ = some (.int .i64 a0_0) ∧ w'.cell? ⟨gb141, 1, none⟩ = some (.slice A0_1 l0_1.length c0_1) ∧ w'.cell? ⟨gb141, 2, none⟩ = some (.slice (some ad154) l0_2.length c0_2) ∧ w'.cell? ⟨gb142, 0, none⟩ = some (.int .i64 a1_0) ∧ w'.cell? ⟨gb142, 1, none⟩ = some (.int .i64 a1_1) ∧ w'.cell? ⟨gb142, 2, none⟩ = some (.int .i64 a1_2) ∧ w'.cell? (ad154.add ((x8_1).toNat * 3)) = some (.int .i64 ((rd_T30 l0_2 x8_1).f0)) ∧ w'.cell? ⟨(ad154.add ((x8_1).toNat * 3)).block, (ad154.add ((x8_1).toNat * 3)).off + 1, none⟩ = some (.int .i64 ((rd_T30 l0_2 x8_1).f1)) ∧ w'.cell? ⟨(ad154.add ((x8_1).toNat * 3)).block, (ad154.add ((x8_1).toNat * 3)).off + 2, none⟩ = some (.int .i64 ((rd_T30 l0_2 x8_1).f2))) (ds := []) (ms 9 0) (by kernel_rfl) rfl (by kernel_rfl) ⟨(blk_cell BK141.out 0).trans rfl, (blk_cell BK141.out 1).trans rfl, (blk_cell BK141.out 2).trans rfl, (blk_cell BK142.out 0).trans rfl, (blk_cell BK142.out 1).trans rfl, (blk_cell BK142.out 2).trans rfl, ((HB.out.cell (World.block_lt_of_cell? w _ hw154_0)).trans hw154_0), ((HB.out.cell (World.block_lt_of_cell? w _ hw154_1)).trans hw154_1), ((HB.out.cell (World.block_lt_of_cell? w _ hw154_2)).trans hw154_2)⟩ (fun hHeld => ?_); refine with_tabW spec_LiveTell.tab11 spec_LiveTell.bits11 (fun HT_ HW_ => ?_)
   generalize w59.drew = w60 at HO_150001 HO153 BK141 BK142 BK143 BK149 HB hx154_0 hx154_1 hx154_2 hHeld ⊢
   refine pu 0 43 ?_ (ms 9 1) rfl rfl HT_ (by kernel_rfl) (fun _ _ _ h => h) (by rfl) ?_ ?_ ?_ ?_
   rotate_left
   ·intro w'
    go_simp
    with_reducible rfl
   rotate_left
   ·simp only [SX]
    rfl
   refine pu 2 45 ?_ (ms 9 5) rfl rfl HT_ (by kernel_rfl) (fun _ _ _ h => h) (by rfl) ?_ ?_ ?_ ?_
   rotate_left
   ·intro w'
    go_simp
    with_reducible rfl
   rotate_left
   ·simp only [SX]
    rfl
   refine pu 6 49 ?_ (ms 9 69) rfl rfl HT_ (by kernel_rfl) (fun _ _ _ h => h) (by rfl) ?_ ?_ ?_ ?_
   rotate_left
   ·intro w'
    go_simp
    with_reducible rfl
   rotate_left
   ·simp only [SX]
    rfl
   refine tk 1 44 ?_ (ms 9 71) rfl rfl HT_ HW_ (by kernel_rfl) (fun _ _ _ h => h) (by rfl) ?_ hHeld ?_ ?_ ?_
   rotate_left
   ·rintro w' ⟨s0, s1, s2, s3, s4, s5, s6, s7, s8⟩
    go_simp
    with_reducible rfl
   rotate_left
   ·simp only [SX]
    rfl
   refine pu 3 46 ?_ (ms 9 79) rfl rfl HT_ (by kernel_rfl) (fun _ _ _ h => h) (by rfl) ?_ ?_ ?_ ?_
   rotate_left
   ·intro w'
    go_simp
    with_reducible rfl
   rotate_left
   ·simp only [SX]
    rfl
   refine pu 4 47 ?_ (ms 9 95) rfl rfl HT_ (by kernel_rfl) (fun _ _ _ h => h) (by rfl) ?_ ?_ ?_ ?_
   rotate_left
   ·intro w'
    go_simp
    with_reducible rfl
   rotate_left
   ·simp only [SX]
    rfl
   refine tk 5 48 ?_ (ms 9 127) rfl rfl HT_ HW_ (by kernel_rfl) (fun _ _ _ h => h) (by rfl) ?_ hHeld ?_ ?_ ?_
   rotate_left
   ·rintro w' ⟨s0, s1, s2, s3, s4, s5, s6, s7, s8⟩
    go_simp
    with_reducible rfl
   rotate_left
   ·simp only [SX]
    rfl
   refine tk 7 50 ?_ (ms 9 255) rfl rfl HT_ HW_ (by kernel_rfl) (fun _ _ _ h => h) (by rfl) ?_ hHeld ?_ ?_ ?_
   rotate_left
   ·rintro w' ⟨s0, s1, s2, s3, s4, s5, s6, s7, s8⟩
    go_simp
    with_reducible rfl
   rotate_left
   ·simp only [SX]
    rfl
   refine pu 8 51 ?_ (ms 9 511) rfl rfl HT_ (by kernel_rfl) (fun _ _ _ h => h) (by rfl) ?_ ?_ ?_ ?_
   rotate_left
   ·intro w'
    go_simp
    with_reducible rfl
   rotate_left
   ·simp only [SX]
    rfl
   refine done_ (done_of HT_.out (by kernel_rfl)) ?_
   try go_wp2
   replace HO_150001 := ak (Kd.R_drew HO_150001.out)
   replace HO153 := ak (Kd.R_drew HO153.out)
   replace BK141 := ak (blk_drew BK141.out)
   replace BK142 := ak (blk_drew BK142.out)
   replace BK143 := ak (blk_drew BK143.out)
   replace BK149 := ak (blk_drew BK149.out)
   replace HB := ak (below_drew1 HB.out)
   have p155 : 0 ≤ (x8_1 : Int) := oT (by (with_reducible assumption))
   have q155 : x8_1 < (l0_2.length : Int) := oT (by (with_reducible assumption))
   obtain ⟨ad155, e155, hx155_0, hx155_1, hx155_2⟩ := at_T30 HR0_2.out x8_1 p155 q155
   have hw155_2 := hx155_2
   have hw155_1 := hx155_1
   have hw155_0 := hx155_0
   obtain rfl : ad154 = ad155 := (by injection e155)
   replace hx155_0 := hcb HB.out hx155_0
   replace hx155_1 := hcb HB.out hx155_1
   replace hx155_2 := hcb HB.out hx155_2
   replace p155 := eq_true p155
   replace q155 := eq_true q155
   refine start_ (n := 11) (S := fun w' => w'.cell? ⟨gb149, 0, none⟩ = some (.int .i64 t145) ∧ w'.cell? ⟨gb149, 1, none⟩ = some (.slice Ao15 t146.length co15) ∧ w'.cell? ⟨gb149, 2, none⟩ = some (.slice Ao57 y151.length co57) ∧ w'.cell? ⟨gb141, 0, none⟩ = some (.int .i64 a0_0) ∧ w'.cell? ⟨gb141, 1, none⟩ = some (.slice A0_1 l0_1.length c0_1) ∧ w'.cell? ⟨gb141, 2, none⟩ = some (.slice (some ad154) l0_2.length c0_2) ∧ w'.cell? (ad154.add ((x8_1).toNat * 3)) = some (.int .i64 ((rd_T30 l0_2 x8_1).f0)) ∧ w'.cell? ⟨(ad154.add ((x8_1).toNat * 3)).block, (ad154.add ((x8_1).toNat * 3)).off + 1, none⟩ = some (.int .i64 ((rd_T30 l0_2 x8_1).f1)) ∧ w'.cell? ⟨(ad154.add ((x8_1).toNat * 3)).block, (ad154.add ((x8_1).toNat * 3)).off + 2, none⟩ = some (.int .i64 ((rd_T30 l0_2 x8_1).f2))) (ds := [10]) (ms 11 0) (by kernel_rfl) rfl (by kernel_rfl) ⟨(blk_cell BK149.out 0).trans rfl, (blk_cell BK149.out 1).trans rfl, (blk_cell BK149.out 2).trans rfl, (blk_cell BK141.out 0).trans rfl, (blk_cell BK141.out 1).trans rfl, (blk_cell BK141.out 2).trans rfl, ((HB.out.cell (World.block_lt_of_cell? w _ hw155_0)).trans hw155_0), ((HB.out.cell (World.block_lt_of_cell? w _ hw155_1)).trans hw155_1), ((HB.out.cell (World.block_lt_of_cell? w _ hw155_2)).trans hw155_2)⟩ (fun hHeld => ?_); refine with_tabW spec_LiveTell.tab12 spec_LiveTell.bits12 (fun HT_ HW_ => ?_)
   generalize w60.drew = w61 at HO_150001 HO153 BK141 BK142 BK143 BK149 HB hx155_0 hx155_1 hx155_2 hHeld ⊢
   refine pu 0 52 ?_ (ms 11 1) rfl rfl HT_ (by kernel_rfl) (fun _ _ _ h => h) (by rfl) ?_ ?_ ?_ ?_
   rotate_left
   ·intro w'
    go_simp
    with_reducible rfl
   rotate_left
   ·simp only [SX]
    rfl
   refine pu 2 54 ?_ (ms 11 5) rfl rfl HT_ (by kernel_rfl) (fun _ _ _ h => h) (by rfl) ?_ ?_ ?_ ?_
   rotate_left
   ·intro w'
    go_simp
    with_reducible rfl
   rotate_left
   ·simp only [SX]
    rfl
   refine pu 4 56 ?_ (ms 11 21) rfl rfl HT_ (by kernel_rfl) (fun _ _ _ h => h) (by rfl) ?_ ?_ ?_ ?_
   rotate_left
   ·intro w'
    go_simp
    with_reducible rfl
   rotate_left
   ·simp only [SX]
    rfl
   refine tk 1 53 ?_ (ms 11 23) rfl rfl HT_ HW_ (by kernel_rfl) (fun _ _ _ h => h) (by rfl) ?_ hHeld ?_ ?_ ?_
   rotate_left
   ·rintro w' ⟨s0, s1, s2, s3, s4, s5, s6, s7, s8⟩
    go_simp
    with_reducible rfl
   rotate_left
   ·simp only [SX]
    rfl
   refine tk 3 55 ?_ (ms 11 31) rfl rfl HT_ HW_ (by kernel_rfl) (fun _ _ _ h => h) (by rfl) ?_ hHeld ?_ ?_ ?_
   rotate_left
   ·rintro w' ⟨s0, s1, s2, s3, s4, s5, s6, s7, s8⟩
    go_simp
    with_reducible rfl
   rotate_left
   ·simp only [SX]
    rfl
   refine pu 5 57 ?_ (ms 11 63) rfl rfl HT_ (by kernel_rfl) (fun _ _ _ h => h) (by rfl) ?_ ?_ ?_ ?_
   rotate_left
   ·intro w'
    go_simp
    with_reducible rfl
   rotate_left
   ·simp only [SX]
    rfl
   refine tk 6 58 ?_ (ms 11 127) rfl rfl HT_ HW_ (by kernel_rfl) (fun _ _ _ h => h) (by rfl) ?_ hHeld ?_ ?_ ?_
   rotate_left
   ·rintro w' ⟨s0, s1, s2, s3, s4, s5, s6, s7, s8⟩
    go_simp
    with_reducible rfl
   rotate_left
   ·simp only [SX]
    rfl
   refine one_ (i := 7) (N := some 59) (ms 11 255) rfl rfl (one_of HT_.out (by kernel_rfl)) (by decide) (fun K hK => ?_)
   refine value_ (w1 := ?_) (v := ?_) (by rfl) rfl ?_ ?_
   rotate_left 2
   ·go_simp
    constructor
    rotate_left
    ·rfl
    rfl
   refine hK.out _ _ ⟨(blk_cell (blk_alloc BK149.out _) 0).trans rfl, (blk_cell (blk_alloc BK149.out _) 1).trans rfl, (blk_cell (blk_alloc BK149.out _) 2).trans rfl, (blk_cell (blk_alloc BK141.out _) 0).trans rfl, (blk_cell (blk_alloc BK141.out _) 1).trans rfl, (blk_cell (blk_alloc BK141.out _) 2).trans rfl, (World.cell?_alloc_lt _ _ _ (World.block_lt_of_cell? _ _ (((HB.out.cell (World.block_lt_of_cell? w _ hw155_0)).trans hw155_0)))).trans (((HB.out.cell (World.block_lt_of_cell? w _ hw155_0)).trans hw155_0)), (World.cell?_alloc_lt _ _ _ (World.block_lt_of_cell? _ _ (((HB.out.cell (World.block_lt_of_cell? w _ hw155_1)).trans hw155_1)))).trans (((HB.out.cell (World.block_lt_of_cell? w _ hw155_1)).trans hw155_1)), (World.cell?_alloc_lt _ _ _ (World.block_lt_of_cell? _ _ (((HB.out.cell (World.block_lt_of_cell? w _ hw155_2)).trans hw155_2)))).trans (((HB.out.cell (World.block_lt_of_cell? w _ hw155_2)).trans hw155_2))⟩ (fun hHeld => ?_)
   clear hK K
   refine norm_ (a' := ?_) ?_ ?_
   rotate_left
   ·show Act.put _ (some 59) _ = _
    simp only [SX]
    rfl
   refine one_ (i := 8) (N := some 60) (ms 11 511) rfl rfl (one_of HT_.out (by kernel_rfl)) (by decide) (fun K hK => ?_)
   refine Kd.R_append_step k30 (w0 := w) w.heap.size (by rfl) (.tmp 53) (.tmp 59) 26 30 (.agg #[(.int .i64 0), (.int .i64 0), (.int .i64 0)]) 24 rfl Try.underlying26 info30 rfl (by decide) (by omega) (.slice Ao57 y151.length co57) y151 (⟨(rd_T30 l0_2 x8_1).f0, (rd_T30 l0_2 x8_1).f1, (rd_T30 l0_2 x8_1).f2⟩ : S30) [.int .i64 ((rd_T30 l0_2 x8_1).f0), .int .i64 ((rd_T30 l0_2 x8_1).f1), .int .i64 ((rd_T30 l0_2 x8_1).f2)] (fun k_ => k_ ≠ gb142) (fun _ => False) rfl rfl ?aP (fun _ hk => hk.elim) ?aF ?aO ?aB ?aS ?aL ?_
   (case aP => exact k30_mkM _ _ _ (⟨(rd_T30 l0_2 x8_1).f0, (rd_T30 l0_2 x8_1).f1, (rd_T30 l0_2 x8_1).f2⟩ : S30))
   (case aB => exact (bl4 HB GE141 GE142 GE143 GE149))
   (case aF => exact (fun k_ hk => Kd.freshB (bk BK142) k_ hk))
   (case aO => exact (rk HO153))
   (case aS => exact (below_size (bl4 HB GE141 GE142 GE143 GE149)))
   (case aL => have := LMc48.out; omega)
   intro v157 w62 ho hb hg hat
   rw [← Ny156.out] at ho
   have n0_ := ak (Kd.R_over' (rk HO_150001) (Kd.R_typed (rk HO153)) (by decide) hg)
   have n1_ := ak (blk_grown (bk BK141) hg (Kd.R_ne HO153.out BK141.out (by decide)))
   have n2_ := ak (blk_grown (bk BK142) hg (Kd.R_away HO153.out (fun _ hk => hk)))
   have n3_ := ak (blk_grown (bk BK143) hg (Kd.R_ne HO153.out BK143.out (by decide)))
   have n4_ := ak (blk_grown (bk BK149) hg (Kd.R_ne HO153.out BK149.out (by decide)))
   have n5_ := ak (hb)
   have n6_ := ak (ho)
   clear HO_150001
   clear BK141
   clear BK142
   clear BK143
   clear BK149
   clear HB
   clear HO153
   have HO_150001 := n0_
   have BK141 := n1_
   have BK142 := n2_
   have BK143 := n3_
   have BK149 := n4_
   have HB := n5_
   have HO158 := n6_
   clear n0_ n1_ n2_ n3_ n4_ n5_ n6_
   clear ho hb hg hat
   obtain ⟨Ao63, co63, eo63⟩ := Kd.R_slice HO158.out
   (subst eo63)
   refine hK.out _ _ ⟨(blk_cell BK149.out 0).trans rfl, (blk_cell BK149.out 1).trans rfl, (blk_cell BK149.out 2).trans rfl, (blk_cell BK141.out 0).trans rfl, (blk_cell BK141.out 1).trans rfl, (blk_cell BK141.out 2).trans rfl, ((HB.out.cell (World.block_lt_of_cell? w _ hw155_0)).trans hw155_0), ((HB.out.cell (World.block_lt_of_cell? w _ hw155_1)).trans hw155_1), ((HB.out.cell (World.block_lt_of_cell? w _ hw155_2)).trans hw155_2)⟩ (fun hHeld => ?_)
   clear hK K
   refine norm_ (a' := ?_) ?_ ?_
   rotate_left
   ·show Act.put _ (some 60) _ = _
    simp only [SX]
    rfl
   refine pu 9 61 ?_ (ms 11 1023) rfl rfl HT_ (by kernel_rfl) (fun _ _ _ h => h) (by rfl) ?_ ?_ ?_ ?_
   rotate_left
   ·intro w'
    go_simp
    with_reducible rfl
   rotate_left
   ·simp only [SX]
    rfl
   refine last_ (i := 10) (N := none) (ms 11 2047) rfl rfl (one_of HT_.out (by kernel_rfl)) (by decide) (fun K hK => ?_)
   have hs64 : w62.cell? ⟨gb149, 2, none⟩ = some (.slice Ao57 y151.length co57) := (blk_cell BK149.out 2).trans rfl
   have hfs64 := blk_frozen BK149.out 2
   have hns64_0 := NB141_149.out
   have hns64_1 := NB142_149.out
   have hns64_2 := NB143_149.out
   have hms64_0 := NB149_141.out
   have hms64_1 := NB149_142.out
   have hms64_2 := NB149_143.out
   refine skip_ (w1 := ?_) (by rfl) rfl ?_ ?_
   rotate_left
   ·go_simp
    rfl
   refine hK.out _ _ ?_
   clear hK K
   refine done_ (done_of HT_.out (by kernel_rfl)) ?_
   try go_wp2
   go_roundg kj21
   case measure => have := HK1.out; have := HJ21.out; omega
   case rel => exact ⟨(true), (wrap64 (x8_1 + 1)), (y156), (.slice Ao63 y156.length co63), (by rfl), (by rfl), H', ⟨by have := HK1.out; have := HJ21.out; omega⟩, ⟨by exact Kd.R_mono (Kd.R_far (p := ⟨gb149, 2, none⟩) (Kd.R_types HO_150001.out BK149.out (by decide)) (fun _ hk => hk.2) (.slice Ao63 y156.length co63)) (fun _ hk => trivial)⟩, ⟨by exact Kd.R_mono (Kd.R_far (p := ⟨gb149, 2, none⟩) (Kd.R_types HO158.out BK149.out (by decide)) (fun _ hk => hk.2) (.slice Ao63 y156.length co63)) (fun _ hk => hk.1)⟩, ⟨by refine blk_far ?_ NB141_149.out _; exact BK141.out⟩, ⟨by refine blk_far ?_ NB142_149.out _; exact BK142.out⟩, ⟨by refine blk_far ?_ NB143_149.out _; exact BK143.out⟩, ⟨by refine blk_put (cs := #[.int .i64 t145, .slice Ao15 t146.length co15, .slice Ao57 y151.length co57]) ?_ 2 _ rfl; exact BK149.out⟩, ⟨bl4 HB GE141 GE142 GE143 GE149⟩⟩

end Go.Proofs.Ytbcedkcjodokkaa.F
