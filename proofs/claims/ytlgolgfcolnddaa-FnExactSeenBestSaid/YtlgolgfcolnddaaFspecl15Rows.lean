-- Printed by wip/px/px.py of this claim's repository (the kit's printer, extended there). Lean checks it.
import Derived.Test.YtlgolgfcolnddaaFKinds
import Derived.Test.YtlgolgfcolnddaaFspecl3All
namespace Go.Proofs.Ytlgolgfcolnddaa.F
open Go.RowKit Go.Proofs.YtlgolgfcolnddaaW.PrintWords Go.Proofs.YtlgolgfcolnddaaW.PrintLast Go.Proofs.YtlgolgfcolnddaaW.PrintMore
attribute [local go_sem] max2_int min2_int max_two min_two max_three min_three max_four min_four   -- for this text's walks alone
set_option linter.unusedVariables false
set_option linter.unusedSimpArgs false

/-! ### spec_l15Rows: function 77 -/
mutual
def spec_l15Rows.l0 : Nat → List (List Int) → List (List Int) → List (List Int) → Int → Int → List (S58) → Option ((List (List Int)) × (List (List Int)))
 | 0, _, _, _, _, _, _ => none
 | k + 1, x1, x6, x7, x8, x176000, x176001 => if x8 < (x1.length : Int) then (if 0 ≤ x176000 then (if (x176000 : Int).toNat ≤ 35184372088832 then (spec_l15Rows.l1 k x1 x6 x7 x8 (List.replicate (x176000 : Int).toNat 0) (List.replicate (x176000 : Int).toNat 0) 0 x176000 x176001) else (none)) else (none)) else (some (x6, x7))
def spec_l15Rows.l1 : Nat → List (List Int) → List (List Int) → List (List Int) → Int → List Int → List Int → Int → Int → List (S58) → Option ((List (List Int)) × (List (List Int)))
 | 0, _, _, _, _, _, _, _, _, _ => none
 | k + 1, x1, x6, x7, x8, x9, x10, x11, x176000, x176001 => if x11 < x176000 then (if 0 ≤ x11 then (if x11 < (x9.length : Int) then (spec_l15Rows.l2 k x1 x6 x7 x8 (x9.set (x11 : Int).toNat 99999) x10 x11 0 x176000 x176001) else (none)) else (none)) else (if x6.length < 5864062014805 then (if x7.length < 5864062014805 then (spec_l15Rows.l0 k x1 (x6 ++ [x9]) (x7 ++ [x10]) (wrap64 (x8 + 1)) x176000 x176001) else (none)) else (none))
def spec_l15Rows.l2 : Nat → List (List Int) → List (List Int) → List (List Int) → Int → List Int → List Int → Int → Int → Int → List (S58) → Option ((List (List Int)) × (List (List Int)))
 | 0, _, _, _, _, _, _, _, _, _, _ => none
 | k + 1, x1, x6, x7, x8, x9, x10, x11, x12, x176000, x176001 => if x12 < x176000 then ((spec_l3All.f k x176000 x176001 x12).bind fun t205 => (if 0 ≤ x11 then (if x11 < (t205.length : Int) then (if (rd t205 x11) < 99999 then (if 0 ≤ (wrap64 (x8 - 1)) then (if (wrap64 (x8 - 1)) < (x6.length : Int) then (if 0 ≤ x12 then (if x12 < ((rd_L3 x6 (wrap64 (x8 - 1))).length : Int) then (if (rd (rd_L3 x6 (wrap64 (x8 - 1))) x12) < 99999 then (if 0 ≤ x8 then (if x8 < (x1.length : Int) then (if x11 < ((rd_L3 x1 x8).length : Int) then (if x11 < (x9.length : Int) then (if (wrap64 ((wrap64 ((rd (rd_L3 x6 (wrap64 (x8 - 1))) x12) + (rd t205 x11))) + (rd (rd_L3 x1 x8) x11))) < (rd x9 x11) then (if x11 < (x10.length : Int) then (spec_l15Rows.l2 k x1 x6 x7 x8 (x9.set (x11 : Int).toNat (wrap64 ((wrap64 ((rd (rd_L3 x6 (wrap64 (x8 - 1))) x12) + (rd t205 x11))) + (rd (rd_L3 x1 x8) x11)))) (x10.set (x11 : Int).toNat x12) x11 (wrap64 (x12 + 1)) x176000 x176001) else (none)) else (spec_l15Rows.l2 k x1 x6 x7 x8 x9 x10 x11 (wrap64 (x12 + 1)) x176000 x176001)) else (none)) else (none)) else (none)) else (none)) else (spec_l15Rows.l2 k x1 x6 x7 x8 x9 x10 x11 (wrap64 (x12 + 1)) x176000 x176001)) else (none)) else (none)) else (none)) else (none)) else (spec_l15Rows.l2 k x1 x6 x7 x8 x9 x10 x11 (wrap64 (x12 + 1)) x176000 x176001)) else (none)) else (none))) else (spec_l15Rows.l1 k x1 x6 x7 x8 x9 x10 (wrap64 (x11 + 1)) x176000 x176001)
end
def spec_l15Rows.f (k : Nat) (a0_0 : Int) (l0_1 : List (S58)) (l1 : List (List Int)) : Option ((List (List Int)) × (List (List Int))) := (some (([] : List Int) : List Int)).bind fun y176 => (if 0 < (l1.length : Int) then (if y176.length + (rd_L3 l1 0).length < 17592186044416 then (if 0 ≤ a0_0 then (if (a0_0 : Int).toNat ≤ 35184372088832 then (spec_l15Rows.l0 k l1 (([(y176 ++ (rd_L3 l1 0))] : List (List Int))) (([(List.replicate (a0_0 : Int).toNat 0)] : List (List Int))) 1 a0_0 l0_1) else (none)) else (none)) else (none)) else (none))
theorem spec_l15Rows.mono_l : ∀ k, (∀ y0 y1 y2 y3 y4 y5, LeO (spec_l15Rows.l0 k y0 y1 y2 y3 y4 y5) (spec_l15Rows.l0 (k + 1) y0 y1 y2 y3 y4 y5)) ∧ (∀ y0 y1 y2 y3 y4 y5 y6 y7 y8, LeO (spec_l15Rows.l1 k y0 y1 y2 y3 y4 y5 y6 y7 y8) (spec_l15Rows.l1 (k + 1) y0 y1 y2 y3 y4 y5 y6 y7 y8)) ∧ (∀ y0 y1 y2 y3 y4 y5 y6 y7 y8 y9, LeO (spec_l15Rows.l2 k y0 y1 y2 y3 y4 y5 y6 y7 y8 y9) (spec_l15Rows.l2 (k + 1) y0 y1 y2 y3 y4 y5 y6 y7 y8 y9))
 | 0 => ⟨fun _ _ _ _ _ _ r h => by simp [spec_l15Rows.l0] at h, fun _ _ _ _ _ _ _ _ _ r h => by simp [spec_l15Rows.l1] at h, fun _ _ _ _ _ _ _ _ _ _ r h => by simp [spec_l15Rows.l2] at h⟩
 | k + 1 => by
  obtain ⟨ih0, ih1, ih2⟩ := spec_l15Rows.mono_l k
  refine ⟨?_, ?_, ?_⟩
  ·intro y0 y1 y2 y3 y4 y5
   unfold spec_l15Rows.l0
   repeat' first
   | (with_reducible exact ih0 _ _ _ _ _ _)
   | (with_reducible exact ih1 _ _ _ _ _ _ _ _ _)
   | (with_reducible exact ih2 _ _ _ _ _ _ _ _ _ _)
   | (with_reducible exact spec_l3All.mono _ _ _ _)
   | (with_reducible exact LeO.refl _)
   | (with_reducible exact LeO.none _)
   | (with_reducible refine LeO.ite ?_ ?_)
   | (with_reducible refine LeO.bind ?_ (fun _ => ?_))
   | exact ih0 _ _ _ _ _ _
   | exact ih1 _ _ _ _ _ _ _ _ _
   | exact ih2 _ _ _ _ _ _ _ _ _ _
   | exact spec_l3All.mono _ _ _ _
   | exact LeO.none _
   | refine LeO.ite ?_ ?_
   | refine LeO.bind ?_ (fun _ => ?_)
  ·intro y0 y1 y2 y3 y4 y5 y6 y7 y8
   unfold spec_l15Rows.l1
   repeat' first
   | (with_reducible exact ih0 _ _ _ _ _ _)
   | (with_reducible exact ih1 _ _ _ _ _ _ _ _ _)
   | (with_reducible exact ih2 _ _ _ _ _ _ _ _ _ _)
   | (with_reducible exact spec_l3All.mono _ _ _ _)
   | (with_reducible exact LeO.refl _)
   | (with_reducible exact LeO.none _)
   | (with_reducible refine LeO.ite ?_ ?_)
   | (with_reducible refine LeO.bind ?_ (fun _ => ?_))
   | exact ih0 _ _ _ _ _ _
   | exact ih1 _ _ _ _ _ _ _ _ _
   | exact ih2 _ _ _ _ _ _ _ _ _ _
   | exact spec_l3All.mono _ _ _ _
   | exact LeO.none _
   | refine LeO.ite ?_ ?_
   | refine LeO.bind ?_ (fun _ => ?_)
  ·intro y0 y1 y2 y3 y4 y5 y6 y7 y8 y9
   unfold spec_l15Rows.l2
   repeat' first
   | (with_reducible exact ih0 _ _ _ _ _ _)
   | (with_reducible exact ih1 _ _ _ _ _ _ _ _ _)
   | (with_reducible exact ih2 _ _ _ _ _ _ _ _ _ _)
   | (with_reducible exact spec_l3All.mono _ _ _ _)
   | (with_reducible exact LeO.refl _)
   | (with_reducible exact LeO.none _)
   | (with_reducible refine LeO.ite ?_ ?_)
   | (with_reducible refine LeO.bind ?_ (fun _ => ?_))
   | exact ih0 _ _ _ _ _ _
   | exact ih1 _ _ _ _ _ _ _ _ _
   | exact ih2 _ _ _ _ _ _ _ _ _ _
   | exact spec_l3All.mono _ _ _ _
   | exact LeO.none _
   | refine LeO.ite ?_ ?_
   | refine LeO.bind ?_ (fun _ => ?_)
theorem spec_l15Rows.mono : ∀ a0 a1 a2 k, LeO (spec_l15Rows.f k a0 a1 a2) (spec_l15Rows.f (k + 1) a0 a1 a2) := by
 intro a0 a1 a2 k
 obtain ⟨ih0, ih1, ih2⟩ := spec_l15Rows.mono_l k
 unfold spec_l15Rows.f
 repeat' first
   | (with_reducible exact ih0 _ _ _ _ _ _)
   | (with_reducible exact ih1 _ _ _ _ _ _ _ _ _)
   | (with_reducible exact ih2 _ _ _ _ _ _ _ _ _ _)
   | (with_reducible exact spec_l3All.mono _ _ _ _)
   | (with_reducible exact LeO.refl _)
   | (with_reducible exact LeO.none _)
   | (with_reducible refine LeO.ite ?_ ?_)
   | (with_reducible refine LeO.bind ?_ (fun _ => ?_))
   | exact ih0 _ _ _ _ _ _
   | exact ih1 _ _ _ _ _ _ _ _ _
   | exact ih2 _ _ _ _ _ _ _ _ _ _
   | exact spec_l3All.mono _ _ _ _
   | exact LeO.none _
   | refine LeO.ite ?_ ?_
   | refine LeO.bind ?_ (fun _ => ?_)
def spec_l15Rows.T16 : Bool × List (List Nat × List Nat) := (true, [([], []), ([0], [0]), ([1], [1]), ([2], [2]), ([2], [2]), ([4, 2], [2, 4]), ([3, 5, 2], [2, 3, 5]), ([6, 2], [2, 6]), ([2], [2]), ([7, 8, 2], [2, 7, 8]), ([9, 2], [2, 9]), ([10, 2], [2, 10]), ([2, 11], [2, 11]), ([12, 2], [12]), ([13], [13]), ([13], [13]), ([15, 13], [13, 15]), ([14, 16, 13], [13, 14, 16]), ([17, 13], [13, 17]), ([13], [13]), ([18, 19, 13], [13, 18, 19]), ([20, 13], [13, 20]), ([13], [13]), ([21, 22, 13], [13, 21, 22]), ([13], [13]), ([13], [13]), ([24, 25, 13], [13, 24, 25]), ([26, 13], [13, 26]), ([13], [13]), ([27, 28, 13], [13, 27, 28]), ([29, 13], [13, 29]), ([23, 30, 13], [13, 23, 30]), ([13], [13]), ([13], [13]), ([32, 33, 13], [13, 32, 33]), ([34, 13], [13, 34]), ([31, 35, 13], [13, 31, 35]), ([13, 36], [13, 36])])
def spec_l15Rows.B16 : List Nat := [0, 1, 3, 7, 7, 23, 63, 127, 7, 511, 1023, 2047, 4095, 8191, 16383, 16383, 49151, 131071, 262143, 16383, 1048575, 2097151, 16383, 8388607, 16383, 16383, 50348031, 117456895, 16383, 520110079, 1056980991, 2147483647, 16383, 16383, 12884918271, 30064787455, 68719476735, 137438953471]
theorem spec_l15Rows.tab16 : rtab .any (opsOf Try.f77 16) = spec_l15Rows.T16 := by kernel_rfl
theorem spec_l15Rows.bits16 : waitsOk spec_l15Rows.T16.2 spec_l15Rows.B16 = true := by kernel_rfl
def spec_l15Rows.T17 : Bool × List (List Nat × List Nat) := (true, [([], []), ([], []), ([], []), ([], []), ([3], [3]), ([2, 4], [2, 4]), ([5], [5]), ([], []), ([6, 7], [6, 7]), ([8], [8]), ([], []), ([9, 10], [9, 10]), ([], []), ([], []), ([12, 13], [12, 13]), ([14], [14]), ([], []), ([15, 16], [15, 16]), ([17], [17]), ([11, 18], [11, 18]), ([0, 1, 0, 1, 2, 3, 4, 5, 6, 7, 8, 9, 10, 11, 12, 13, 14, 15, 16, 17, 18, 19], [0, 1]), ([20, 19, 0, 1, 2, 3, 4, 5, 6, 7, 8, 9, 10, 11, 12, 13, 14, 15, 16, 17, 18, 19], [19, 20])])
def spec_l15Rows.B17 : List Nat := [0, 0, 0, 0, 8, 28, 60, 0, 252, 508, 0, 2044, 0, 0, 12288, 28672, 0, 126976, 258048, 524284, 1048575, 2097151]
theorem spec_l15Rows.tab17 : rtab .any (opsOf Try.f77 17) = spec_l15Rows.T17 := by kernel_rfl
theorem spec_l15Rows.bits17 : waitsOk spec_l15Rows.T17.2 spec_l15Rows.B17 = true := by kernel_rfl
set_option maxHeartbeats 8000000 in
set_option maxRecDepth 100000 in
theorem spec_l15Rows.calls (k : Nat) (a0_0 : Int) (A0_1 : Option Addr) (c0_1 : Nat) (l0_1 : List (S58)) (A1 : Option Addr) (c1 : Nat) (l1 : List (List Int)) (r1 : List (List Int)) (r2 : List (List Int)) (w : World) (hr0_1 : Kd.C k58 w A0_1 l0_1.length l0_1) (hc0_1 : l0_1.length ≤ c0_1) (hr1 : Kd.C (Kd.slice 3 (Kd.int .i64)) w A1 l1.length l1) (hc1 : l1.length ≤ c1) (h : spec_l15Rows.f k a0_0 l0_1 l1 = some (r1, r2)) :
  Calls Try.prog 77 #[.agg #[.int .i64 a0_0, .slice A0_1 l0_1.length c0_1], .slice A1 l1.length c1] w fun e w' => ∃ v0_ v1_ : Value, e = .returned (.tuple #[v0_, v1_]) ∧ Kd.N (Kd.slice 3 (Kd.int .i64)) 33 w' w.heap.size (fun k_ => (w.heap.size ≤ k_) ∧ some k_ ≠ (v1_ : Value).ownBlock) v0_ r1 ∧ Kd.N (Kd.slice 3 (Kd.int .i64)) 33 w' w.heap.size (fun k_ => (w.heap.size ≤ k_) ∧ some k_ ≠ (v0_ : Value).ownBlock) v1_ r2 ∧ Below w.heap.size w w' := by
 have hu25 := Try.underlying25
 have HR0_1 := ak hr0_1
 have HC0_1 := ak hc0_1
 clear hr0_1 hc0_1
 have HR1 := ak hr1
 have HC1 := ak hc1
 clear hr1 hc1
 have HB := ak (Below.refl w.heap.size w)
 have H : ((some (([] : List Int) : List Int)).bind fun y176 => (if 0 < (l1.length : Int) then (if y176.length + (rd_L3 l1 0).length < 17592186044416 then (if 0 ≤ a0_0 then (if (a0_0 : Int).toNat ≤ 35184372088832 then (spec_l15Rows.l0 k l1 (([(y176 ++ (rd_L3 l1 0))] : List (List Int))) (([(List.replicate (a0_0 : Int).toNat 0)] : List (List Int))) 1 a0_0 l0_1) else (none)) else (none)) else (none)) else (none))) = some (r1, r2) := h
 clear h
 obtain ⟨y176, hy176⟩ : ∃ y_ : List Int, y_ = (([] : List Int)) := ⟨_, rfl⟩
 replace H : (if 0 < (l1.length : Int) then (if y176.length + (rd_L3 l1 0).length < 17592186044416 then (if 0 ≤ a0_0 then (if (a0_0 : Int).toNat ≤ 35184372088832 then (spec_l15Rows.l0 k l1 (([(y176 ++ (rd_L3 l1 0))] : List (List Int))) (([(List.replicate (a0_0 : Int).toNat 0)] : List (List Int))) 1 a0_0 l0_1) else (none)) else (none)) else (none)) else (none)) = some (r1, r2) := by first | (rw [hy176]; with_reducible exact H) | (have H2_ := (Option.bind_some _ _).symm.trans H; rw [hy176]; with_reducible exact H2_) | (have H2_ := (Option.bind_some _ _).symm.trans H; with_reducible exact H2_) | with_reducible exact H | (rw [hy176]; exact H) | exact H
 have Ny176 := ak hy176
 clear hy176
 by_cases c3 : 0 < (l1.length : Int)
 rotate_left
 ·rw [if_neg c3] at H
  exact absurd H (by simp)
 rw [if_pos c3] at H
 have c3b0 : decide (0 < (l1.length : Int)) = true := decide_eq_true c3
 have c3b1 : decide (0 < l1.length) = true := decide_eq_true (by omega)
 clear c3
 by_cases c4 : y176.length + (rd_L3 l1 0).length < 17592186044416
 rotate_left
 ·rw [if_neg c4] at H
  exact absurd H (by simp)
 rw [if_pos c4] at H
 have LMc4 := ak c4
 clear c4
 obtain ⟨y180, hy180⟩ : ∃ y_ : List Int, y_ = (y176 ++ (rd_L3 l1 0)) := ⟨_, rfl⟩
 replace H : (if 0 ≤ a0_0 then (if (a0_0 : Int).toNat ≤ 35184372088832 then (spec_l15Rows.l0 k l1 (([y180] : List (List Int))) (([(List.replicate (a0_0 : Int).toNat 0)] : List (List Int))) 1 a0_0 l0_1) else (none)) else (none)) = some (r1, r2) := by first | (rw [hy180]; with_reducible exact H) | (have H2_ := (Option.bind_some _ _).symm.trans H; rw [hy180]; with_reducible exact H2_) | (have H2_ := (Option.bind_some _ _).symm.trans H; with_reducible exact H2_) | with_reducible exact H | (rw [hy180]; exact H) | exact H
 have Ny180 := ak hy180
 clear hy180
 obtain ⟨y183, hy183⟩ : ∃ y_ : List (List Int), y_ = (([y180] : List (List Int))) := ⟨_, rfl⟩
 replace H : (if 0 ≤ a0_0 then (if (a0_0 : Int).toNat ≤ 35184372088832 then (spec_l15Rows.l0 k l1 y183 (([(List.replicate (a0_0 : Int).toNat 0)] : List (List Int))) 1 a0_0 l0_1) else (none)) else (none)) = some (r1, r2) := by first | (rw [hy183]; with_reducible exact H) | (have H2_ := (Option.bind_some _ _).symm.trans H; rw [hy183]; with_reducible exact H2_) | (have H2_ := (Option.bind_some _ _).symm.trans H; with_reducible exact H2_) | with_reducible exact H | (rw [hy183]; exact H) | exact H
 have Ny183 := ak hy183
 clear hy183
 by_cases c5 : 0 ≤ a0_0
 rotate_left
 ·rw [if_neg c5] at H
  exact absurd H (by simp)
 rw [if_pos c5] at H
 have c5b0 := eq_true c5
 have c5b1 : decide (0 ≤ a0_0) = true := decide_eq_true c5
 clear c5
 by_cases c6 : (a0_0 : Int).toNat ≤ 35184372088832
 rotate_left
 ·rw [if_neg c6] at H
  exact absurd H (by simp)
 rw [if_pos c6] at H
 have c6b0 := eq_true c6
 have c6b1 : decide ((a0_0 : Int).toNat ≤ 35184372088832) = true := decide_eq_true c6
 clear c6
 obtain ⟨y186, hy186⟩ : ∃ y_ : List Int, y_ = (List.replicate (a0_0 : Int).toNat 0) := ⟨_, rfl⟩
 replace H : (spec_l15Rows.l0 k l1 y183 (([y186] : List (List Int))) 1 a0_0 l0_1) = some (r1, r2) := by first | (rw [hy186]; with_reducible exact H) | (have H2_ := (Option.bind_some _ _).symm.trans H; rw [hy186]; with_reducible exact H2_) | (have H2_ := (Option.bind_some _ _).symm.trans H; with_reducible exact H2_) | with_reducible exact H | (rw [hy186]; exact H) | exact H
 have Ny186 := ak hy186
 clear hy186
 obtain ⟨y189, hy189⟩ : ∃ y_ : List (List Int), y_ = (([y186] : List (List Int))) := ⟨_, rfl⟩
 replace H : (spec_l15Rows.l0 k l1 y183 y189 1 a0_0 l0_1) = some (r1, r2) := by first | (rw [hy189]; with_reducible exact H) | (have H2_ := (Option.bind_some _ _).symm.trans H; rw [hy189]; with_reducible exact H2_) | (have H2_ := (Option.bind_some _ _).symm.trans H; with_reducible exact H2_) | with_reducible exact H | (rw [hy189]; exact H) | exact H
 have Ny189 := ak hy189
 clear hy189
 have H' := ak H
 clear H
 go_enter Try.func77, Try.ntmps77
 go_wp2_with (first | ((with_reducible refine gate_dst (N := 2) rfl ?_); refine box_event ?hg (N := 2) ?hd (cs := #[.int .i64 a0_0, .slice A0_1 l0_1.length c0_1]) (t := 25) ?hr ?_; (case hd => rfl); (case hg => rfl); (case hr => first | (go_simp; done) | (go_simp; rfl)); intro gb175 hg w7 hbox hb; have BK175 := ak (hbox); have GW175 := ak ((by rw [hg]; exact (below_size (bl HB)) : w.heap.size ≤ gb175)); have GE175 := ak ((by rw [hg]; exact (below_size (bl HB)) : w.heap.size ≤ gb175)); replace HB := ak (below_step (bl HB) hb); clear hb hbox hg) | ((with_reducible refine gate_dst (N := 14) rfl ?_); refine Kd.R_lit (Kd.int .i64) _ 3 ?hg (N := 14) ?hd (xs := ([] : List Int)) (inner := []) (ok := fun _ => True) (okp := fun _ => True) ?hr ?hp (fun _ hk => hk) trivial (Below.refl _ _) (Nat.le_refl _) (by simp) ?_; (case hd => rfl); (case hg => rfl); (case hr => first | (go_simp; done) | (go_simp; rfl)); (case hp => exact (Reps.none _ _)); intro v177 w8 ho9 hb hg_ hnew_; clear hg_ hnew_; (first | rw [← Ny176.out] at ho9 | (simp only [Int.reduceToNat] at ho9; rw [← Ny176.out] at ho9)); have HO178 := ak (Kd.R_lower (Kd.R_newM (M := fun k_ => (w.heap.size ≤ k_)) ho9 (below_size (bl1 HB GE175)) (fun k_ h_ => h_)) (below_size (bl1 HB GE175))); replace BK175 := ak (blk_below (bk BK175) hb); replace HB := ak (below_step (bl1 HB GE175) hb); clear hb ho9; have p179 : 0 ≤ (0 : Int) := (by omega); have q179 : 0 < (l1.length : Int) := oT (by first | (with_reducible assumption) | assumption); obtain ⟨ad179, A179_0, c179_0, e179, hx179_0, hl179_0, hi179_0⟩ := at_L3 HR1.out 0 p179 q179; cases e179; have qi179 : (0 < l1.length) = True := eq_true (by omega); (try rw [show ((0 : Int)).toNat = 0 from rfl] at hx179_0); (try rw [Addr.add_zero'] at hx179_0); replace hx179_0 := hcb HB.out hx179_0; have HR179_0 := ak hi179_0; have HC179_0 := ak hl179_0; clear hi179_0 hl179_0; replace p179 := eq_true p179; replace q179 := eq_true q179) | ((with_reducible refine gate_builtin (b := .append) (xs := #[.tmp 14, .tmp 17]) rfl ?_); at_builtin; refine Kd.R_append_rows (Kd.int .i64) (w0 := w) w.heap.size rfl (.tmp 14) (.tmp 17) 33 3 (.int .i64 0) 8 rfl Try.underlying33 info3 rfl (by decide) (by omega) v177 y176 (rd_L3 l1 0) _ _ _ (fun k_ => (w.heap.size ≤ k_)) (fun _ => False) rfl rfl ?aO ?aR (fun _ _ h => h) (fun _ h => h.elim) ?aF ?aB ?aS ?aL ?_; (case aR => repeat (first | exact (Kd.C_below HR179_0.out HB.out) | (with_reducible refine Kd.C_alloc ?_ _) | (with_reducible refine Kd.C_drewN ?_ _) | (with_reducible refine Kd.C_drew ?_))); (case aB => exact (bl1 HB GE175)); (case aF => exact (fun k_ hk => (Nat.le_trans (below_size (bl1 HB GE175)) hk))); (case aO => exact (by (with_reducible repeat (first | apply Kd.R_alloc | apply Kd.R_drewN | apply Kd.R_drew)); exact Kd.R_mono HO178.out (fun _ hk => hk.1))); (case aS => exact (below_size (bl1 HB GE175))); (case aL => have := LMc4.out; omega); intro v181 w10 ho hb hg hat; rw [← Ny180.out] at ho; have n0_ := ak (blk_grown (bk BK175) hg (Kd.R_ne HO178.out BK175.out (by decide))); have n1_ := ak (hb); have n2_ := ak (ho); clear BK175; clear HB; clear HO178; have BK175 := n0_; have HB := n1_; have HO182 := n2_; clear n0_ n1_ n2_; clear ho hb hg hat; obtain ⟨Ao11, co11, eo11⟩ := Kd.R_slice HO182.out; subst eo11) | ((with_reducible refine gate_dst (N := 19) rfl ?_); refine Kd.N_lit (Kd.slice 3 (Kd.int .i64)) _ 33 ?hg (N' := 19) ?hd (xs := ([y180] : List (List Int))) (inner := [.slice Ao11 y180.length co11]) (ok := (fun k_ => (w.heap.size ≤ k_) ∧ k_ ≠ gb175)) (okp := (fun k_ => (w.heap.size ≤ k_) ∧ k_ ≠ gb175)) ?hr ?hp (fun _ hk => hk) ((show ∀ k_, w10.heap.size ≤ k_ → (fun k_ => (w.heap.size ≤ k_) ∧ k_ ≠ gb175) k_ from fun k_ hk => ⟨(Nat.le_trans (below_size (bl1 HB GE175)) hk), Kd.freshB (bk BK175) k_ hk⟩) _ (Nat.le_refl _)) (Below.refl _ _) (Nat.le_refl _) (by simp) ?_; (case hd => rfl); (case hg => rfl); (case hr => first | (go_simp; done) | (go_simp; rfl)); (case hp => exact (Reps.one (show Kd.FK (Kd.slice 3 (Kd.int .i64)) _ _ y180 [.slice Ao11 y180.length co11] from (Kd.FK_slice_mk (Kd.R_reads' (Kd.R_mono (ok' := (fun k_ => (w.heap.size ≤ k_) ∧ k_ ≠ gb175)) (Kd.R_types (HO182.out) BK175.out (by decide)) (fun k_ hk => ⟨hk.1, hk.2⟩))).2.1 (Kd.R_F (Kd.R_mono (ok' := (fun k_ => (w.heap.size ≤ k_) ∧ k_ ≠ gb175)) (Kd.R_types (HO182.out) BK175.out (by decide)) (fun k_ hk => ⟨hk.1, hk.2⟩))))) (Reps.none _ _))); intro v184 w12 ho13 hb hg_ hnew_; clear hg_ hnew_; (first | rw [← Ny183.out] at ho13 | (simp only [Int.reduceToNat] at ho13; rw [← Ny183.out] at ho13)); have n0_ := ak (Kd.N_lower ho13 (below_size (bl1 HB GE175))); have n1_ := ak (blk_below (bk BK175) hb); have n2_ := ak (below_step (bl1 HB GE175) hb); clear BK175; clear HB; clear HO182; have HO185 := n0_; have BK175 := n1_; have HB := n2_; clear n0_ n1_ n2_; clear hb ho13; have hcz14_0 := bc w12 BK175 0 (.int .i64 a0_0) rfl; have hcz14_1 := bc w12 BK175 1 (.slice A0_1 l0_1.length c0_1) rfl; have hfz14_0 := fz BK175 0; have hfz14_1 := fz BK175 1) | ((with_reducible refine gate_dst (N := 22) rfl ?_); refine Kd.R_make (Kd.int .i64) _ 3 rfl (N := 22) rfl 33 _ _ rfl a0_0 rfl rfl Try.underlying33 (.int .i64 0) 8 info3 rfl (by decide) (by omega) 0 (ok := fun _ => True) (okp := fun _ => True) rfl (fun _ hk => hk) trivial (oT (by first | (with_reducible assumption) | assumption)) (Nat.le_trans (Nat.mul_le_mul_right _ (oT (by first | (with_reducible assumption) | assumption) : a0_0.toNat ≤ 35184372088832)) (by omega)) (Below.refl _ _) (Nat.le_refl _) ?_; intro v187 w15 ho16 hb hg_ hnew_; clear hg_ hnew_; (first | rw [← Ny186.out] at ho16 | (simp only [Int.reduceToNat] at ho16; rw [← Ny186.out] at ho16)); replace HO185 := ak (Kd.N_elder' (by (with_reducible repeat (first | apply Kd.N_alloc | apply Kd.N_drewN | apply Kd.N_drew)); exact HO185.out) (Kd.R_base ho16) hb); have HO188 := ak (Kd.R_lower (Kd.R_newM (M := fun k_ => (w.heap.size ≤ k_)) ho16 (below_size (bl1 HB GE175)) (fun k_ h_ => h_)) (below_size (bl1 HB GE175))); replace BK175 := ak (blk_below (bk BK175) hb); replace HB := ak (below_step (bl1 HB GE175) hb); clear hb ho16; obtain ⟨Ao17, co17, eo17⟩ := Kd.R_slice HO188.out; subst eo17) | ((with_reducible refine gate_dst (N := 23) rfl ?_); refine Kd.N_lit (Kd.slice 3 (Kd.int .i64)) _ 33 ?hg (N' := 23) ?hd (xs := ([y186] : List (List Int))) (inner := [.slice Ao17 y186.length co17]) (ok := (fun k_ => (w.heap.size ≤ k_) ∧ some k_ ≠ (v184 : Value).ownBlock ∧ k_ ≠ gb175)) (okp := (fun k_ => (w.heap.size ≤ k_) ∧ some k_ ≠ (v184 : Value).ownBlock ∧ k_ ≠ gb175)) ?hr ?hp (fun _ hk => hk) ((show ∀ k_, w15.heap.size ≤ k_ → (fun k_ => (w.heap.size ≤ k_) ∧ some k_ ≠ (v184 : Value).ownBlock ∧ k_ ≠ gb175) k_ from fun k_ hk => ⟨(Nat.le_trans (below_size (bl1 HB GE175)) hk), Kd.fresh' (Kd.N_lt (by (with_reducible repeat (first | apply Kd.N_alloc | apply Kd.N_drewN | apply Kd.N_drew)); exact HO185.out)) k_ hk, Kd.freshB (bk BK175) k_ hk⟩) _ (Nat.le_refl _)) (Below.refl _ _) (Nat.le_refl _) (by simp) ?_; (case hd => rfl); (case hg => rfl); (case hr => first | (go_simp; done) | (go_simp; rfl)); (case hp => exact (Reps.one (show Kd.FK (Kd.slice 3 (Kd.int .i64)) _ _ y186 [.slice Ao17 y186.length co17] from (Kd.FK_slice_mk (Kd.R_reads' (Kd.R_mono (ok' := (fun k_ => (w.heap.size ≤ k_) ∧ some k_ ≠ (v184 : Value).ownBlock ∧ k_ ≠ gb175)) (Kd.R_types (Kd.R_apart' (HO188.out) (Kd.N_typed HO185.out) (by decide)) BK175.out (by decide)) (fun k_ hk => ⟨hk.1.1.1, ⟨hk.1.2, hk.2⟩⟩))).2.1 (Kd.R_F (Kd.R_mono (ok' := (fun k_ => (w.heap.size ≤ k_) ∧ some k_ ≠ (v184 : Value).ownBlock ∧ k_ ≠ gb175)) (Kd.R_types (Kd.R_apart' (HO188.out) (Kd.N_typed HO185.out) (by decide)) BK175.out (by decide)) (fun k_ hk => ⟨hk.1.1.1, ⟨hk.1.2, hk.2⟩⟩))))) (Reps.none _ _))); intro v190 w18 ho19 hb hg_ hnew_; clear hg_ hnew_; (first | rw [← Ny189.out] at ho19 | (simp only [Int.reduceToNat] at ho19; rw [← Ny189.out] at ho19)); have n0_ := ak (Kd.N_elder' (by (with_reducible repeat (first | apply Kd.N_alloc | apply Kd.N_drewN | apply Kd.N_drew)); exact HO185.out) (Kd.N_base ho19) hb); have n1_ := ak (Kd.N_lower ho19 (below_size (bl1 HB GE175))); have n2_ := ak (blk_below (bk BK175) hb); have n3_ := ak (below_step (bl1 HB GE175) hb); clear HO185; clear BK175; clear HB; clear HO188; have HO185 := n0_; have HO191 := n1_; have BK175 := n2_; have HB := n3_; clear n0_ n1_ n2_ n3_; clear hb ho19))
 go_loopg [6, 7, 8] k (fun kq v6 v7 v8 w' => ∃ (x6_1 : List (List Int)) (x7_1 : List (List Int)) (x8_1 : Int), v8 = .int .i64 x8_1 ∧ Aside0 (spec_l15Rows.l0 kq l1 x6_1 x7_1 x8_1 a0_0 l0_1 = some (r1, r2)) ∧ Aside0 (kq ≤ k) ∧ Aside0 (Kd.N (Kd.slice 3 (Kd.int .i64)) 33 w' w.heap.size (fun k_ => (w.heap.size ≤ k_) ∧ some k_ ≠ (v7 : Value).ownBlock ∧ k_ ≠ gb175) v6 x6_1) ∧ Aside0 (Kd.N (Kd.slice 3 (Kd.int .i64)) 33 w' w.heap.size (fun k_ => (w.heap.size ≤ k_) ∧ some k_ ≠ (v6 : Value).ownBlock ∧ k_ ≠ gb175) v7 x7_1) ∧ Aside0 (w'.heap[gb175]? = some (.cells #[.int .i64 a0_0, (.slice A0_1 l0_1.length c0_1)] 25 (0, 0))) ∧ Aside0 (Below w.heap.size w w'))
 case atStart => exact ⟨(y183), (y189), (1), (by first | rfl | (simp; done) | (simp [*]; done)), H', ⟨Nat.le_refl _⟩, ⟨by (with_reducible repeat (first | apply Kd.N_alloc | apply Kd.N_drewN | apply Kd.N_drew)); exact Kd.N_mono HO185.out (fun _ hk => ⟨hk.1.1.1, ⟨hk.2, hk.1.1.2⟩⟩)⟩, ⟨by (with_reducible repeat (first | apply Kd.N_alloc | apply Kd.N_drewN | apply Kd.N_drew)); exact HO191.out⟩, ⟨bk BK175⟩, ⟨bl1 HB GE175⟩⟩
 clear H'
 try clear c1
 try clear p1
 try clear q1
 try clear hx1
 try clear qi1
 try clear p2
 try clear c3
 try clear c3b0
 try clear c3b1
 try clear c4
 try clear c5
 try clear c5b0
 try clear c5b1
 try clear c6
 try clear c6b0
 try clear c6b1
 try clear c7
 try clear c17
 try clear p17
 try clear q17
 try clear hx17
 try clear qi17
 try clear hcz14_0
 try clear hcz14_1
 try clear hfz14_0
 try clear hfz14_1
 try clear hx179_0
 try clear p179
 try clear q179
 obtain ⟨x6_1, x7_1, x8_1, rfl, HA, HK1, HO_6, HO_7, BK175, HB⟩ := hrel
 cases gk with
 | zero => exact absurd HA.out (by simp [spec_l15Rows.l0])
 | succ k1 =>
  have H := HA.out
  clear HA
  simp only [spec_l15Rows.l0] at H
  by_cases c20 : x8_1 < (l1.length : Int)
  rotate_left
  ·rw [if_neg c20] at H
   have c20b0 : decide (x8_1 < (l1.length : Int)) = false := decide_eq_false c20
   clear c20
   simp only [Option.some.injEq, Prod.mk.injEq] at H
   obtain ⟨rfl, rfl⟩ := H
   go_wp2
   go_ret2
   exact ⟨_, _, by first | rfl | (simp [errW_none, errW_some] <;> rfl) | (simp [*, errW_none, errW_some] <;> rfl), by (with_reducible repeat (first | apply Kd.N_alloc | apply Kd.N_drewN | apply Kd.N_drew)); exact Kd.N_mono HO_6.out (fun _ hk => ⟨hk.1, hk.2.1⟩), by (with_reducible repeat (first | apply Kd.N_alloc | apply Kd.N_drewN | apply Kd.N_drew)); exact Kd.N_mono HO_7.out (fun _ hk => ⟨hk.1, hk.2.1⟩), bl1 HB GE175⟩
  rw [if_pos c20] at H
  have c20b0 : decide (x8_1 < (l1.length : Int)) = true := decide_eq_true c20
  clear c20
  by_cases c21 : 0 ≤ a0_0
  rotate_left
  ·rw [if_neg c21] at H
   exact absurd H (by simp)
  rw [if_pos c21] at H
  have c21b0 := eq_true c21
  have c21b1 : decide (0 ≤ a0_0) = true := decide_eq_true c21
  clear c21
  by_cases c22 : (a0_0 : Int).toNat ≤ 35184372088832
  rotate_left
  ·rw [if_neg c22] at H
   exact absurd H (by simp)
  rw [if_pos c22] at H
  have c22b0 := eq_true c22
  have c22b1 : decide ((a0_0 : Int).toNat ≤ 35184372088832) = true := decide_eq_true c22
  clear c22
  obtain ⟨y192, hy192⟩ : ∃ y_ : List Int, y_ = (List.replicate (a0_0 : Int).toNat 0) := ⟨_, rfl⟩
  replace H : (spec_l15Rows.l1 k1 l1 x6_1 x7_1 x8_1 y192 (List.replicate (a0_0 : Int).toNat 0) 0 a0_0 l0_1) = some (r1, r2) := by first | (rw [hy192]; with_reducible exact H) | (have H2_ := (Option.bind_some _ _).symm.trans H; rw [hy192]; with_reducible exact H2_) | (have H2_ := (Option.bind_some _ _).symm.trans H; with_reducible exact H2_) | with_reducible exact H | (rw [hy192]; exact H) | exact H
  have Ny192 := ak hy192
  clear hy192
  obtain ⟨y195, hy195⟩ : ∃ y_ : List Int, y_ = (List.replicate (a0_0 : Int).toNat 0) := ⟨_, rfl⟩
  replace H : (spec_l15Rows.l1 k1 l1 x6_1 x7_1 x8_1 y192 y195 0 a0_0 l0_1) = some (r1, r2) := by first | (rw [hy195]; with_reducible exact H) | (have H2_ := (Option.bind_some _ _).symm.trans H; rw [hy195]; with_reducible exact H2_) | (have H2_ := (Option.bind_some _ _).symm.trans H; with_reducible exact H2_) | with_reducible exact H | (rw [hy195]; exact H) | exact H
  have Ny195 := ak hy195
  clear hy195
  have H' := ak H
  clear H
  have hcz23_0 := bc wr BK175 0 (.int .i64 a0_0) rfl
  have hcz23_1 := bc wr BK175 1 (.slice A0_1 l0_1.length c0_1) rfl
  have hfz23_0 := fz BK175 0
  have hfz23_1 := fz BK175 1
  go_wp2_with (first | ((with_reducible refine gate_dst (N := 32) rfl ?_); refine Kd.R_make (Kd.int .i64) _ 3 rfl (N := 32) rfl 33 _ _ rfl a0_0 rfl rfl Try.underlying33 (.int .i64 0) 8 info3 rfl (by decide) (by omega) 0 (ok := fun _ => True) (okp := fun _ => True) rfl (fun _ hk => hk) trivial (oT (by first | (with_reducible assumption) | assumption)) (Nat.le_trans (Nat.mul_le_mul_right _ (oT (by first | (with_reducible assumption) | assumption) : a0_0.toNat ≤ 35184372088832)) (by omega)) (Below.refl _ _) (Nat.le_refl _) ?_; intro v193 w24 ho25 hb hg_ hnew_; clear hg_ hnew_; (first | rw [← Ny192.out] at ho25 | (simp only [Int.reduceToNat] at ho25; rw [← Ny192.out] at ho25)); replace HO_6 := ak (Kd.N_elder' (by (with_reducible repeat (first | apply Kd.N_alloc | apply Kd.N_drewN | apply Kd.N_drew)); exact HO_6.out) (Kd.R_base ho25) hb); replace HO_7 := ak (Kd.N_elder' (by (with_reducible repeat (first | apply Kd.N_alloc | apply Kd.N_drewN | apply Kd.N_drew)); exact HO_7.out) (Kd.R_base ho25) hb); have HO194 := ak (Kd.R_lower (Kd.R_newM (M := fun k_ => (w.heap.size ≤ k_)) ho25 (below_size (bl1 HB GE175)) (fun k_ h_ => h_)) (below_size (bl1 HB GE175))); replace BK175 := ak (blk_below (bk BK175) hb); replace HB := ak (below_step (bl1 HB GE175) hb); clear hb ho25; have hcz26_0 := bc w24 BK175 0 (.int .i64 a0_0) rfl; have hcz26_1 := bc w24 BK175 1 (.slice A0_1 l0_1.length c0_1) rfl; have hfz26_0 := fz BK175 0; have hfz26_1 := fz BK175 1) | ((with_reducible refine gate_dst (N := 35) rfl ?_); refine Kd.R_make (Kd.int .i64) _ 3 rfl (N := 35) rfl 33 _ _ rfl a0_0 rfl rfl Try.underlying33 (.int .i64 0) 8 info3 rfl (by decide) (by omega) 0 (ok := fun _ => True) (okp := fun _ => True) rfl (fun _ hk => hk) trivial (oT (by first | (with_reducible assumption) | assumption)) (Nat.le_trans (Nat.mul_le_mul_right _ (oT (by first | (with_reducible assumption) | assumption) : a0_0.toNat ≤ 35184372088832)) (by omega)) (Below.refl _ _) (Nat.le_refl _) ?_; intro v196 w27 ho28 hb hg_ hnew_; clear hg_ hnew_; (first | rw [← Ny195.out] at ho28 | (simp only [Int.reduceToNat] at ho28; rw [← Ny195.out] at ho28)); replace HO_6 := ak (Kd.N_elder' (by (with_reducible repeat (first | apply Kd.N_alloc | apply Kd.N_drewN | apply Kd.N_drew)); exact HO_6.out) (Kd.R_base ho28) hb); replace HO_7 := ak (Kd.N_elder' (by (with_reducible repeat (first | apply Kd.N_alloc | apply Kd.N_drewN | apply Kd.N_drew)); exact HO_7.out) (Kd.R_base ho28) hb); have HO197 := ak (Kd.R_lower (Kd.R_new' (Kd.R_newM (M := fun k_ => (w.heap.size ≤ k_)) ho28 (below_size (bl1 HB GE175)) (fun k_ h_ => h_)) (Kd.R_lt (rk HO194))) (below_size (bl1 HB GE175))); replace HO194 := ak (Kd.R_elder' (rk HO194) (Kd.R_base ho28) hb); replace BK175 := ak (blk_below (bk BK175) hb); replace HB := ak (below_step (bl1 HB GE175) hb); clear hb ho28))
  go_loopg [11] k1 (fun kq v11 w' => ∃ (x9_2 : List Int) (x10_2 : List Int) (x11_2 : Int), v11 = .int .i64 x11_2 ∧ Aside0 (spec_l15Rows.l1 kq l1 x6_1 x7_1 x8_1 x9_2 x10_2 x11_2 a0_0 l0_1 = some (r1, r2)) ∧ Aside0 (kq ≤ k1) ∧ Aside0 (Kd.N (Kd.slice 3 (Kd.int .i64)) 33 w' w.heap.size (fun k_ => (w.heap.size ≤ k_) ∧ some k_ ≠ (u7 : Value).ownBlock ∧ some k_ ≠ (v193 : Value).ownBlock ∧ some k_ ≠ (v196 : Value).ownBlock ∧ k_ ≠ gb175) u6 x6_1) ∧ Aside0 (Kd.N (Kd.slice 3 (Kd.int .i64)) 33 w' w.heap.size (fun k_ => (w.heap.size ≤ k_) ∧ some k_ ≠ (u6 : Value).ownBlock ∧ some k_ ≠ (v193 : Value).ownBlock ∧ some k_ ≠ (v196 : Value).ownBlock ∧ k_ ≠ gb175) u7 x7_1) ∧ Aside0 (Kd.R (Kd.int .i64) 3 w' w.heap.size (fun k_ => (w.heap.size ≤ k_) ∧ some k_ ≠ (v196 : Value).ownBlock) v193 x9_2) ∧ Aside0 (Kd.R (Kd.int .i64) 3 w' w.heap.size (fun k_ => (w.heap.size ≤ k_) ∧ some k_ ≠ (v193 : Value).ownBlock) v196 x10_2) ∧ Aside0 (w'.heap[gb175]? = some (.cells #[.int .i64 a0_0, (.slice A0_1 l0_1.length c0_1)] 25 (0, 0))) ∧ Aside0 (Below w.heap.size w w'))
  case atStart => exact ⟨(y192), (y195), (0), (by first | rfl | (simp; done) | (simp [*]; done)), H', ⟨Nat.le_refl _⟩, ⟨by (with_reducible repeat (first | apply Kd.N_alloc | apply Kd.N_drewN | apply Kd.N_drew)); exact Kd.N_mono HO_6.out (fun _ hk => ⟨hk.1.1.1, ⟨hk.1.1.2.1, ⟨hk.1.2, ⟨hk.2, hk.1.1.2.2⟩⟩⟩⟩)⟩, ⟨by (with_reducible repeat (first | apply Kd.N_alloc | apply Kd.N_drewN | apply Kd.N_drew)); exact Kd.N_mono HO_7.out (fun _ hk => ⟨hk.1.1.1, ⟨hk.1.1.2.1, ⟨hk.1.2, ⟨hk.2, hk.1.1.2.2⟩⟩⟩⟩)⟩, ⟨by (with_reducible repeat (first | apply Kd.R_alloc | apply Kd.R_drewN | apply Kd.R_drew)); exact Kd.R_mono HO194.out (fun _ hk => ⟨hk.1.1, hk.2⟩)⟩, ⟨by (with_reducible repeat (first | apply Kd.R_alloc | apply Kd.R_drewN | apply Kd.R_drew)); exact Kd.R_mono HO197.out (fun _ hk => ⟨hk.1.1, hk.2⟩)⟩, ⟨bk BK175⟩, ⟨bl1 HB GE175⟩⟩
  clear H'
  try clear c1
  try clear p1
  try clear q1
  try clear hx1
  try clear qi1
  try clear c2
  try clear p2
  try clear c3
  try clear c3b0
  try clear c3b1
  try clear c4
  try clear c5
  try clear c5b0
  try clear c5b1
  try clear c6
  try clear c6b0
  try clear c6b1
  try clear c7
  try clear c17
  try clear p17
  try clear q17
  try clear hx17
  try clear qi17
  try clear c20
  try clear c20b0
  try clear c21
  try clear c21b0
  try clear c21b1
  try clear c22
  try clear c22b0
  try clear c22b1
  try clear hcz14_0
  try clear hcz14_1
  try clear hcz23_0
  try clear hcz23_1
  try clear hcz26_0
  try clear hcz26_1
  try clear hfz14_0
  try clear hfz14_1
  try clear hfz23_0
  try clear hfz23_1
  try clear hfz26_0
  try clear hfz26_1
  try clear hx179_0
  try clear p1
  try clear p17
  try clear p179
  try clear p2
  try clear q1
  try clear q17
  try clear q179
  obtain ⟨x9_2, x10_2, x11_2, rfl, HA, HK2, HO_6, HO_7, HO_9, HO_10, BK175, HB⟩ := hrel
  cases gk with
  | zero => exact absurd HA.out (by simp [spec_l15Rows.l1])
  | succ k2 =>
   have H := HA.out
   clear HA
   simp only [spec_l15Rows.l1] at H
   by_cases c29 : x11_2 < a0_0
   rotate_left
   ·rw [if_neg c29] at H
    have c29b0 : decide (x11_2 < a0_0) = false := decide_eq_false c29
    clear c29
    by_cases c80 : x6_1.length < 5864062014805
    rotate_left
    ·rw [if_neg c80] at H
     exact absurd H (by simp)
    rw [if_pos c80] at H
    have LMc80 := ak c80
    clear c80
    obtain ⟨y198, hy198⟩ : ∃ y_ : List (List Int), y_ = (x6_1 ++ [x9_2]) := ⟨_, rfl⟩
    replace H : (if x7_1.length < 5864062014805 then (spec_l15Rows.l0 k2 l1 y198 (x7_1 ++ [x10_2]) (wrap64 (x8_1 + 1)) a0_0 l0_1) else (none)) = some (r1, r2) := by first | (rw [hy198]; with_reducible exact H) | (have H2_ := (Option.bind_some _ _).symm.trans H; rw [hy198]; with_reducible exact H2_) | (have H2_ := (Option.bind_some _ _).symm.trans H; with_reducible exact H2_) | with_reducible exact H | (rw [hy198]; exact H) | exact H
    have Ny198 := ak hy198
    clear hy198
    by_cases c81 : x7_1.length < 5864062014805
    rotate_left
    ·rw [if_neg c81] at H
     exact absurd H (by simp)
    rw [if_pos c81] at H
    have LMc81 := ak c81
    clear c81
    obtain ⟨y201, hy201⟩ : ∃ y_ : List (List Int), y_ = (x7_1 ++ [x10_2]) := ⟨_, rfl⟩
    replace H : (spec_l15Rows.l0 k2 l1 y198 y201 (wrap64 (x8_1 + 1)) a0_0 l0_1) = some (r1, r2) := by first | (rw [hy201]; with_reducible exact H) | (have H2_ := (Option.bind_some _ _).symm.trans H; rw [hy201]; with_reducible exact H2_) | (have H2_ := (Option.bind_some _ _).symm.trans H; with_reducible exact H2_) | with_reducible exact H | (rw [hy201]; exact H) | exact H
    have Ny201 := ak hy201
    clear hy201
    have H' := ak H
    clear H
    have hcz82_0 := bc wr BK175 0 (.int .i64 a0_0) rfl
    have hcz82_1 := bc wr BK175 1 (.slice A0_1 l0_1.length c0_1) rfl
    have hfz82_0 := fz BK175 0
    have hfz82_1 := fz BK175 1
    obtain ⟨Ao84, co84, eo84⟩ := Kd.R_slice HO_9.out
    subst eo84
    go_wp2_with (first | ((with_reducible refine gate_builtin (b := .append) (xs := #[.tmp 120, .tmp 122]) rfl ?_); at_builtin; refine Kd.N_append (Kd.slice 3 (Kd.int .i64)) (w0 := w) w.heap.size rfl (.tmp 120) (.tmp 122) 28 33 (.slice none 0 0) 24 rfl Try.underlying28 info33 rfl (by decide) (by omega) u6 x6_1 x9_2 [.slice Ao84 x9_2.length co84] (fun k_ => (w.heap.size ≤ k_) ∧ some k_ ≠ (u7 : Value).ownBlock ∧ some k_ ≠ (v196 : Value).ownBlock ∧ k_ ≠ gb175) (fun k_ => ((fun k_ => (w.heap.size ≤ k_) ∧ some k_ ≠ (u7 : Value).ownBlock ∧ some k_ ≠ (v196 : Value).ownBlock ∧ k_ ≠ gb175)) k_ ∧ some k_ ≠ (u6 : Value).ownBlock) rfl rfl ?aP (fun _ hk => hk) ?aF ?aO ?aB ?aS ?aL ?_; (case aP => exact (Kd.FK_slice_mk (Kd.R_reads' (Kd.R_mono (ok' := (fun k_ => ((fun k_ => (w.heap.size ≤ k_) ∧ some k_ ≠ (u7 : Value).ownBlock ∧ some k_ ≠ (v196 : Value).ownBlock ∧ k_ ≠ gb175)) k_ ∧ some k_ ≠ (u6 : Value).ownBlock)) (Kd.R_types (Kd.R_apart' (Kd.R_apart' (HO_9.out) (Kd.N_typed HO_7.out) (by decide)) (Kd.N_typed HO_6.out) (by decide)) BK175.out (by decide)) (fun k_ hk => ⟨⟨hk.1.1.1.1, ⟨hk.1.1.2, ⟨hk.1.1.1.2, hk.2⟩⟩⟩, hk.1.2⟩))).2.1 (Kd.R_F (Kd.R_mono (ok' := (fun k_ => ((fun k_ => (w.heap.size ≤ k_) ∧ some k_ ≠ (u7 : Value).ownBlock ∧ some k_ ≠ (v196 : Value).ownBlock ∧ k_ ≠ gb175)) k_ ∧ some k_ ≠ (u6 : Value).ownBlock)) (Kd.R_types (Kd.R_apart' (Kd.R_apart' (HO_9.out) (Kd.N_typed HO_7.out) (by decide)) (Kd.N_typed HO_6.out) (by decide)) BK175.out (by decide)) (fun k_ hk => ⟨⟨hk.1.1.1.1, ⟨hk.1.1.2, ⟨hk.1.1.1.2, hk.2⟩⟩⟩, hk.1.2⟩))))); (case aB => exact (bl1 HB GE175)); (case aF => exact (fun k_ hk => ⟨(Nat.le_trans (below_size (bl1 HB GE175)) hk), Kd.fresh' (Kd.N_lt (by (with_reducible repeat (first | apply Kd.N_alloc | apply Kd.N_drewN | apply Kd.N_drew)); exact HO_7.out)) k_ hk, Kd.fresh' (Kd.R_lt (rk HO_10)) k_ hk, Kd.freshB (bk BK175) k_ hk⟩)); (case aO => exact (by (with_reducible repeat (first | apply Kd.N_alloc | apply Kd.N_drewN | apply Kd.N_drew)); exact Kd.N_mono HO_6.out (fun _ hk => ⟨hk.1, ⟨hk.2.1, ⟨hk.2.2.2.1, hk.2.2.2.2⟩⟩⟩))); (case aS => exact (below_size (bl1 HB GE175))); (case aL => have := LMc80.out; omega); intro v199 w83 ho hb hg hat; rw [← Ny198.out] at ho; have n0_ := ak (Kd.N_afterv (ok := (fun k_ => (w.heap.size ≤ k_) ∧ some k_ ≠ (.slice Ao84 x9_2.length co84 : Value).ownBlock ∧ some k_ ≠ (v196 : Value).ownBlock ∧ k_ ≠ gb175)) (by (with_reducible repeat (first | apply Kd.N_alloc | apply Kd.N_drewN | apply Kd.N_drew)); exact Kd.N_mono HO_7.out (fun _ hk => ⟨⟨hk.1, ⟨hk.2.2.1, ⟨hk.2.2.2.1, hk.2.2.2.2⟩⟩⟩, hk.2.1⟩)) hg hat); have n1_ := ak (Kd.R_over' (rk HO_10) (Kd.N_typed (by (with_reducible repeat (first | apply Kd.N_alloc | apply Kd.N_drewN | apply Kd.N_drew)); exact HO_6.out)) (by decide) hg); have n2_ := ak (blk_grown (bk BK175) hg (Kd.N_ne HO_6.out BK175.out (by decide))); have n3_ := ak (hb); have n4_ := ak (ho); clear HO_7; clear HO_10; clear BK175; clear HB; clear HO_6; clear HO_9; have HO_7 := n0_; have HO_10 := n1_; have BK175 := n2_; have HB := n3_; have HO200 := n4_; clear n0_ n1_ n2_ n3_ n4_; clear ho hb hg hat; obtain ⟨Ao86, co86, eo86⟩ := Kd.R_slice HO_10.out; subst eo86) | ((with_reducible refine gate_builtin (b := .append) (xs := #[.tmp 124, .tmp 126]) rfl ?_); at_builtin; refine Kd.N_append (Kd.slice 3 (Kd.int .i64)) (w0 := w) w.heap.size rfl (.tmp 124) (.tmp 126) 28 33 (.slice none 0 0) 24 rfl Try.underlying28 info33 rfl (by decide) (by omega) u7 x7_1 x10_2 [.slice Ao86 x10_2.length co86] (fun k_ => (w.heap.size ≤ k_) ∧ some k_ ≠ (v199 : Value).ownBlock ∧ k_ ≠ gb175) (fun k_ => ((fun k_ => (w.heap.size ≤ k_) ∧ some k_ ≠ (v199 : Value).ownBlock ∧ k_ ≠ gb175)) k_ ∧ some k_ ≠ (u7 : Value).ownBlock) rfl rfl ?aP (fun _ hk => hk) ?aF ?aO ?aB ?aS ?aL ?_; (case aP => exact (Kd.FK_slice_mk (Kd.R_reads' (Kd.R_mono (ok' := (fun k_ => ((fun k_ => (w.heap.size ≤ k_) ∧ some k_ ≠ (v199 : Value).ownBlock ∧ k_ ≠ gb175)) k_ ∧ some k_ ≠ (u7 : Value).ownBlock)) (Kd.R_types (Kd.R_apart' (Kd.R_apart' (HO_10.out) (Kd.N_typed HO200.out) (by decide)) (Kd.N_typed HO_7.out) (by decide)) BK175.out (by decide)) (fun k_ hk => ⟨⟨hk.1.1.1.1, ⟨hk.1.1.2, hk.2⟩⟩, hk.1.2⟩))).2.1 (Kd.R_F (Kd.R_mono (ok' := (fun k_ => ((fun k_ => (w.heap.size ≤ k_) ∧ some k_ ≠ (v199 : Value).ownBlock ∧ k_ ≠ gb175)) k_ ∧ some k_ ≠ (u7 : Value).ownBlock)) (Kd.R_types (Kd.R_apart' (Kd.R_apart' (HO_10.out) (Kd.N_typed HO200.out) (by decide)) (Kd.N_typed HO_7.out) (by decide)) BK175.out (by decide)) (fun k_ hk => ⟨⟨hk.1.1.1.1, ⟨hk.1.1.2, hk.2⟩⟩, hk.1.2⟩))))); (case aB => exact (bl1 HB GE175)); (case aF => exact (fun k_ hk => ⟨(Nat.le_trans (below_size (bl1 HB GE175)) hk), Kd.fresh' (Kd.N_lt (by (with_reducible repeat (first | apply Kd.N_alloc | apply Kd.N_drewN | apply Kd.N_drew)); exact HO200.out)) k_ hk, Kd.freshB (bk BK175) k_ hk⟩)); (case aO => exact (by (with_reducible repeat (first | apply Kd.N_alloc | apply Kd.N_drewN | apply Kd.N_drew)); exact Kd.N_mono HO_7.out (fun _ hk => ⟨hk.1.1, ⟨hk.2, hk.1.2.2.2⟩⟩))); (case aS => exact (below_size (bl1 HB GE175))); (case aL => have := LMc81.out; omega); intro v202 w85 ho hb hg hat; rw [← Ny201.out] at ho; have n0_ := ak (blk_grown (bk BK175) hg (Kd.N_ne HO_7.out BK175.out (by decide))); have n1_ := ak (Kd.N_afterv (ok := (fun k_ => (w.heap.size ≤ k_) ∧ some k_ ≠ (.slice Ao86 x10_2.length co86 : Value).ownBlock ∧ k_ ≠ gb175)) (by (with_reducible repeat (first | apply Kd.N_alloc | apply Kd.N_drewN | apply Kd.N_drew)); exact Kd.N_mono HO200.out (fun _ hk => ⟨⟨hk.1, ⟨hk.2.2.1, hk.2.2.2⟩⟩, hk.2.1⟩)) hg hat); have n2_ := ak (hb); have n3_ := ak (ho); clear BK175; clear HO200; clear HB; clear HO_7; clear HO_10; have BK175 := n0_; have HO200 := n1_; have HB := n2_; have HO203 := n3_; clear n0_ n1_ n2_ n3_; clear ho hb hg hat))
    go_roundg k2
    case measure => have := HK1.out; have := HK2.out; omega
    case rel => exact ⟨(y198), (y201), (wrap64 (x8_1 + 1)), (by first | rfl | (simp; done) | (simp [*]; done)), H', ⟨by have := HK1.out; have := HK2.out; omega⟩, ⟨by (with_reducible repeat (first | apply Kd.N_alloc | apply Kd.N_drewN | apply Kd.N_drew)); exact Kd.N_mono HO200.out (fun _ hk => ⟨hk.1.1, ⟨hk.2, hk.1.2.2⟩⟩)⟩, ⟨by (with_reducible repeat (first | apply Kd.N_alloc | apply Kd.N_drewN | apply Kd.N_drew)); exact HO203.out⟩, ⟨bk BK175⟩, ⟨bl1 HB GE175⟩⟩
   rw [if_pos c29] at H
   have c29b0 : decide (x11_2 < a0_0) = true := decide_eq_true c29
   clear c29
   by_cases c30 : 0 ≤ x11_2
   rotate_left
   ·rw [if_neg c30] at H
    exact absurd H (by simp)
   rw [if_pos c30] at H
   have c30b0 : decide (0 ≤ x11_2) = true := decide_eq_true c30
   clear c30
   by_cases c31 : x11_2 < (x9_2.length : Int)
   rotate_left
   ·rw [if_neg c31] at H
    exact absurd H (by simp)
   rw [if_pos c31] at H
   have c31b0 : decide (x11_2 < (x9_2.length : Int)) = true := decide_eq_true c31
   clear c31
   obtain ⟨y204, hy204⟩ : ∃ y_ : List Int, y_ = (x9_2.set (x11_2 : Int).toNat 99999) := ⟨_, rfl⟩
   replace H : (spec_l15Rows.l2 k2 l1 x6_1 x7_1 x8_1 y204 x10_2 x11_2 0 a0_0 l0_1) = some (r1, r2) := by first | (rw [hy204]; with_reducible exact H) | (have H2_ := (Option.bind_some _ _).symm.trans H; rw [hy204]; with_reducible exact H2_) | (have H2_ := (Option.bind_some _ _).symm.trans H; with_reducible exact H2_) | with_reducible exact H | (rw [hy204]; exact H) | exact H
   have Ny204 := ak hy204
   clear hy204
   have H' := ak H
   clear H
   have hcz33_0 := bc wr BK175 0 (.int .i64 a0_0) rfl
   have hcz33_1 := bc wr BK175 1 (.slice A0_1 l0_1.length c0_1) rfl
   have hfz33_0 := fz BK175 0
   have hfz33_1 := fz BK175 1
   have p32 : 0 ≤ (x11_2 : Int) := oT (by first | (with_reducible assumption) | assumption)
   have q32 : (x11_2 : Int) < ((x9_2.length : Int) : Int) := oT (by first | (with_reducible assumption) | assumption)
   obtain ⟨go32, co32, eo32, gb32, gl32, cl32, HG32⟩ := Kd.R_form HO_9.out (by omega)
   (first | cases eo32 | (injection eo32 with ea_ en_ ec_; (first | subst ea_ | (injection ea_ with ea_; subst ea_)); subst ec_; clear en_))
   have GB32 := ak gb32
   have GG32 := ak HG32
   clear gb32 gl32 HG32
   obtain ⟨hx32_0, hf32_0⟩ := Kd.R_celln 0 HO_9.out (x11_2 : Int) p32 q32
   replace p32 := eq_true p32
   replace q32 := eq_true q32
   have HP34 := Kd.R_putg HO_9.out (x11_2 : Int) 99999
   go_wp2_with (first | ((with_reducible refine gate_store (t := 3) (p := 44) rfl ?_); refine store_event (t := 3) (p := 44) (v := ?vo_w35) (w1 := (wr.setCell ⟨go32, (x11_2 : Int).toNat, none⟩ (.int .i64 99999))) ?hg ?ho ?hn ?hr ?_; (case ho => rfl); (case hg => rfl); (case hn => rfl); (case hr => first | (go_simp; done) | (go_simp; rfl)); intro w35 hw; have hg : wr.grownBy w35 (some go32) := (by rw [hw]; exact HP34.2); have hp_ : Kd.R (Kd.int .i64) 3 w35 w.heap.size (fun k_ => (w.heap.size ≤ k_) ∧ some k_ ≠ (v196 : Value).ownBlock) (.slice (some ⟨go32, 0, none⟩) x9_2.length co32) y204 := (by rw [hw, Ny204.out]; exact HP34.1); clear HP34; replace HO_6 := ak (Kd.N_afterv (v := (.slice (some ⟨go32, 0, none⟩) x9_2.length co32)) (v1 := (.slice (some ⟨go32, 0, none⟩) x9_2.length co32)) (ok := (fun k_ => (w.heap.size ≤ k_) ∧ some k_ ≠ (u7 : Value).ownBlock ∧ some k_ ≠ (v196 : Value).ownBlock ∧ k_ ≠ gb175)) (by (with_reducible repeat (first | apply Kd.N_alloc | apply Kd.N_drewN | apply Kd.N_drew)); exact Kd.N_mono HO_6.out (fun _ hk => ⟨⟨hk.1, ⟨hk.2.1, ⟨hk.2.2.2.1, hk.2.2.2.2⟩⟩⟩, hk.2.2.1⟩)) hg (.inl rfl)); replace HO_7 := ak (Kd.N_afterv (v := (.slice (some ⟨go32, 0, none⟩) x9_2.length co32)) (v1 := (.slice (some ⟨go32, 0, none⟩) x9_2.length co32)) (ok := (fun k_ => (w.heap.size ≤ k_) ∧ some k_ ≠ (u6 : Value).ownBlock ∧ some k_ ≠ (v196 : Value).ownBlock ∧ k_ ≠ gb175)) (by (with_reducible repeat (first | apply Kd.N_alloc | apply Kd.N_drewN | apply Kd.N_drew)); exact Kd.N_mono HO_7.out (fun _ hk => ⟨⟨hk.1, ⟨hk.2.1, ⟨hk.2.2.2.1, hk.2.2.2.2⟩⟩⟩, hk.2.2.1⟩)) hg (.inl rfl)); replace HO_10 := ak (Kd.R_after (v := (.slice (some ⟨go32, 0, none⟩) x9_2.length co32)) (v1 := (.slice (some ⟨go32, 0, none⟩) x9_2.length co32)) (ok := (fun k_ => (w.heap.size ≤ k_))) (rk HO_10) hg (.inl rfl)); replace BK175 := ak (blk_grown (bk BK175) hg (Kd.R_ne HO_9.out BK175.out (by decide))); replace HO_9 := ak (hp_); replace HB := ak ((by rw [hw]; exact below_set (HB.out) GB32.out : Below w.heap.size w w35)); clear hg hw hp_))
   go_loopg [12] k2 (fun kq v12 w' => ∃ (x9_3 : List Int) (x10_3 : List Int) (x12_3 : Int), v12 = .int .i64 x12_3 ∧ Aside0 (spec_l15Rows.l2 kq l1 x6_1 x7_1 x8_1 x9_3 x10_3 x11_2 x12_3 a0_0 l0_1 = some (r1, r2)) ∧ Aside0 (kq ≤ k2) ∧ Aside0 (Kd.N (Kd.slice 3 (Kd.int .i64)) 33 w' w.heap.size (fun k_ => (w.heap.size ≤ k_) ∧ some k_ ≠ (u7 : Value).ownBlock ∧ some k_ ≠ ((.slice (some ⟨go32, 0, none⟩) x9_2.length co32) : Value).ownBlock ∧ some k_ ≠ (v196 : Value).ownBlock ∧ k_ ≠ gb175) u6 x6_1) ∧ Aside0 (Kd.N (Kd.slice 3 (Kd.int .i64)) 33 w' w.heap.size (fun k_ => (w.heap.size ≤ k_) ∧ some k_ ≠ (u6 : Value).ownBlock ∧ some k_ ≠ ((.slice (some ⟨go32, 0, none⟩) x9_2.length co32) : Value).ownBlock ∧ some k_ ≠ (v196 : Value).ownBlock ∧ k_ ≠ gb175) u7 x7_1) ∧ Aside0 (Kd.R (Kd.int .i64) 3 w' w.heap.size (fun k_ => (w.heap.size ≤ k_) ∧ some k_ ≠ (v196 : Value).ownBlock) (.slice (some ⟨go32, 0, none⟩) x9_2.length co32) x9_3) ∧ Aside0 (Kd.R (Kd.int .i64) 3 w' w.heap.size (fun k_ => (w.heap.size ≤ k_) ∧ some k_ ≠ ((.slice (some ⟨go32, 0, none⟩) x9_2.length co32) : Value).ownBlock) v196 x10_3) ∧ Aside0 (w'.heap[gb175]? = some (.cells #[.int .i64 a0_0, (.slice A0_1 l0_1.length c0_1)] 25 (0, 0))) ∧ Aside0 (Below w.heap.size w w'))
   case atStart => exact ⟨(y204), (x10_2), (0), (by first | rfl | (simp; done) | (simp [*]; done)), H', ⟨Nat.le_refl _⟩, ⟨by (with_reducible repeat (first | apply Kd.N_alloc | apply Kd.N_drewN | apply Kd.N_drew)); exact Kd.N_mono HO_6.out (fun _ hk => ⟨hk.1.1, ⟨hk.1.2.1, ⟨hk.2, ⟨hk.1.2.2.1, hk.1.2.2.2⟩⟩⟩⟩)⟩, ⟨by (with_reducible repeat (first | apply Kd.N_alloc | apply Kd.N_drewN | apply Kd.N_drew)); exact Kd.N_mono HO_7.out (fun _ hk => ⟨hk.1.1, ⟨hk.1.2.1, ⟨hk.2, ⟨hk.1.2.2.1, hk.1.2.2.2⟩⟩⟩⟩)⟩, ⟨rk HO_9⟩, ⟨rk HO_10⟩, ⟨bk BK175⟩, ⟨bl1 HB GE175⟩⟩
   clear H'
   try clear c1
   try clear p1
   try clear q1
   try clear hx1
   try clear qi1
   try clear c2
   try clear p2
   try clear c3
   try clear c3b0
   try clear c3b1
   try clear p3
   try clear q3
   try clear hx3
   try clear hf3
   try clear c4
   try clear c5
   try clear c5b0
   try clear c5b1
   try clear c6
   try clear c6b0
   try clear c6b1
   try clear c7
   try clear c17
   try clear p17
   try clear q17
   try clear hx17
   try clear qi17
   try clear c20
   try clear c20b0
   try clear c21
   try clear c21b0
   try clear c21b1
   try clear c22
   try clear c22b0
   try clear c22b1
   try clear c29
   try clear c29b0
   try clear c30
   try clear c30b0
   try clear c31
   try clear c31b0
   try clear p32
   try clear q32
   try clear hx32
   try clear hf32
   try clear hcz14_0
   try clear hcz14_1
   try clear hcz23_0
   try clear hcz23_1
   try clear hcz26_0
   try clear hcz26_1
   try clear hcz33_0
   try clear hcz33_1
   try clear hfz14_0
   try clear hfz14_1
   try clear hfz23_0
   try clear hfz23_1
   try clear hfz26_0
   try clear hfz26_1
   try clear hfz33_0
   try clear hfz33_1
   try clear hx179_0
   try clear hx32_0
   try clear p1
   try clear p17
   try clear p179
   try clear p2
   try clear p32
   try clear q1
   try clear q17
   try clear q179
   try clear q32
   obtain ⟨x9_3, x10_3, x12_3, rfl, HA, HK3, HO_6, HO_7, HO_9, HO_10, BK175, HB⟩ := hrel
   have hl9_3 := (Kd.R_reads' HO_9.out).1
   rw [hl9_3] at HO_9
   (try simp only [hl9_3])
   (try simp only [hl9_3] at BK175)
   (try simp only [hl9_3] at HO_6)
   (try simp only [hl9_3] at HO_7)
   (try simp only [hl9_3] at HO_10)
   cases gk with
   | zero => exact absurd HA.out (by simp [spec_l15Rows.l2])
   | succ k3 =>
    have H := HA.out
    clear HA
    simp only [spec_l15Rows.l2] at H
    by_cases c36 : x12_3 < a0_0
    rotate_left
    ·rw [if_neg c36] at H
     have c36b0 : decide (x12_3 < a0_0) = false := decide_eq_false c36
     clear c36
     have H' := ak H
     clear H
     have hcz79_0 := bc wr BK175 0 (.int .i64 a0_0) rfl
     have hcz79_1 := bc wr BK175 1 (.slice A0_1 l0_1.length c0_1) rfl
     have hfz79_0 := fz BK175 0
     have hfz79_1 := fz BK175 1
     go_wp2
     (try simp only [← hl9_3])
     go_roundg k3
     case measure => have := HK1.out; have := HK2.out; have := HK3.out; omega
     case rel => exact ⟨(x9_3), (x10_3), (wrap64 (x11_2 + 1)), (by first | rfl | (simp; done) | (simp [*]; done)), H', ⟨by have := HK1.out; have := HK2.out; have := HK3.out; omega⟩, ⟨by (try simp only [hl9_3]); (with_reducible repeat (first | apply Kd.N_alloc | apply Kd.N_drewN | apply Kd.N_drew)); exact HO_6.out⟩, ⟨by (try simp only [hl9_3]); (with_reducible repeat (first | apply Kd.N_alloc | apply Kd.N_drewN | apply Kd.N_drew)); exact HO_7.out⟩, ⟨by (try simp only [hl9_3]); (with_reducible repeat (first | apply Kd.R_alloc | apply Kd.R_drewN | apply Kd.R_drew)); exact HO_9.out⟩, ⟨by (try simp only [hl9_3]); (with_reducible repeat (first | apply Kd.R_alloc | apply Kd.R_drewN | apply Kd.R_drew)); exact HO_10.out⟩, ⟨by (try simp only [hl9_3]); (with_reducible repeat (first | refine blk_drewN ?_ _ | refine blk_drew ?_ | refine blk_alloc ?_ _)); exact BK175.out⟩, ⟨bl1 HB GE175⟩⟩
    rw [if_pos c36] at H
    have c36b0 : decide (x12_3 < a0_0) = true := decide_eq_true c36
    clear c36
    replace H := Option.bind_eq_some_iff.mp H
    obtain ⟨t205, A370, H⟩ := H
    have A37 := ak A370
    clear A370
    by_cases c38 : 0 ≤ x11_2
    rotate_left
    ·rw [if_neg c38] at H
     exact absurd H (by simp)
    rw [if_pos c38] at H
    have c38b0 : decide (0 ≤ x11_2) = true := decide_eq_true c38
    clear c38
    by_cases c39 : x11_2 < (t205.length : Int)
    rotate_left
    ·rw [if_neg c39] at H
     exact absurd H (by simp)
    rw [if_pos c39] at H
    have c39b0 : decide (x11_2 < (t205.length : Int)) = true := decide_eq_true c39
    clear c39
    by_cases c40 : (rd t205 x11_2) < 99999
    rotate_left
    ·rw [if_neg c40] at H
     have c40b0 : decide ((rd t205 x11_2) < 99999) = false := decide_eq_false c40
     clear c40
     have H' := ak H
     clear H
     have hcz75_0 := bc wr BK175 0 (.int .i64 a0_0) rfl
     have hcz75_1 := bc wr BK175 1 (.slice A0_1 l0_1.length c0_1) rfl
     have hfz75_0 := fz BK175 0
     have hfz75_1 := fz BK175 1
     try go_wp2_with (first | ((with_reducible refine gate_callee (f := 107) rfl ?_); refine goesL_ (some 53) rfl rfl Try.func107 (by kernel_rfl) rfl #[.agg #[.int .i64 a0_0, .slice A0_1 l0_1.length c0_1], .int .i64 x12_3] rfl (by (try simp only [List.map_toArray, List.map_cons, List.map_nil]); first | done | rfl | (simp only [List.length_drop, List.length_take]; rfl)) ?_; (with_reducible refine (spec_l3All.calls k3 a0_0 _ _ l0_1 x12_3 t205 _ ?side1 ?side2 A37.out).mono ?_); (case side1 => repeat (first | exact (Kd.C_below HR0_1.out HB.out) | (with_reducible refine Kd.C_alloc ?_ _) | (with_reducible refine Kd.C_drewN ?_ _) | (with_reducible refine Kd.C_drew ?_))); (case side2 => exact HC0_1.out); rintro e w76 ⟨v206, rfl, ho0, hb⟩; refine ⟨_, rfl, ?_⟩; replace HO_6 := ak (Kd.N_elder' (by (with_reducible repeat (first | apply Kd.N_alloc | apply Kd.N_drewN | apply Kd.N_drew)); exact HO_6.out) (Kd.R_base ho0) hb); replace HO_7 := ak (Kd.N_elder' (by (with_reducible repeat (first | apply Kd.N_alloc | apply Kd.N_drewN | apply Kd.N_drew)); exact HO_7.out) (Kd.R_base ho0) hb); have HO207 := ak (Kd.R_lower (Kd.R_new' (Kd.R_new' (Kd.R_newM (M := fun k_ => (w.heap.size ≤ k_)) ho0 (below_size (bl1 HB GE175)) (fun k_ h_ => h_)) (Kd.R_lt (rk HO_9))) (Kd.R_lt (rk HO_10))) (below_size (bl1 HB GE175))); replace HO_9 := ak (Kd.R_elder' (rk HO_9) (Kd.R_base ho0) hb); replace HO_10 := ak (Kd.R_elder' (rk HO_10) (Kd.R_base ho0) hb); replace BK175 := ak (blk_below (bk BK175) hb); replace HB := ak (below_step (bl1 HB GE175) hb); (try clear hb); (try clear hb2); (try clear hk); (try clear hi); (try clear ho0); obtain ⟨Ao77, co77, eo77⟩ := Kd.R_slice HO207.out; subst eo77; have p208 : 0 ≤ (x11_2 : Int) := oT (by first | (with_reducible assumption) | assumption); have q208 : x11_2 < (t205.length : Int) := oT (by first | (with_reducible assumption) | assumption); obtain ⟨ad208, e208, hx208_0⟩ := Kd.at_int (Kd.R_reads' HO207.out).2.2 x11_2 p208 q208; cases e208; replace p208 := eq_true p208; replace q208 := eq_true q208))
     replace HO_6 := ak (Kd.N_drew HO_6.out)
     replace HO_7 := ak (Kd.N_drew HO_7.out)
     replace HO_9 := ak (Kd.R_drew HO_9.out)
     replace HO_10 := ak (Kd.R_drew HO_10.out)
     replace HO207 := ak (Kd.R_drew HO207.out)
     replace BK175 := ak (blk_drew BK175.out)
     replace HB := ak (below_drew1 HB.out)
     refine start_ (n := 38) (S := fun w' => True) (ds := []) (ms 38 0) (by kernel_rfl) rfl (by kernel_rfl) trivial (fun hHeld => ?_); refine with_tabW spec_l15Rows.tab16 spec_l15Rows.bits16 (fun HT_ HW_ => ?_)
     generalize w76.drew = w78 at HO_6 HO_7 HO_9 HO_10 HO207 BK175 HB hHeld ⊢
     refine pu 0 57 ?_ (ms 38 1) rfl rfl HT_ (by kernel_rfl) (fun _ _ _ h => h) (by rfl) ?_ ?_ ?_ ?_
     rotate_left
     ·intro w'
      go_simp
      with_reducible rfl
     rotate_left
     ·simp only [SX]
      rfl
     refine pu 1 58 ?_ (ms 38 3) rfl rfl HT_ (by kernel_rfl) (fun _ _ _ h => h) (by rfl) ?_ ?_ ?_ ?_
     rotate_left
     ·intro w'
      go_simp
      with_reducible rfl
     rotate_left
     ·simp only [SX]
      rfl
     refine pu 2 59 ?_ (ms 38 7) rfl rfl HT_ (by kernel_rfl) (fun _ _ _ h => h) (by rfl) ?_ ?_ ?_ ?_
     rotate_left
     ·intro w'
      go_simp
      with_reducible rfl
     rotate_left
     ·simp only [SX]
      rfl
     refine pure_ (i := 3) (N := some 60) (v := undef) (a' := ?_) (ms 38 15) rfl rfl (any_of HT_.out (by kernel_rfl)) (fun _ _ _ h => h) (Or.inr ⟨by rfl, rfl⟩) ?_ ?_
     rotate_left
     ·simp only [SX]
      rfl
     refine pure_ (i := 4) (N := some 61) (v := undef) (a' := ?_) (ms 38 31) rfl rfl (any_of HT_.out (by kernel_rfl)) (fun _ _ _ h => h) (Or.inr ⟨by rfl, rfl⟩) ?_ ?_
     rotate_left
     ·simp only [SX]
      rfl
     refine pure_ (i := 5) (N := some 62) (v := undef) (a' := ?_) (ms 38 63) rfl rfl (any_of HT_.out (by kernel_rfl)) (fun _ _ _ h => h) (Or.inr ⟨by rfl, rfl⟩) ?_ ?_
     rotate_left
     ·simp only [SX]
      rfl
     refine pure_ (i := 6) (N := some 63) (v := undef) (a' := ?_) (ms 38 127) rfl rfl (any_of HT_.out (by kernel_rfl)) (fun _ _ _ h => h) (Or.inr ⟨by rfl, rfl⟩) ?_ ?_
     rotate_left
     ·simp only [SX]
      rfl
     refine pure_ (i := 7) (N := some 64) (v := undef) (a' := ?_) (ms 38 255) rfl rfl (any_of HT_.out (by kernel_rfl)) (fun _ _ _ h => h) (Or.inr ⟨by rfl, rfl⟩) ?_ ?_
     rotate_left
     ·simp only [SX]
      rfl
     refine pure_ (i := 8) (N := some 65) (v := undef) (a' := ?_) (ms 38 511) rfl rfl (any_of HT_.out (by kernel_rfl)) (fun _ _ _ h => h) (Or.inr ⟨by rfl, rfl⟩) ?_ ?_
     rotate_left
     ·simp only [SX]
      rfl
     refine pure_ (i := 9) (N := some 66) (v := undef) (a' := ?_) (ms 38 1023) rfl rfl (any_of HT_.out (by kernel_rfl)) (fun _ _ _ h => h) (Or.inr ⟨by rfl, rfl⟩) ?_ ?_
     rotate_left
     ·simp only [SX]
      rfl
     refine pure_ (i := 10) (N := some 67) (v := undef) (a' := ?_) (ms 38 2047) rfl rfl (any_of HT_.out (by kernel_rfl)) (fun _ _ _ h => h) (Or.inr ⟨by rfl, rfl⟩) ?_ ?_
     rotate_left
     ·simp only [SX]
      rfl
     refine pure_ (i := 11) (N := some 68) (v := undef) (a' := ?_) (ms 38 4095) rfl rfl (any_of HT_.out (by kernel_rfl)) (fun _ _ _ h => h) (Or.inr ⟨by rfl, rfl⟩) ?_ ?_
     rotate_left
     ·simp only [SX]
      rfl
     refine pu 12 69 ?_ (ms 38 8191) rfl rfl HT_ (by kernel_rfl) (fun _ _ _ h => h) (by rfl) ?_ ?_ ?_ ?_
     rotate_left
     ·intro w'
      go_simp
      with_reducible rfl
     rotate_left
     ·simp only [SX]
      rfl
     refine pu 13 70 ?_ (ms 38 16383) rfl rfl HT_ (by kernel_rfl) (fun _ _ _ h => h) (by rfl) ?_ ?_ ?_ ?_
     rotate_left
     ·intro w'
      go_simp
      with_reducible rfl
     rotate_left
     ·simp only [SX]
      rfl
     refine pure_ (i := 14) (N := some 71) (v := undef) (a' := ?_) (ms 38 32767) rfl rfl (any_of HT_.out (by kernel_rfl)) (fun _ _ _ h => h) (Or.inr ⟨by rfl, rfl⟩) ?_ ?_
     rotate_left
     ·simp only [SX]
      rfl
     refine pure_ (i := 15) (N := some 72) (v := undef) (a' := ?_) (ms 38 65535) rfl rfl (any_of HT_.out (by kernel_rfl)) (fun _ _ _ h => h) (Or.inr ⟨by rfl, rfl⟩) ?_ ?_
     rotate_left
     ·simp only [SX]
      rfl
     refine pure_ (i := 16) (N := some 73) (v := undef) (a' := ?_) (ms 38 131071) rfl rfl (any_of HT_.out (by kernel_rfl)) (fun _ _ _ h => h) (Or.inr ⟨by rfl, rfl⟩) ?_ ?_
     rotate_left
     ·simp only [SX]
      rfl
     refine pure_ (i := 17) (N := some 74) (v := undef) (a' := ?_) (ms 38 262143) rfl rfl (any_of HT_.out (by kernel_rfl)) (fun _ _ _ h => h) (Or.inr ⟨by rfl, rfl⟩) ?_ ?_
     rotate_left
     ·simp only [SX]
      rfl
     refine pure_ (i := 18) (N := some 75) (v := undef) (a' := ?_) (ms 38 524287) rfl rfl (any_of HT_.out (by kernel_rfl)) (fun _ _ _ h => h) (Or.inr ⟨by rfl, rfl⟩) ?_ ?_
     rotate_left
     ·simp only [SX]
      rfl
     refine pure_ (i := 19) (N := some 76) (v := undef) (a' := ?_) (ms 38 1048575) rfl rfl (any_of HT_.out (by kernel_rfl)) (fun _ _ _ h => h) (Or.inr ⟨by rfl, rfl⟩) ?_ ?_
     rotate_left
     ·simp only [SX]
      rfl
     refine pure_ (i := 20) (N := some 77) (v := undef) (a' := ?_) (ms 38 2097151) rfl rfl (any_of HT_.out (by kernel_rfl)) (fun _ _ _ h => h) (Or.inr ⟨by rfl, rfl⟩) ?_ ?_
     rotate_left
     ·simp only [SX]
      rfl
     refine pure_ (i := 21) (N := some 78) (v := undef) (a' := ?_) (ms 38 4194303) rfl rfl (any_of HT_.out (by kernel_rfl)) (fun _ _ _ h => h) (Or.inr ⟨by rfl, rfl⟩) ?_ ?_
     rotate_left
     ·simp only [SX]
      rfl
     refine pure_ (i := 22) (N := some 79) (v := undef) (a' := ?_) (ms 38 8388607) rfl rfl (any_of HT_.out (by kernel_rfl)) (fun _ _ _ h => h) (Or.inr ⟨by rfl, rfl⟩) ?_ ?_
     rotate_left
     ·simp only [SX]
      rfl
     refine pure_ (i := 23) (N := some 80) (v := undef) (a' := ?_) (ms 38 16777215) rfl rfl (any_of HT_.out (by kernel_rfl)) (fun _ _ _ h => h) (Or.inr ⟨by rfl, rfl⟩) ?_ ?_
     rotate_left
     ·simp only [SX]
      rfl
     refine pure_ (i := 24) (N := some 81) (v := undef) (a' := ?_) (ms 38 33554431) rfl rfl (any_of HT_.out (by kernel_rfl)) (fun _ _ _ h => h) (Or.inr ⟨by rfl, rfl⟩) ?_ ?_
     rotate_left
     ·simp only [SX]
      rfl
     refine pure_ (i := 25) (N := some 82) (v := undef) (a' := ?_) (ms 38 67108863) rfl rfl (any_of HT_.out (by kernel_rfl)) (fun _ _ _ h => h) (Or.inr ⟨by rfl, rfl⟩) ?_ ?_
     rotate_left
     ·simp only [SX]
      rfl
     refine pure_ (i := 26) (N := some 83) (v := undef) (a' := ?_) (ms 38 134217727) rfl rfl (any_of HT_.out (by kernel_rfl)) (fun _ _ _ h => h) (Or.inr ⟨by rfl, rfl⟩) ?_ ?_
     rotate_left
     ·simp only [SX]
      rfl
     refine pure_ (i := 27) (N := some 84) (v := undef) (a' := ?_) (ms 38 268435455) rfl rfl (any_of HT_.out (by kernel_rfl)) (fun _ _ _ h => h) (Or.inr ⟨by rfl, rfl⟩) ?_ ?_
     rotate_left
     ·simp only [SX]
      rfl
     refine pure_ (i := 28) (N := some 85) (v := undef) (a' := ?_) (ms 38 536870911) rfl rfl (any_of HT_.out (by kernel_rfl)) (fun _ _ _ h => h) (Or.inr ⟨by rfl, rfl⟩) ?_ ?_
     rotate_left
     ·simp only [SX]
      rfl
     refine pure_ (i := 29) (N := some 86) (v := undef) (a' := ?_) (ms 38 1073741823) rfl rfl (any_of HT_.out (by kernel_rfl)) (fun _ _ _ h => h) (Or.inr ⟨by rfl, rfl⟩) ?_ ?_
     rotate_left
     ·simp only [SX]
      rfl
     refine pure_ (i := 30) (N := some 87) (v := undef) (a' := ?_) (ms 38 2147483647) rfl rfl (any_of HT_.out (by kernel_rfl)) (fun _ _ _ h => h) (Or.inr ⟨by rfl, rfl⟩) ?_ ?_
     rotate_left
     ·simp only [SX]
      rfl
     refine pure_ (i := 31) (N := some 88) (v := undef) (a' := ?_) (ms 38 4294967295) rfl rfl (any_of HT_.out (by kernel_rfl)) (fun _ _ _ h => h) (Or.inr ⟨by rfl, rfl⟩) ?_ ?_
     rotate_left
     ·simp only [SX]
      rfl
     refine pure_ (i := 32) (N := some 89) (v := undef) (a' := ?_) (ms 38 8589934591) rfl rfl (any_of HT_.out (by kernel_rfl)) (fun _ _ _ h => h) (Or.inr ⟨by rfl, rfl⟩) ?_ ?_
     rotate_left
     ·simp only [SX]
      rfl
     refine pure_ (i := 33) (N := some 90) (v := undef) (a' := ?_) (ms 38 17179869183) rfl rfl (any_of HT_.out (by kernel_rfl)) (fun _ _ _ h => h) (Or.inr ⟨by rfl, rfl⟩) ?_ ?_
     rotate_left
     ·simp only [SX]
      rfl
     refine pure_ (i := 34) (N := some 91) (v := undef) (a' := ?_) (ms 38 34359738367) rfl rfl (any_of HT_.out (by kernel_rfl)) (fun _ _ _ h => h) (Or.inr ⟨by rfl, rfl⟩) ?_ ?_
     rotate_left
     ·simp only [SX]
      rfl
     refine pure_ (i := 35) (N := some 92) (v := undef) (a' := ?_) (ms 38 68719476735) rfl rfl (any_of HT_.out (by kernel_rfl)) (fun _ _ _ h => h) (Or.inr ⟨by rfl, rfl⟩) ?_ ?_
     rotate_left
     ·simp only [SX]
      rfl
     refine pure_ (i := 36) (N := some 93) (v := undef) (a' := ?_) (ms 38 137438953471) rfl rfl (any_of HT_.out (by kernel_rfl)) (fun _ _ _ h => h) (Or.inr ⟨by rfl, rfl⟩) ?_ ?_
     rotate_left
     ·simp only [SX]
      rfl
     refine pu 37 94 ?_ (ms 38 274877906943) rfl rfl HT_ (by kernel_rfl) (fun _ _ _ h => h) (by rfl) ?_ ?_ ?_ ?_
     rotate_left
     ·intro w'
      go_simp
      with_reducible rfl
     rotate_left
     ·simp only [SX]
      rfl
     refine done_ (done_of HT_.out (by kernel_rfl)) ?_
     try go_wp2
     (try simp only [← hl9_3])
     go_roundg k3
     case measure => have := HK1.out; have := HK2.out; have := HK3.out; omega
     case rel => exact ⟨(x9_3), (x10_3), (wrap64 (x12_3 + 1)), (by first | rfl | (simp; done) | (simp [*]; done)), H', ⟨by have := HK1.out; have := HK2.out; have := HK3.out; omega⟩, ⟨by (try simp only [hl9_3]); (with_reducible repeat (first | apply Kd.N_alloc | apply Kd.N_drewN | apply Kd.N_drew)); exact Kd.N_mono HO_6.out (fun _ hk => ⟨hk.1.1, ⟨hk.1.2.1, ⟨hk.1.2.2.1, ⟨hk.1.2.2.2.1, hk.1.2.2.2.2⟩⟩⟩⟩)⟩, ⟨by (try simp only [hl9_3]); (with_reducible repeat (first | apply Kd.N_alloc | apply Kd.N_drewN | apply Kd.N_drew)); exact Kd.N_mono HO_7.out (fun _ hk => ⟨hk.1.1, ⟨hk.1.2.1, ⟨hk.1.2.2.1, ⟨hk.1.2.2.2.1, hk.1.2.2.2.2⟩⟩⟩⟩)⟩, ⟨by (try simp only [hl9_3]); (with_reducible repeat (first | apply Kd.R_alloc | apply Kd.R_drewN | apply Kd.R_drew)); exact Kd.R_mono HO_9.out (fun _ hk => ⟨hk.1.1, hk.1.2⟩)⟩, ⟨by (try simp only [hl9_3]); (with_reducible repeat (first | apply Kd.R_alloc | apply Kd.R_drewN | apply Kd.R_drew)); exact Kd.R_mono HO_10.out (fun _ hk => ⟨hk.1.1, hk.1.2⟩)⟩, ⟨by (try simp only [hl9_3]); (with_reducible repeat (first | refine blk_drewN ?_ _ | refine blk_drew ?_ | refine blk_alloc ?_ _)); exact BK175.out⟩, ⟨bl1 HB GE175⟩⟩
    rw [if_pos c40] at H
    have c40b0 : decide ((rd t205 x11_2) < 99999) = true := decide_eq_true c40
    clear c40
    obtain ⟨ji41, hji41⟩ : ∃ j_ : Int, (wrap64 (x8_1 - 1)) = j_ := ⟨_, rfl⟩
    replace H : (if 0 ≤ (ji41) then (if (ji41) < (x6_1.length : Int) then (if 0 ≤ x12_3 then (if x12_3 < ((rd_L3 x6_1 (ji41)).length : Int) then (if (rd (rd_L3 x6_1 (ji41)) x12_3) < 99999 then (if 0 ≤ x8_1 then (if x8_1 < (l1.length : Int) then (if x11_2 < ((rd_L3 l1 x8_1).length : Int) then (if x11_2 < (x9_3.length : Int) then (if (wrap64 ((wrap64 ((rd (rd_L3 x6_1 (ji41)) x12_3) + (rd t205 x11_2))) + (rd (rd_L3 l1 x8_1) x11_2))) < (rd x9_3 x11_2) then (if x11_2 < (x10_3.length : Int) then (spec_l15Rows.l2 k3 l1 x6_1 x7_1 x8_1 (x9_3.set (x11_2 : Int).toNat (wrap64 ((wrap64 ((rd (rd_L3 x6_1 (ji41)) x12_3) + (rd t205 x11_2))) + (rd (rd_L3 l1 x8_1) x11_2)))) (x10_3.set (x11_2 : Int).toNat x12_3) x11_2 (wrap64 (x12_3 + 1)) a0_0 l0_1) else (none)) else (spec_l15Rows.l2 k3 l1 x6_1 x7_1 x8_1 x9_3 x10_3 x11_2 (wrap64 (x12_3 + 1)) a0_0 l0_1)) else (none)) else (none)) else (none)) else (none)) else (spec_l15Rows.l2 k3 l1 x6_1 x7_1 x8_1 x9_3 x10_3 x11_2 (wrap64 (x12_3 + 1)) a0_0 l0_1)) else (none)) else (none)) else (none)) else (none)) = some (r1, r2) := by first | (rw [hji41] at H; exact H) | (simp only [hji41] at H ⊢; exact H)
    (try rw [hji41] at A37)
    have hji41w : (IntKind.i64.wrap (x8_1 - 1)) = ji41 := (i64_w _).trans hji41
    by_cases c42 : 0 ≤ (ji41)
    rotate_left
    ·rw [if_neg c42] at H
     exact absurd H (by simp)
    rw [if_pos c42] at H
    have c42b0 : decide (0 ≤ (ji41)) = true := decide_eq_true c42
    clear c42
    by_cases c43 : (ji41) < (x6_1.length : Int)
    rotate_left
    ·rw [if_neg c43] at H
     exact absurd H (by simp)
    rw [if_pos c43] at H
    have c43b0 : decide ((ji41) < (x6_1.length : Int)) = true := decide_eq_true c43
    clear c43
    by_cases c44 : 0 ≤ x12_3
    rotate_left
    ·rw [if_neg c44] at H
     exact absurd H (by simp)
    rw [if_pos c44] at H
    have c44b0 : decide (0 ≤ x12_3) = true := decide_eq_true c44
    clear c44
    by_cases c45 : x12_3 < ((rd_L3 x6_1 (ji41)).length : Int)
    rotate_left
    ·rw [if_neg c45] at H
     exact absurd H (by simp)
    rw [if_pos c45] at H
    have c45b0 : decide (x12_3 < ((rd_L3 x6_1 (ji41)).length : Int)) = true := decide_eq_true c45
    clear c45
    by_cases c46 : (rd (rd_L3 x6_1 (ji41)) x12_3) < 99999
    rotate_left
    ·rw [if_neg c46] at H
     have c46b0 : decide ((rd (rd_L3 x6_1 (ji41)) x12_3) < 99999) = false := decide_eq_false c46
     clear c46
     have H' := ak H
     clear H
     have hcz70_0 := bc wr BK175 0 (.int .i64 a0_0) rfl
     have hcz70_1 := bc wr BK175 1 (.slice A0_1 l0_1.length c0_1) rfl
     have hfz70_0 := fz BK175 0
     have hfz70_1 := fz BK175 1
     try go_wp2_with (first | ((with_reducible refine gate_callee (f := 107) rfl ?_); refine goesL_ (some 53) rfl rfl Try.func107 (by kernel_rfl) rfl #[.agg #[.int .i64 a0_0, .slice A0_1 l0_1.length c0_1], .int .i64 x12_3] rfl (by (try simp only [List.map_toArray, List.map_cons, List.map_nil]); first | done | rfl | (simp only [List.length_drop, List.length_take]; rfl)) ?_; (with_reducible refine (spec_l3All.calls k3 a0_0 _ _ l0_1 x12_3 t205 _ ?side1 ?side2 A37.out).mono ?_); (case side1 => repeat (first | exact (Kd.C_below HR0_1.out HB.out) | (with_reducible refine Kd.C_alloc ?_ _) | (with_reducible refine Kd.C_drewN ?_ _) | (with_reducible refine Kd.C_drew ?_))); (case side2 => exact HC0_1.out); rintro e w71 ⟨v206, rfl, ho0, hb⟩; refine ⟨_, rfl, ?_⟩; replace HO_6 := ak (Kd.N_elder' (by (with_reducible repeat (first | apply Kd.N_alloc | apply Kd.N_drewN | apply Kd.N_drew)); exact HO_6.out) (Kd.R_base ho0) hb); replace HO_7 := ak (Kd.N_elder' (by (with_reducible repeat (first | apply Kd.N_alloc | apply Kd.N_drewN | apply Kd.N_drew)); exact HO_7.out) (Kd.R_base ho0) hb); have HO207 := ak (Kd.R_lower (Kd.R_new' (Kd.R_new' (Kd.R_newM (M := fun k_ => (w.heap.size ≤ k_)) ho0 (below_size (bl1 HB GE175)) (fun k_ h_ => h_)) (Kd.R_lt (rk HO_9))) (Kd.R_lt (rk HO_10))) (below_size (bl1 HB GE175))); replace HO_9 := ak (Kd.R_elder' (rk HO_9) (Kd.R_base ho0) hb); replace HO_10 := ak (Kd.R_elder' (rk HO_10) (Kd.R_base ho0) hb); replace BK175 := ak (blk_below (bk BK175) hb); replace HB := ak (below_step (bl1 HB GE175) hb); (try clear hb); (try clear hb2); (try clear hk); (try clear hi); (try clear ho0); obtain ⟨Ao72, co72, eo72⟩ := Kd.R_slice HO207.out; subst eo72; have p208 : 0 ≤ (x11_2 : Int) := oT (by first | (with_reducible assumption) | assumption); have q208 : x11_2 < (t205.length : Int) := oT (by first | (with_reducible assumption) | assumption); obtain ⟨ad208, e208, hx208_0⟩ := Kd.at_int (Kd.R_reads' HO207.out).2.2 x11_2 p208 q208; cases e208; replace p208 := eq_true p208; replace q208 := eq_true q208))
     replace HO_6 := ak (Kd.N_drew HO_6.out)
     replace HO_7 := ak (Kd.N_drew HO_7.out)
     replace HO_9 := ak (Kd.R_drew HO_9.out)
     replace HO_10 := ak (Kd.R_drew HO_10.out)
     replace HO207 := ak (Kd.R_drew HO207.out)
     replace BK175 := ak (blk_drew BK175.out)
     replace HB := ak (below_drew1 HB.out)
     obtain ⟨Ao74, co74, eo74⟩ := Kd.N_slice HO_6.out
     (first | subst eo74 | (injection eo74 with f1_ f2_ f3_; have f4_ := f1_.symm; have f5_ := f3_.symm; clear f1_ f2_ f3_; subst f4_; subst f5_))
     have p209 : 0 ≤ ((ji41) : Int) := oT (by first | (with_reducible assumption) | assumption)
     have q209 : (ji41) < (x6_1.length : Int) := oT (by first | (with_reducible assumption) | assumption)
     obtain ⟨ad209, A209_0, c209_0, e209, hx209_0, hl209_0, hi209_0⟩ := at_L3 (Kd.N_reads' HO_6.out).2.2 (ji41) p209 q209
     cases e209
     obtain ⟨ce209, hce209, hMe209, hcc209⟩ := Kd.N_get HO_6.out [] (ji41) p209 (by first | exact q209 | exact oT (by first | (with_reducible assumption) | assumption) | (have e_ := (Kd.N_reads' HO_6.out).1; omega))
     obtain ⟨ua209_0, uc209_0, rfl, ul209_0, ge209_0⟩ := Kd.FK_slice_open hMe209
     have hv209_0 := hcc209 0 _ rfl
     rw [Nat.add_zero, show ((Kd.slice 3 (Kd.int .i64))).sz = 1 from rfl, Nat.mul_one] at hv209_0
     replace hv209_0 := Option.some.inj (hv209_0.symm.trans hx209_0)
     injection hv209_0 with hva_ hvn_ hvc_
     rw [hva_] at ge209_0
     rw [hvc_] at ul209_0
     have HL209_0 := ak (show Kd.V (Kd.int .i64) 3 _ w.heap.size _ _ (rd_L3 x6_1 (ji41)) from Kd.V_mk ul209_0 ge209_0)
     clear hva_ hvn_ hvc_ ge209_0 ul209_0
     clear hcc209 hce209
     have HR209_0 := ak hi209_0
     have HC209_0 := ak hl209_0
     clear hi209_0 hl209_0
     replace p209 := eq_true p209
     replace q209 := eq_true q209
     have p210 : 0 ≤ (x12_3 : Int) := oT (by first | (with_reducible assumption) | assumption)
     have q210 : x12_3 < ((rd_L3 x6_1 (ji41)).length : Int) := oT (by first | (with_reducible assumption) | assumption)
     obtain ⟨ad210, e210, hx210_0⟩ := Kd.at_int (by repeat (first | (with_reducible exact HR209_0.out) | (with_reducible refine Kd.C_alloc ?_ _) | (with_reducible refine Kd.C_drewN ?_ _) | (with_reducible refine Kd.C_drew ?_) | exact HR209_0.out)) x12_3 p210 q210
     cases e210
     replace p210 := eq_true p210
     replace q210 := eq_true q210
     refine start_ (n := 38) (S := fun w' => w'.cell? (ad209.add ((ji41)).toNat) = some (.slice (some ad210) (rd_L3 x6_1 (ji41)).length c209_0) ∧ w'.cell? (ad210.add (x12_3).toNat) = some (.int .i64 (rd (rd_L3 x6_1 (ji41)) x12_3))) (ds := []) (ms 38 0) (by kernel_rfl) rfl (by kernel_rfl) ⟨hx209_0, hx210_0⟩ (fun hHeld => ?_); refine with_tabW spec_l15Rows.tab16 spec_l15Rows.bits16 (fun HT_ HW_ => ?_)
     generalize w71.drew = w73 at HO_6 HO_7 HO_9 HO_10 HO207 BK175 HB HL209_0 HR209_0 hx209_0 hx210_0 hHeld ⊢
     refine pu 0 57 ?_ (ms 38 1) rfl rfl HT_ (by kernel_rfl) (fun _ _ _ h => h) (by rfl) ?_ ?_ ?_ ?_
     rotate_left
     ·intro w'
      go_simp
      with_reducible rfl
     rotate_left
     ·simp only [SX]
      rfl
     refine pu 1 58 ?_ (ms 38 3) rfl rfl HT_ (by kernel_rfl) (fun _ _ _ h => h) (by rfl) ?_ ?_ ?_ ?_
     rotate_left
     ·intro w'
      go_simp
      with_reducible rfl
     rotate_left
     ·simp only [SX]
      rfl
     refine pu 2 59 ?_ (ms 38 7) rfl rfl HT_ (by kernel_rfl) (fun _ _ _ h => h) (by rfl) ?_ ?_ ?_ ?_
     rotate_left
     ·intro w'
      go_simp
      with_reducible rfl
     rotate_left
     ·simp only [SX]
      rfl
     refine pu 3 60 ?_ (ms 38 15) rfl rfl HT_ (by kernel_rfl) (fun _ _ _ h => h) (by rfl) ?_ ?_ ?_ ?_
     rotate_left
     ·intro w'
      go_simp
      with_reducible rfl
     rotate_left
     ·simp only [SX]
      rfl
     refine pu 4 61 ?_ (ms 38 31) rfl rfl HT_ (by kernel_rfl) (fun _ _ _ h => h) (by rfl) ?_ ?_ ?_ ?_
     rotate_left
     ·intro w'
      go_simp
      with_reducible rfl
     rotate_left
     ·simp only [SX]
      rfl
     refine pu 5 62 ?_ (ms 38 63) rfl rfl HT_ (by kernel_rfl) (fun _ _ _ h => h) (by rfl) ?_ ?_ ?_ ?_
     rotate_left
     ·intro w'
      go_simp
      with_reducible rfl
     rotate_left
     ·simp only [SX]
      rfl
     refine pu 6 63 ?_ (ms 38 127) rfl rfl HT_ (by kernel_rfl) (fun _ _ _ h => h) (by rfl) ?_ ?_ ?_ ?_
     rotate_left
     ·intro w'
      go_simp
      with_reducible rfl
     rotate_left
     ·simp only [SX]
      rfl
     refine pu 8 65 ?_ (ms 38 383) rfl rfl HT_ (by kernel_rfl) (fun _ _ _ h => h) (by rfl) ?_ ?_ ?_ ?_
     rotate_left
     ·intro w'
      go_simp
      with_reducible rfl
     rotate_left
     ·simp only [SX]
      rfl
     refine tk 7 64 ?_ (ms 38 511) rfl rfl HT_ HW_ (by kernel_rfl) (fun _ _ _ h => h) (by rfl) ?_ hHeld ?_ ?_ ?_
     rotate_left
     ·rintro w' ⟨s0, s1⟩
      go_simp
      with_reducible rfl
     rotate_left
     ·simp only [SX]
      rfl
     refine pu 9 66 ?_ (ms 38 1023) rfl rfl HT_ (by kernel_rfl) (fun _ _ _ h => h) (by rfl) ?_ ?_ ?_ ?_
     rotate_left
     ·intro w'
      go_simp
      with_reducible rfl
     rotate_left
     ·simp only [SX]
      rfl
     refine tk 10 67 ?_ (ms 38 2047) rfl rfl HT_ HW_ (by kernel_rfl) (fun _ _ _ h => h) (by rfl) ?_ hHeld ?_ ?_ ?_
     rotate_left
     ·rintro w' ⟨s0, s1⟩
      go_simp
      with_reducible rfl
     rotate_left
     ·simp only [SX]
      rfl
     refine pu 11 68 ?_ (ms 38 4095) rfl rfl HT_ (by kernel_rfl) (fun _ _ _ h => h) (by rfl) ?_ ?_ ?_ ?_
     rotate_left
     ·intro w'
      go_simp
      with_reducible rfl
     rotate_left
     ·simp only [SX]
      rfl
     refine pu 12 69 ?_ (ms 38 8191) rfl rfl HT_ (by kernel_rfl) (fun _ _ _ h => h) (by rfl) ?_ ?_ ?_ ?_
     rotate_left
     ·intro w'
      go_simp
      with_reducible rfl
     rotate_left
     ·simp only [SX]
      rfl
     refine pu 13 70 ?_ (ms 38 16383) rfl rfl HT_ (by kernel_rfl) (fun _ _ _ h => h) (by rfl) ?_ ?_ ?_ ?_
     rotate_left
     ·intro w'
      go_simp
      with_reducible rfl
     rotate_left
     ·simp only [SX]
      rfl
     refine pure_ (i := 14) (N := some 71) (v := undef) (a' := ?_) (ms 38 32767) rfl rfl (any_of HT_.out (by kernel_rfl)) (fun _ _ _ h => h) (Or.inr ⟨by rfl, rfl⟩) ?_ ?_
     rotate_left
     ·simp only [SX]
      rfl
     refine pure_ (i := 15) (N := some 72) (v := undef) (a' := ?_) (ms 38 65535) rfl rfl (any_of HT_.out (by kernel_rfl)) (fun _ _ _ h => h) (Or.inr ⟨by rfl, rfl⟩) ?_ ?_
     rotate_left
     ·simp only [SX]
      rfl
     refine pure_ (i := 16) (N := some 73) (v := undef) (a' := ?_) (ms 38 131071) rfl rfl (any_of HT_.out (by kernel_rfl)) (fun _ _ _ h => h) (Or.inr ⟨by rfl, rfl⟩) ?_ ?_
     rotate_left
     ·simp only [SX]
      rfl
     refine pure_ (i := 17) (N := some 74) (v := undef) (a' := ?_) (ms 38 262143) rfl rfl (any_of HT_.out (by kernel_rfl)) (fun _ _ _ h => h) (Or.inr ⟨by rfl, rfl⟩) ?_ ?_
     rotate_left
     ·simp only [SX]
      rfl
     refine pure_ (i := 18) (N := some 75) (v := undef) (a' := ?_) (ms 38 524287) rfl rfl (any_of HT_.out (by kernel_rfl)) (fun _ _ _ h => h) (Or.inr ⟨by rfl, rfl⟩) ?_ ?_
     rotate_left
     ·simp only [SX]
      rfl
     refine pure_ (i := 19) (N := some 76) (v := undef) (a' := ?_) (ms 38 1048575) rfl rfl (any_of HT_.out (by kernel_rfl)) (fun _ _ _ h => h) (Or.inr ⟨by rfl, rfl⟩) ?_ ?_
     rotate_left
     ·simp only [SX]
      rfl
     refine pure_ (i := 20) (N := some 77) (v := undef) (a' := ?_) (ms 38 2097151) rfl rfl (any_of HT_.out (by kernel_rfl)) (fun _ _ _ h => h) (Or.inr ⟨by rfl, rfl⟩) ?_ ?_
     rotate_left
     ·simp only [SX]
      rfl
     refine pure_ (i := 21) (N := some 78) (v := undef) (a' := ?_) (ms 38 4194303) rfl rfl (any_of HT_.out (by kernel_rfl)) (fun _ _ _ h => h) (Or.inr ⟨by rfl, rfl⟩) ?_ ?_
     rotate_left
     ·simp only [SX]
      rfl
     refine pure_ (i := 22) (N := some 79) (v := undef) (a' := ?_) (ms 38 8388607) rfl rfl (any_of HT_.out (by kernel_rfl)) (fun _ _ _ h => h) (Or.inr ⟨by rfl, rfl⟩) ?_ ?_
     rotate_left
     ·simp only [SX]
      rfl
     refine pure_ (i := 23) (N := some 80) (v := undef) (a' := ?_) (ms 38 16777215) rfl rfl (any_of HT_.out (by kernel_rfl)) (fun _ _ _ h => h) (Or.inr ⟨by rfl, rfl⟩) ?_ ?_
     rotate_left
     ·simp only [SX]
      rfl
     refine pure_ (i := 24) (N := some 81) (v := undef) (a' := ?_) (ms 38 33554431) rfl rfl (any_of HT_.out (by kernel_rfl)) (fun _ _ _ h => h) (Or.inr ⟨by rfl, rfl⟩) ?_ ?_
     rotate_left
     ·simp only [SX]
      rfl
     refine pure_ (i := 25) (N := some 82) (v := undef) (a' := ?_) (ms 38 67108863) rfl rfl (any_of HT_.out (by kernel_rfl)) (fun _ _ _ h => h) (Or.inr ⟨by rfl, rfl⟩) ?_ ?_
     rotate_left
     ·simp only [SX]
      rfl
     refine pure_ (i := 26) (N := some 83) (v := undef) (a' := ?_) (ms 38 134217727) rfl rfl (any_of HT_.out (by kernel_rfl)) (fun _ _ _ h => h) (Or.inr ⟨by rfl, rfl⟩) ?_ ?_
     rotate_left
     ·simp only [SX]
      rfl
     refine pure_ (i := 27) (N := some 84) (v := undef) (a' := ?_) (ms 38 268435455) rfl rfl (any_of HT_.out (by kernel_rfl)) (fun _ _ _ h => h) (Or.inr ⟨by rfl, rfl⟩) ?_ ?_
     rotate_left
     ·simp only [SX]
      rfl
     refine pure_ (i := 28) (N := some 85) (v := undef) (a' := ?_) (ms 38 536870911) rfl rfl (any_of HT_.out (by kernel_rfl)) (fun _ _ _ h => h) (Or.inr ⟨by rfl, rfl⟩) ?_ ?_
     rotate_left
     ·simp only [SX]
      rfl
     refine pure_ (i := 29) (N := some 86) (v := undef) (a' := ?_) (ms 38 1073741823) rfl rfl (any_of HT_.out (by kernel_rfl)) (fun _ _ _ h => h) (Or.inr ⟨by rfl, rfl⟩) ?_ ?_
     rotate_left
     ·simp only [SX]
      rfl
     refine pure_ (i := 30) (N := some 87) (v := undef) (a' := ?_) (ms 38 2147483647) rfl rfl (any_of HT_.out (by kernel_rfl)) (fun _ _ _ h => h) (Or.inr ⟨by rfl, rfl⟩) ?_ ?_
     rotate_left
     ·simp only [SX]
      rfl
     refine pure_ (i := 31) (N := some 88) (v := undef) (a' := ?_) (ms 38 4294967295) rfl rfl (any_of HT_.out (by kernel_rfl)) (fun _ _ _ h => h) (Or.inr ⟨by rfl, rfl⟩) ?_ ?_
     rotate_left
     ·simp only [SX]
      rfl
     refine pure_ (i := 32) (N := some 89) (v := undef) (a' := ?_) (ms 38 8589934591) rfl rfl (any_of HT_.out (by kernel_rfl)) (fun _ _ _ h => h) (Or.inr ⟨by rfl, rfl⟩) ?_ ?_
     rotate_left
     ·simp only [SX]
      rfl
     refine pure_ (i := 33) (N := some 90) (v := undef) (a' := ?_) (ms 38 17179869183) rfl rfl (any_of HT_.out (by kernel_rfl)) (fun _ _ _ h => h) (Or.inr ⟨by rfl, rfl⟩) ?_ ?_
     rotate_left
     ·simp only [SX]
      rfl
     refine pure_ (i := 34) (N := some 91) (v := undef) (a' := ?_) (ms 38 34359738367) rfl rfl (any_of HT_.out (by kernel_rfl)) (fun _ _ _ h => h) (Or.inr ⟨by rfl, rfl⟩) ?_ ?_
     rotate_left
     ·simp only [SX]
      rfl
     refine pure_ (i := 35) (N := some 92) (v := undef) (a' := ?_) (ms 38 68719476735) rfl rfl (any_of HT_.out (by kernel_rfl)) (fun _ _ _ h => h) (Or.inr ⟨by rfl, rfl⟩) ?_ ?_
     rotate_left
     ·simp only [SX]
      rfl
     refine pure_ (i := 36) (N := some 93) (v := undef) (a' := ?_) (ms 38 137438953471) rfl rfl (any_of HT_.out (by kernel_rfl)) (fun _ _ _ h => h) (Or.inr ⟨by rfl, rfl⟩) ?_ ?_
     rotate_left
     ·simp only [SX]
      rfl
     refine pu 37 94 ?_ (ms 38 274877906943) rfl rfl HT_ (by kernel_rfl) (fun _ _ _ h => h) (by rfl) ?_ ?_ ?_ ?_
     rotate_left
     ·intro w'
      go_simp
      with_reducible rfl
     rotate_left
     ·simp only [SX]
      rfl
     refine done_ (done_of HT_.out (by kernel_rfl)) ?_
     try go_wp2
     (try simp only [← hl9_3])
     go_roundg k3
     case measure => have := HK1.out; have := HK2.out; have := HK3.out; omega
     case rel => exact ⟨(x9_3), (x10_3), (wrap64 (x12_3 + 1)), (by first | rfl | (simp; done) | (simp [*]; done)), H', ⟨by have := HK1.out; have := HK2.out; have := HK3.out; omega⟩, ⟨by (try simp only [hl9_3]); (with_reducible repeat (first | apply Kd.N_alloc | apply Kd.N_drewN | apply Kd.N_drew)); exact Kd.N_mono HO_6.out (fun _ hk => ⟨hk.1.1, ⟨hk.1.2.1, ⟨hk.1.2.2.1, ⟨hk.1.2.2.2.1, hk.1.2.2.2.2⟩⟩⟩⟩)⟩, ⟨by (try simp only [hl9_3]); (with_reducible repeat (first | apply Kd.N_alloc | apply Kd.N_drewN | apply Kd.N_drew)); exact Kd.N_mono HO_7.out (fun _ hk => ⟨hk.1.1, ⟨hk.1.2.1, ⟨hk.1.2.2.1, ⟨hk.1.2.2.2.1, hk.1.2.2.2.2⟩⟩⟩⟩)⟩, ⟨by (try simp only [hl9_3]); (with_reducible repeat (first | apply Kd.R_alloc | apply Kd.R_drewN | apply Kd.R_drew)); exact Kd.R_mono HO_9.out (fun _ hk => ⟨hk.1.1, hk.1.2⟩)⟩, ⟨by (try simp only [hl9_3]); (with_reducible repeat (first | apply Kd.R_alloc | apply Kd.R_drewN | apply Kd.R_drew)); exact Kd.R_mono HO_10.out (fun _ hk => ⟨hk.1.1, hk.1.2⟩)⟩, ⟨by (try simp only [hl9_3]); (with_reducible repeat (first | refine blk_drewN ?_ _ | refine blk_drew ?_ | refine blk_alloc ?_ _)); exact BK175.out⟩, ⟨bl1 HB GE175⟩⟩
    rw [if_pos c46] at H
    have c46b0 : decide ((rd (rd_L3 x6_1 (ji41)) x12_3) < 99999) = true := decide_eq_true c46
    clear c46
    by_cases c47 : 0 ≤ x8_1
    rotate_left
    ·rw [if_neg c47] at H
     exact absurd H (by simp)
    rw [if_pos c47] at H
    have c47b0 : decide (0 ≤ x8_1) = true := decide_eq_true c47
    clear c47
    by_cases c48 : x8_1 < (l1.length : Int)
    rotate_left
    ·rw [if_neg c48] at H
     exact absurd H (by simp)
    rw [if_pos c48] at H
    have c48b0 : decide (x8_1 < (l1.length : Int)) = true := decide_eq_true c48
    clear c48
    by_cases c49 : x11_2 < ((rd_L3 l1 x8_1).length : Int)
    rotate_left
    ·rw [if_neg c49] at H
     exact absurd H (by simp)
    rw [if_pos c49] at H
    have c49b0 : decide (x11_2 < ((rd_L3 l1 x8_1).length : Int)) = true := decide_eq_true c49
    clear c49
    by_cases c50 : x11_2 < (x9_3.length : Int)
    rotate_left
    ·rw [if_neg c50] at H
     exact absurd H (by simp)
    rw [if_pos c50] at H
    have c50b0 : decide (x11_2 < (x9_3.length : Int)) = true := decide_eq_true c50
    clear c50
    by_cases c51 : (wrap64 ((wrap64 ((rd (rd_L3 x6_1 (ji41)) x12_3) + (rd t205 x11_2))) + (rd (rd_L3 l1 x8_1) x11_2))) < (rd x9_3 x11_2)
    rotate_left
    ·rw [if_neg c51] at H
     have c51b0 : decide ((wrap64 ((wrap64 ((rd (rd_L3 x6_1 (ji41)) x12_3) + (rd t205 x11_2))) + (rd (rd_L3 l1 x8_1) x11_2))) < (rd x9_3 x11_2)) = false := decide_eq_false c51
     clear c51
     have H' := ak H
     clear H
     have hcz65_0 := bc wr BK175 0 (.int .i64 a0_0) rfl
     have hcz65_1 := bc wr BK175 1 (.slice A0_1 l0_1.length c0_1) rfl
     have hfz65_0 := fz BK175 0
     have hfz65_1 := fz BK175 1
     try go_wp2_with (first | ((with_reducible refine gate_callee (f := 107) rfl ?_); refine goesL_ (some 53) rfl rfl Try.func107 (by kernel_rfl) rfl #[.agg #[.int .i64 a0_0, .slice A0_1 l0_1.length c0_1], .int .i64 x12_3] rfl (by (try simp only [List.map_toArray, List.map_cons, List.map_nil]); first | done | rfl | (simp only [List.length_drop, List.length_take]; rfl)) ?_; (with_reducible refine (spec_l3All.calls k3 a0_0 _ _ l0_1 x12_3 t205 _ ?side1 ?side2 A37.out).mono ?_); (case side1 => repeat (first | exact (Kd.C_below HR0_1.out HB.out) | (with_reducible refine Kd.C_alloc ?_ _) | (with_reducible refine Kd.C_drewN ?_ _) | (with_reducible refine Kd.C_drew ?_))); (case side2 => exact HC0_1.out); rintro e w66 ⟨v206, rfl, ho0, hb⟩; refine ⟨_, rfl, ?_⟩; replace HO_6 := ak (Kd.N_elder' (by (with_reducible repeat (first | apply Kd.N_alloc | apply Kd.N_drewN | apply Kd.N_drew)); exact HO_6.out) (Kd.R_base ho0) hb); replace HO_7 := ak (Kd.N_elder' (by (with_reducible repeat (first | apply Kd.N_alloc | apply Kd.N_drewN | apply Kd.N_drew)); exact HO_7.out) (Kd.R_base ho0) hb); have HO207 := ak (Kd.R_lower (Kd.R_new' (Kd.R_new' (Kd.R_newM (M := fun k_ => (w.heap.size ≤ k_)) ho0 (below_size (bl1 HB GE175)) (fun k_ h_ => h_)) (Kd.R_lt (rk HO_9))) (Kd.R_lt (rk HO_10))) (below_size (bl1 HB GE175))); replace HO_9 := ak (Kd.R_elder' (rk HO_9) (Kd.R_base ho0) hb); replace HO_10 := ak (Kd.R_elder' (rk HO_10) (Kd.R_base ho0) hb); replace BK175 := ak (blk_below (bk BK175) hb); replace HB := ak (below_step (bl1 HB GE175) hb); (try clear hb); (try clear hb2); (try clear hk); (try clear hi); (try clear ho0); obtain ⟨Ao67, co67, eo67⟩ := Kd.R_slice HO207.out; subst eo67; have p208 : 0 ≤ (x11_2 : Int) := oT (by first | (with_reducible assumption) | assumption); have q208 : x11_2 < (t205.length : Int) := oT (by first | (with_reducible assumption) | assumption); obtain ⟨ad208, e208, hx208_0⟩ := Kd.at_int (Kd.R_reads' HO207.out).2.2 x11_2 p208 q208; cases e208; replace p208 := eq_true p208; replace q208 := eq_true q208))
     replace HO_6 := ak (Kd.N_drew HO_6.out)
     replace HO_7 := ak (Kd.N_drew HO_7.out)
     replace HO_9 := ak (Kd.R_drew HO_9.out)
     replace HO_10 := ak (Kd.R_drew HO_10.out)
     replace HO207 := ak (Kd.R_drew HO207.out)
     replace BK175 := ak (blk_drew BK175.out)
     replace HB := ak (below_drew1 HB.out)
     obtain ⟨Ao69, co69, eo69⟩ := Kd.N_slice HO_6.out
     (first | subst eo69 | (injection eo69 with f1_ f2_ f3_; have f4_ := f1_.symm; have f5_ := f3_.symm; clear f1_ f2_ f3_; subst f4_; subst f5_))
     have p209 : 0 ≤ ((ji41) : Int) := oT (by first | (with_reducible assumption) | assumption)
     have q209 : (ji41) < (x6_1.length : Int) := oT (by first | (with_reducible assumption) | assumption)
     obtain ⟨ad209, A209_0, c209_0, e209, hx209_0, hl209_0, hi209_0⟩ := at_L3 (Kd.N_reads' HO_6.out).2.2 (ji41) p209 q209
     cases e209
     obtain ⟨ce209, hce209, hMe209, hcc209⟩ := Kd.N_get HO_6.out [] (ji41) p209 (by first | exact q209 | exact oT (by first | (with_reducible assumption) | assumption) | (have e_ := (Kd.N_reads' HO_6.out).1; omega))
     obtain ⟨ua209_0, uc209_0, rfl, ul209_0, ge209_0⟩ := Kd.FK_slice_open hMe209
     have hv209_0 := hcc209 0 _ rfl
     rw [Nat.add_zero, show ((Kd.slice 3 (Kd.int .i64))).sz = 1 from rfl, Nat.mul_one] at hv209_0
     replace hv209_0 := Option.some.inj (hv209_0.symm.trans hx209_0)
     injection hv209_0 with hva_ hvn_ hvc_
     rw [hva_] at ge209_0
     rw [hvc_] at ul209_0
     have HL209_0 := ak (show Kd.V (Kd.int .i64) 3 _ w.heap.size _ _ (rd_L3 x6_1 (ji41)) from Kd.V_mk ul209_0 ge209_0)
     clear hva_ hvn_ hvc_ ge209_0 ul209_0
     clear hcc209 hce209
     have HR209_0 := ak hi209_0
     have HC209_0 := ak hl209_0
     clear hi209_0 hl209_0
     replace p209 := eq_true p209
     replace q209 := eq_true q209
     have p210 : 0 ≤ (x12_3 : Int) := oT (by first | (with_reducible assumption) | assumption)
     have q210 : x12_3 < ((rd_L3 x6_1 (ji41)).length : Int) := oT (by first | (with_reducible assumption) | assumption)
     obtain ⟨ad210, e210, hx210_0⟩ := Kd.at_int (by repeat (first | (with_reducible exact HR209_0.out) | (with_reducible refine Kd.C_alloc ?_ _) | (with_reducible refine Kd.C_drewN ?_ _) | (with_reducible refine Kd.C_drew ?_) | exact HR209_0.out)) x12_3 p210 q210
     cases e210
     replace p210 := eq_true p210
     replace q210 := eq_true q210
     have p211 : 0 ≤ ((ji41) : Int) := oT (by first | (with_reducible assumption) | assumption)
     have q211 : (ji41) < (x6_1.length : Int) := oT (by first | (with_reducible assumption) | assumption)
     obtain ⟨ad211, A211_0, c211_0, e211, hx211_0, hl211_0, hi211_0⟩ := at_L3 (Kd.N_reads' HO_6.out).2.2 (ji41) p211 q211
     obtain rfl : ad209 = ad211 := (by injection e211)
     obtain ⟨ce211, hce211, hMe211, hcc211⟩ := Kd.N_get HO_6.out [] (ji41) p211 (by first | exact q211 | exact oT (by first | (with_reducible assumption) | assumption) | (have e_ := (Kd.N_reads' HO_6.out).1; omega))
     obtain ⟨ua211_0, uc211_0, rfl, ul211_0, ge211_0⟩ := Kd.FK_slice_open hMe211
     have hv211_0 := hcc211 0 _ rfl
     rw [Nat.add_zero, show ((Kd.slice 3 (Kd.int .i64))).sz = 1 from rfl, Nat.mul_one] at hv211_0
     replace hv211_0 := Option.some.inj (hv211_0.symm.trans hx211_0)
     injection hv211_0 with hva_ hvn_ hvc_
     rw [hva_] at ge211_0
     rw [hvc_] at ul211_0
     have HL211_0 := ak (show Kd.V (Kd.int .i64) 3 _ w.heap.size _ _ (rd_L3 x6_1 (ji41)) from Kd.V_mk ul211_0 ge211_0)
     clear hva_ hvn_ hvc_ ge211_0 ul211_0
     clear hcc211 hce211
     have HR211_0 := ak hi211_0
     have HC211_0 := ak hl211_0
     clear hi211_0 hl211_0
     replace p211 := eq_true p211
     replace q211 := eq_true q211
     have ea_ := Option.some.inj (hx209_0.symm.trans hx211_0)
     injection ea_ with ea_ en_ ec_
     subst ea_
     subst ec_
     clear en_
     have p212 : 0 ≤ (x12_3 : Int) := oT (by first | (with_reducible assumption) | assumption)
     have q212 : x12_3 < ((rd_L3 x6_1 (ji41)).length : Int) := oT (by first | (with_reducible assumption) | assumption)
     obtain ⟨ad212, e212, hx212_0⟩ := Kd.at_int (by repeat (first | (with_reducible exact HR211_0.out) | (with_reducible refine Kd.C_alloc ?_ _) | (with_reducible refine Kd.C_drewN ?_ _) | (with_reducible refine Kd.C_drew ?_) | exact HR211_0.out)) x12_3 p212 q212
     cases e212
     replace p212 := eq_true p212
     replace q212 := eq_true q212
     have p213 : 0 ≤ (x8_1 : Int) := oT (by first | (with_reducible assumption) | assumption)
     have q213 : x8_1 < (l1.length : Int) := oT (by first | (with_reducible assumption) | assumption)
     obtain ⟨ad213, A213_0, c213_0, e213, hx213_0, hl213_0, hi213_0⟩ := at_L3 HR1.out x8_1 p213 q213
     have hw213_0 := hx213_0
     obtain rfl : ad179 = ad213 := (by injection e213)
     replace hx213_0 := hcb HB.out hx213_0
     have HR213_0 := ak hi213_0
     have HC213_0 := ak hl213_0
     clear hi213_0 hl213_0
     replace p213 := eq_true p213
     replace q213 := eq_true q213
     have p214 : 0 ≤ (x11_2 : Int) := oT (by first | (with_reducible assumption) | assumption)
     have q214 : x11_2 < ((rd_L3 l1 x8_1).length : Int) := oT (by first | (with_reducible assumption) | assumption)
     obtain ⟨ad214, e214, hx214_0⟩ := Kd.at_int HR213_0.out x11_2 p214 q214
     have hw214_0 := hx214_0
     cases e214
     replace hx214_0 := hcb HB.out hx214_0
     replace p214 := eq_true p214
     replace q214 := eq_true q214
     have p215 : 0 ≤ (x11_2 : Int) := oT (by first | (with_reducible assumption) | assumption)
     have q215 : x11_2 < (x9_3.length : Int) := oT (by first | (with_reducible assumption) | assumption)
     obtain ⟨ad215, e215, hx215_0⟩ := Kd.at_int (Kd.R_reads' HO_9.out).2.2 x11_2 p215 q215
     obtain rfl : (⟨go32, 0, none⟩ : Addr) = ad215 := (by injection e215)
     (first | simp only [add_plain] at hx215_0 | simp only [add_at] at hx215_0 | simp only [Addr.add, Nat.zero_add] at hx215_0 | skip)
     replace p215 := eq_true p215
     replace q215 := eq_true q215
     refine start_ (n := 38) (S := fun w' => w'.cell? (ad209.add ((ji41)).toNat) = some (.slice (some ad210) (rd_L3 x6_1 (ji41)).length c209_0) ∧ w'.cell? (ad210.add (x12_3).toNat) = some (.int .i64 (rd (rd_L3 x6_1 (ji41)) x12_3)) ∧ w'.cell? (ad209.add ((ji41)).toNat) = some (.slice (some ad210) (rd_L3 x6_1 (ji41)).length c209_0) ∧ w'.cell? (ad210.add (x12_3).toNat) = some (.int .i64 (rd (rd_L3 x6_1 (ji41)) x12_3)) ∧ w'.cell? (ad179.add (x8_1).toNat) = some (.slice (some ad214) (rd_L3 l1 x8_1).length c213_0) ∧ w'.cell? (ad214.add (x11_2).toNat) = some (.int .i64 (rd (rd_L3 l1 x8_1) x11_2)) ∧ w'.cell? ⟨go32, (x11_2).toNat, none⟩ = some (.int .i64 (rd x9_3 x11_2))) (ds := []) (ms 38 0) (by kernel_rfl) rfl (by kernel_rfl) ⟨hx209_0, hx210_0, hx211_0, hx212_0, ((HB.out.cell (World.block_lt_of_cell? w _ hw213_0)).trans hw213_0), ((HB.out.cell (World.block_lt_of_cell? w _ hw214_0)).trans hw214_0), hx215_0⟩ (fun hHeld => ?_); refine with_tabW spec_l15Rows.tab16 spec_l15Rows.bits16 (fun HT_ HW_ => ?_)
     generalize w66.drew = w68 at HO_6 HO_7 HO_9 HO_10 HO207 BK175 HB HL209_0 HL211_0 HR209_0 HR211_0 HR213_0 hx209_0 hx210_0 hx211_0 hx212_0 hx213_0 hx214_0 hx215_0 hHeld ⊢
     refine pu 0 57 ?_ (ms 38 1) rfl rfl HT_ (by kernel_rfl) (fun _ _ _ h => h) (by rfl) ?_ ?_ ?_ ?_
     rotate_left
     ·intro w'
      go_simp
      with_reducible rfl
     rotate_left
     ·simp only [SX]
      rfl
     refine pu 1 58 ?_ (ms 38 3) rfl rfl HT_ (by kernel_rfl) (fun _ _ _ h => h) (by rfl) ?_ ?_ ?_ ?_
     rotate_left
     ·intro w'
      go_simp
      with_reducible rfl
     rotate_left
     ·simp only [SX]
      rfl
     refine pu 2 59 ?_ (ms 38 7) rfl rfl HT_ (by kernel_rfl) (fun _ _ _ h => h) (by rfl) ?_ ?_ ?_ ?_
     rotate_left
     ·intro w'
      go_simp
      with_reducible rfl
     rotate_left
     ·simp only [SX]
      rfl
     refine pu 3 60 ?_ (ms 38 15) rfl rfl HT_ (by kernel_rfl) (fun _ _ _ h => h) (by rfl) ?_ ?_ ?_ ?_
     rotate_left
     ·intro w'
      go_simp
      with_reducible rfl
     rotate_left
     ·simp only [SX]
      rfl
     refine pu 4 61 ?_ (ms 38 31) rfl rfl HT_ (by kernel_rfl) (fun _ _ _ h => h) (by rfl) ?_ ?_ ?_ ?_
     rotate_left
     ·intro w'
      go_simp
      with_reducible rfl
     rotate_left
     ·simp only [SX]
      rfl
     refine pu 5 62 ?_ (ms 38 63) rfl rfl HT_ (by kernel_rfl) (fun _ _ _ h => h) (by rfl) ?_ ?_ ?_ ?_
     rotate_left
     ·intro w'
      go_simp
      with_reducible rfl
     rotate_left
     ·simp only [SX]
      rfl
     refine pu 6 63 ?_ (ms 38 127) rfl rfl HT_ (by kernel_rfl) (fun _ _ _ h => h) (by rfl) ?_ ?_ ?_ ?_
     rotate_left
     ·intro w'
      go_simp
      with_reducible rfl
     rotate_left
     ·simp only [SX]
      rfl
     refine pu 8 65 ?_ (ms 38 383) rfl rfl HT_ (by kernel_rfl) (fun _ _ _ h => h) (by rfl) ?_ ?_ ?_ ?_
     rotate_left
     ·intro w'
      go_simp
      with_reducible rfl
     rotate_left
     ·simp only [SX]
      rfl
     refine tk 7 64 ?_ (ms 38 511) rfl rfl HT_ HW_ (by kernel_rfl) (fun _ _ _ h => h) (by rfl) ?_ hHeld ?_ ?_ ?_
     rotate_left
     ·rintro w' ⟨s0, s1, s2, s3, s4, s5, s6⟩
      go_simp
      with_reducible rfl
     rotate_left
     ·simp only [SX]
      rfl
     refine pu 9 66 ?_ (ms 38 1023) rfl rfl HT_ (by kernel_rfl) (fun _ _ _ h => h) (by rfl) ?_ ?_ ?_ ?_
     rotate_left
     ·intro w'
      go_simp
      with_reducible rfl
     rotate_left
     ·simp only [SX]
      rfl
     refine tk 10 67 ?_ (ms 38 2047) rfl rfl HT_ HW_ (by kernel_rfl) (fun _ _ _ h => h) (by rfl) ?_ hHeld ?_ ?_ ?_
     rotate_left
     ·rintro w' ⟨s0, s1, s2, s3, s4, s5, s6⟩
      go_simp
      with_reducible rfl
     rotate_left
     ·simp only [SX]
      rfl
     refine pu 11 68 ?_ (ms 38 4095) rfl rfl HT_ (by kernel_rfl) (fun _ _ _ h => h) (by rfl) ?_ ?_ ?_ ?_
     rotate_left
     ·intro w'
      go_simp
      with_reducible rfl
     rotate_left
     ·simp only [SX]
      rfl
     refine pu 12 69 ?_ (ms 38 8191) rfl rfl HT_ (by kernel_rfl) (fun _ _ _ h => h) (by rfl) ?_ ?_ ?_ ?_
     rotate_left
     ·intro w'
      go_simp
      with_reducible rfl
     rotate_left
     ·simp only [SX]
      rfl
     refine pu 13 70 ?_ (ms 38 16383) rfl rfl HT_ (by kernel_rfl) (fun _ _ _ h => h) (by rfl) ?_ ?_ ?_ ?_
     rotate_left
     ·intro w'
      go_simp
      with_reducible rfl
     rotate_left
     ·simp only [SX]
      rfl
     refine pu 14 71 ?_ (ms 38 32767) rfl rfl HT_ (by kernel_rfl) (fun _ _ _ h => h) (by rfl) ?_ ?_ ?_ ?_
     rotate_left
     ·intro w'
      go_simp
      with_reducible rfl
     rotate_left
     ·simp only [SX]
      rfl
     refine pu 15 72 ?_ (ms 38 65535) rfl rfl HT_ (by kernel_rfl) (fun _ _ _ h => h) (by rfl) ?_ ?_ ?_ ?_
     rotate_left
     ·intro w'
      go_simp
      with_reducible rfl
     rotate_left
     ·simp only [SX]
      rfl
     refine pu 16 73 ?_ (ms 38 131071) rfl rfl HT_ (by kernel_rfl) (fun _ _ _ h => h) (by rfl) ?_ ?_ ?_ ?_
     rotate_left
     ·intro w'
      go_simp
      with_reducible rfl
     rotate_left
     ·simp only [SX]
      rfl
     refine pu 17 74 ?_ (ms 38 262143) rfl rfl HT_ (by kernel_rfl) (fun _ _ _ h => h) (by rfl) ?_ ?_ ?_ ?_
     rotate_left
     ·intro w'
      go_simp
      with_reducible rfl
     rotate_left
     ·simp only [SX]
      rfl
     refine pu 19 76 ?_ (ms 38 786431) rfl rfl HT_ (by kernel_rfl) (fun _ _ _ h => h) (by rfl) ?_ ?_ ?_ ?_
     rotate_left
     ·intro w'
      go_simp
      with_reducible rfl
     rotate_left
     ·simp only [SX]
      rfl
     refine pu 22 79 ?_ (ms 38 4980735) rfl rfl HT_ (by kernel_rfl) (fun _ _ _ h => h) (by rfl) ?_ ?_ ?_ ?_
     rotate_left
     ·intro w'
      go_simp
      with_reducible rfl
     rotate_left
     ·simp only [SX]
      rfl
     refine pu 24 81 ?_ (ms 38 21757951) rfl rfl HT_ (by kernel_rfl) (fun _ _ _ h => h) (by rfl) ?_ ?_ ?_ ?_
     rotate_left
     ·intro w'
      go_simp
      with_reducible rfl
     rotate_left
     ·simp only [SX]
      rfl
     refine pu 25 82 ?_ (ms 38 55312383) rfl rfl HT_ (by kernel_rfl) (fun _ _ _ h => h) (by rfl) ?_ ?_ ?_ ?_
     rotate_left
     ·intro w'
      go_simp
      with_reducible rfl
     rotate_left
     ·simp only [SX]
      rfl
     refine pu 26 83 ?_ (ms 38 122421247) rfl rfl HT_ (by kernel_rfl) (fun _ _ _ h => h) (by rfl) ?_ ?_ ?_ ?_
     rotate_left
     ·intro w'
      go_simp
      with_reducible rfl
     rotate_left
     ·simp only [SX]
      rfl
     refine pu 28 85 ?_ (ms 38 390856703) rfl rfl HT_ (by kernel_rfl) (fun _ _ _ h => h) (by rfl) ?_ ?_ ?_ ?_
     rotate_left
     ·intro w'
      go_simp
      with_reducible rfl
     rotate_left
     ·simp only [SX]
      rfl
     refine pu 32 89 ?_ (ms 38 4685823999) rfl rfl HT_ (by kernel_rfl) (fun _ _ _ h => h) (by rfl) ?_ ?_ ?_ ?_
     rotate_left
     ·intro w'
      go_simp
      with_reducible rfl
     rotate_left
     ·simp only [SX]
      rfl
     refine pu 33 90 ?_ (ms 38 13275758591) rfl rfl HT_ (by kernel_rfl) (fun _ _ _ h => h) (by rfl) ?_ ?_ ?_ ?_
     rotate_left
     ·intro w'
      go_simp
      with_reducible rfl
     rotate_left
     ·simp only [SX]
      rfl
     refine pu 34 91 ?_ (ms 38 30455627775) rfl rfl HT_ (by kernel_rfl) (fun _ _ _ h => h) (by rfl) ?_ ?_ ?_ ?_
     rotate_left
     ·intro w'
      go_simp
      with_reducible rfl
     rotate_left
     ·simp only [SX]
      rfl
     refine tk 18 75 ?_ (ms 38 30455889919) rfl rfl HT_ HW_ (by kernel_rfl) (fun _ _ _ h => h) (by rfl) ?_ hHeld ?_ ?_ ?_
     rotate_left
     ·rintro w' ⟨s0, s1, s2, s3, s4, s5, s6⟩
      go_simp
      with_reducible rfl
     rotate_left
     ·simp only [SX]
      rfl
     refine pu 20 77 ?_ (ms 38 30456938495) rfl rfl HT_ (by kernel_rfl) (fun _ _ _ h => h) (by rfl) ?_ ?_ ?_ ?_
     rotate_left
     ·intro w'
      go_simp
      with_reducible rfl
     rotate_left
     ·simp only [SX]
      rfl
     refine tk 21 78 ?_ (ms 38 30459035647) rfl rfl HT_ HW_ (by kernel_rfl) (fun _ _ _ h => h) (by rfl) ?_ hHeld ?_ ?_ ?_
     rotate_left
     ·rintro w' ⟨s0, s1, s2, s3, s4, s5, s6⟩
      go_simp
      with_reducible rfl
     rotate_left
     ·simp only [SX]
      rfl
     refine pu 23 80 ?_ (ms 38 30467424255) rfl rfl HT_ (by kernel_rfl) (fun _ _ _ h => h) (by rfl) ?_ ?_ ?_ ?_
     rotate_left
     ·intro w'
      go_simp
      with_reducible rfl
     rotate_left
     ·simp only [SX]
      rfl
     refine tk 27 84 ?_ (ms 38 30601641983) rfl rfl HT_ HW_ (by kernel_rfl) (fun _ _ _ h => h) (by rfl) ?_ hHeld ?_ ?_ ?_
     rotate_left
     ·rintro w' ⟨s0, s1, s2, s3, s4, s5, s6⟩
      go_simp
      with_reducible rfl
     rotate_left
     ·simp only [SX]
      rfl
     refine pu 29 86 ?_ (ms 38 31138512895) rfl rfl HT_ (by kernel_rfl) (fun _ _ _ h => h) (by rfl) ?_ ?_ ?_ ?_
     rotate_left
     ·intro w'
      go_simp
      with_reducible rfl
     rotate_left
     ·simp only [SX]
      rfl
     refine tk 30 87 ?_ (ms 38 32212254719) rfl rfl HT_ HW_ (by kernel_rfl) (fun _ _ _ h => h) (by rfl) ?_ hHeld ?_ ?_ ?_
     rotate_left
     ·rintro w' ⟨s0, s1, s2, s3, s4, s5, s6⟩
      go_simp
      with_reducible rfl
     rotate_left
     ·simp only [SX]
      rfl
     refine pu 31 88 ?_ (ms 38 34359738367) rfl rfl HT_ (by kernel_rfl) (fun _ _ _ h => h) (by rfl) ?_ ?_ ?_ ?_
     rotate_left
     ·intro w'
      go_simp
      with_reducible rfl
     rotate_left
     ·simp only [SX]
      rfl
     refine tk 35 92 ?_ (ms 38 68719476735) rfl rfl HT_ HW_ (by kernel_rfl) (fun _ _ _ h => h) (by rfl) ?_ hHeld ?_ ?_ ?_
     rotate_left
     ·rintro w' ⟨s0, s1, s2, s3, s4, s5, s6⟩
      go_simp
      with_reducible rfl
     rotate_left
     ·simp only [SX]
      rfl
     refine pu 36 93 ?_ (ms 38 137438953471) rfl rfl HT_ (by kernel_rfl) (fun _ _ _ h => h) (by rfl) ?_ ?_ ?_ ?_
     rotate_left
     ·intro w'
      go_simp
      with_reducible rfl
     rotate_left
     ·simp only [SX]
      rfl
     refine pu 37 94 ?_ (ms 38 274877906943) rfl rfl HT_ (by kernel_rfl) (fun _ _ _ h => h) (by rfl) ?_ ?_ ?_ ?_
     rotate_left
     ·intro w'
      go_simp
      with_reducible rfl
     rotate_left
     ·simp only [SX]
      rfl
     refine done_ (done_of HT_.out (by kernel_rfl)) ?_
     try go_wp2
     (try simp only [← hl9_3])
     go_roundg k3
     case measure => have := HK1.out; have := HK2.out; have := HK3.out; omega
     case rel => exact ⟨(x9_3), (x10_3), (wrap64 (x12_3 + 1)), (by first | rfl | (simp; done) | (simp [*]; done)), H', ⟨by have := HK1.out; have := HK2.out; have := HK3.out; omega⟩, ⟨by (try simp only [hl9_3]); (with_reducible repeat (first | apply Kd.N_alloc | apply Kd.N_drewN | apply Kd.N_drew)); exact Kd.N_mono HO_6.out (fun _ hk => ⟨hk.1.1, ⟨hk.1.2.1, ⟨hk.1.2.2.1, ⟨hk.1.2.2.2.1, hk.1.2.2.2.2⟩⟩⟩⟩)⟩, ⟨by (try simp only [hl9_3]); (with_reducible repeat (first | apply Kd.N_alloc | apply Kd.N_drewN | apply Kd.N_drew)); exact Kd.N_mono HO_7.out (fun _ hk => ⟨hk.1.1, ⟨hk.1.2.1, ⟨hk.1.2.2.1, ⟨hk.1.2.2.2.1, hk.1.2.2.2.2⟩⟩⟩⟩)⟩, ⟨by (try simp only [hl9_3]); (with_reducible repeat (first | apply Kd.R_alloc | apply Kd.R_drewN | apply Kd.R_drew)); exact Kd.R_mono HO_9.out (fun _ hk => ⟨hk.1.1, hk.1.2⟩)⟩, ⟨by (try simp only [hl9_3]); (with_reducible repeat (first | apply Kd.R_alloc | apply Kd.R_drewN | apply Kd.R_drew)); exact Kd.R_mono HO_10.out (fun _ hk => ⟨hk.1.1, hk.1.2⟩)⟩, ⟨by (try simp only [hl9_3]); (with_reducible repeat (first | refine blk_drewN ?_ _ | refine blk_drew ?_ | refine blk_alloc ?_ _)); exact BK175.out⟩, ⟨bl1 HB GE175⟩⟩
    rw [if_pos c51] at H
    have c51b0 : decide ((wrap64 ((wrap64 ((rd (rd_L3 x6_1 (ji41)) x12_3) + (rd t205 x11_2))) + (rd (rd_L3 l1 x8_1) x11_2))) < (rd x9_3 x11_2)) = true := decide_eq_true c51
    clear c51
    obtain ⟨y220, hy220⟩ : ∃ y_ : List Int, y_ = (x9_3.set (x11_2 : Int).toNat (wrap64 ((wrap64 ((rd (rd_L3 x6_1 (ji41)) x12_3) + (rd t205 x11_2))) + (rd (rd_L3 l1 x8_1) x11_2)))) := ⟨_, rfl⟩
    replace H : (if x11_2 < (x10_3.length : Int) then (spec_l15Rows.l2 k3 l1 x6_1 x7_1 x8_1 y220 (x10_3.set (x11_2 : Int).toNat x12_3) x11_2 (wrap64 (x12_3 + 1)) a0_0 l0_1) else (none)) = some (r1, r2) := by first | (rw [hy220]; with_reducible exact H) | (have H2_ := (Option.bind_some _ _).symm.trans H; rw [hy220]; with_reducible exact H2_) | (have H2_ := (Option.bind_some _ _).symm.trans H; with_reducible exact H2_) | with_reducible exact H | (rw [hy220]; exact H) | exact H
    have Ny220 := ak hy220
    clear hy220
    by_cases c53 : x11_2 < (x10_3.length : Int)
    rotate_left
    ·rw [if_neg c53] at H
     exact absurd H (by simp)
    rw [if_pos c53] at H
    have c53b0 : decide (x11_2 < (x10_3.length : Int)) = true := decide_eq_true c53
    clear c53
    obtain ⟨y221, hy221⟩ : ∃ y_ : List Int, y_ = (x10_3.set (x11_2 : Int).toNat x12_3) := ⟨_, rfl⟩
    replace H : (spec_l15Rows.l2 k3 l1 x6_1 x7_1 x8_1 y220 y221 x11_2 (wrap64 (x12_3 + 1)) a0_0 l0_1) = some (r1, r2) := by first | (rw [hy221]; with_reducible exact H) | (have H2_ := (Option.bind_some _ _).symm.trans H; rw [hy221]; with_reducible exact H2_) | (have H2_ := (Option.bind_some _ _).symm.trans H; with_reducible exact H2_) | with_reducible exact H | (rw [hy221]; exact H) | exact H
    have Ny221 := ak hy221
    clear hy221
    have H' := ak H
    clear H
    have hcz55_0 := bc wr BK175 0 (.int .i64 a0_0) rfl
    have hcz55_1 := bc wr BK175 1 (.slice A0_1 l0_1.length c0_1) rfl
    have hfz55_0 := fz BK175 0
    have hfz55_1 := fz BK175 1
    try go_wp2_with (first | ((with_reducible refine gate_callee (f := 107) rfl ?_); refine goesL_ (some 53) rfl rfl Try.func107 (by kernel_rfl) rfl #[.agg #[.int .i64 a0_0, .slice A0_1 l0_1.length c0_1], .int .i64 x12_3] rfl (by (try simp only [List.map_toArray, List.map_cons, List.map_nil]); first | done | rfl | (simp only [List.length_drop, List.length_take]; rfl)) ?_; (with_reducible refine (spec_l3All.calls k3 a0_0 _ _ l0_1 x12_3 t205 _ ?side1 ?side2 A37.out).mono ?_); (case side1 => repeat (first | exact (Kd.C_below HR0_1.out HB.out) | (with_reducible refine Kd.C_alloc ?_ _) | (with_reducible refine Kd.C_drewN ?_ _) | (with_reducible refine Kd.C_drew ?_))); (case side2 => exact HC0_1.out); rintro e w56 ⟨v206, rfl, ho0, hb⟩; refine ⟨_, rfl, ?_⟩; replace HO_6 := ak (Kd.N_elder' (by (with_reducible repeat (first | apply Kd.N_alloc | apply Kd.N_drewN | apply Kd.N_drew)); exact HO_6.out) (Kd.R_base ho0) hb); replace HO_7 := ak (Kd.N_elder' (by (with_reducible repeat (first | apply Kd.N_alloc | apply Kd.N_drewN | apply Kd.N_drew)); exact HO_7.out) (Kd.R_base ho0) hb); have HO207 := ak (Kd.R_lower (Kd.R_new' (Kd.R_new' (Kd.R_newM (M := fun k_ => (w.heap.size ≤ k_)) ho0 (below_size (bl1 HB GE175)) (fun k_ h_ => h_)) (Kd.R_lt (rk HO_9))) (Kd.R_lt (rk HO_10))) (below_size (bl1 HB GE175))); replace HO_9 := ak (Kd.R_elder' (rk HO_9) (Kd.R_base ho0) hb); replace HO_10 := ak (Kd.R_elder' (rk HO_10) (Kd.R_base ho0) hb); replace BK175 := ak (blk_below (bk BK175) hb); replace HB := ak (below_step (bl1 HB GE175) hb); (try clear hb); (try clear hb2); (try clear hk); (try clear hi); (try clear ho0); obtain ⟨Ao57, co57, eo57⟩ := Kd.R_slice HO207.out; subst eo57; have p208 : 0 ≤ (x11_2 : Int) := oT (by first | (with_reducible assumption) | assumption); have q208 : x11_2 < (t205.length : Int) := oT (by first | (with_reducible assumption) | assumption); obtain ⟨ad208, e208, hx208_0⟩ := Kd.at_int (Kd.R_reads' HO207.out).2.2 x11_2 p208 q208; cases e208; replace p208 := eq_true p208; replace q208 := eq_true q208))
    replace HO_6 := ak (Kd.N_drew HO_6.out)
    replace HO_7 := ak (Kd.N_drew HO_7.out)
    replace HO_9 := ak (Kd.R_drew HO_9.out)
    replace HO_10 := ak (Kd.R_drew HO_10.out)
    replace HO207 := ak (Kd.R_drew HO207.out)
    replace BK175 := ak (blk_drew BK175.out)
    replace HB := ak (below_drew1 HB.out)
    obtain ⟨Ao59, co59, eo59⟩ := Kd.N_slice HO_6.out
    (first | subst eo59 | (injection eo59 with f1_ f2_ f3_; have f4_ := f1_.symm; have f5_ := f3_.symm; clear f1_ f2_ f3_; subst f4_; subst f5_))
    have p209 : 0 ≤ ((ji41) : Int) := oT (by first | (with_reducible assumption) | assumption)
    have q209 : (ji41) < (x6_1.length : Int) := oT (by first | (with_reducible assumption) | assumption)
    obtain ⟨ad209, A209_0, c209_0, e209, hx209_0, hl209_0, hi209_0⟩ := at_L3 (Kd.N_reads' HO_6.out).2.2 (ji41) p209 q209
    cases e209
    obtain ⟨ce209, hce209, hMe209, hcc209⟩ := Kd.N_get HO_6.out [] (ji41) p209 (by first | exact q209 | exact oT (by first | (with_reducible assumption) | assumption) | (have e_ := (Kd.N_reads' HO_6.out).1; omega))
    obtain ⟨ua209_0, uc209_0, rfl, ul209_0, ge209_0⟩ := Kd.FK_slice_open hMe209
    have hv209_0 := hcc209 0 _ rfl
    rw [Nat.add_zero, show ((Kd.slice 3 (Kd.int .i64))).sz = 1 from rfl, Nat.mul_one] at hv209_0
    replace hv209_0 := Option.some.inj (hv209_0.symm.trans hx209_0)
    injection hv209_0 with hva_ hvn_ hvc_
    rw [hva_] at ge209_0
    rw [hvc_] at ul209_0
    have HL209_0 := ak (show Kd.V (Kd.int .i64) 3 _ w.heap.size _ _ (rd_L3 x6_1 (ji41)) from Kd.V_mk ul209_0 ge209_0)
    clear hva_ hvn_ hvc_ ge209_0 ul209_0
    clear hcc209 hce209
    have HR209_0 := ak hi209_0
    have HC209_0 := ak hl209_0
    clear hi209_0 hl209_0
    replace p209 := eq_true p209
    replace q209 := eq_true q209
    have p210 : 0 ≤ (x12_3 : Int) := oT (by first | (with_reducible assumption) | assumption)
    have q210 : x12_3 < ((rd_L3 x6_1 (ji41)).length : Int) := oT (by first | (with_reducible assumption) | assumption)
    obtain ⟨ad210, e210, hx210_0⟩ := Kd.at_int (by repeat (first | (with_reducible exact HR209_0.out) | (with_reducible refine Kd.C_alloc ?_ _) | (with_reducible refine Kd.C_drewN ?_ _) | (with_reducible refine Kd.C_drew ?_) | exact HR209_0.out)) x12_3 p210 q210
    cases e210
    replace p210 := eq_true p210
    replace q210 := eq_true q210
    have p211 : 0 ≤ ((ji41) : Int) := oT (by first | (with_reducible assumption) | assumption)
    have q211 : (ji41) < (x6_1.length : Int) := oT (by first | (with_reducible assumption) | assumption)
    obtain ⟨ad211, A211_0, c211_0, e211, hx211_0, hl211_0, hi211_0⟩ := at_L3 (Kd.N_reads' HO_6.out).2.2 (ji41) p211 q211
    obtain rfl : ad209 = ad211 := (by injection e211)
    obtain ⟨ce211, hce211, hMe211, hcc211⟩ := Kd.N_get HO_6.out [] (ji41) p211 (by first | exact q211 | exact oT (by first | (with_reducible assumption) | assumption) | (have e_ := (Kd.N_reads' HO_6.out).1; omega))
    obtain ⟨ua211_0, uc211_0, rfl, ul211_0, ge211_0⟩ := Kd.FK_slice_open hMe211
    have hv211_0 := hcc211 0 _ rfl
    rw [Nat.add_zero, show ((Kd.slice 3 (Kd.int .i64))).sz = 1 from rfl, Nat.mul_one] at hv211_0
    replace hv211_0 := Option.some.inj (hv211_0.symm.trans hx211_0)
    injection hv211_0 with hva_ hvn_ hvc_
    rw [hva_] at ge211_0
    rw [hvc_] at ul211_0
    have HL211_0 := ak (show Kd.V (Kd.int .i64) 3 _ w.heap.size _ _ (rd_L3 x6_1 (ji41)) from Kd.V_mk ul211_0 ge211_0)
    clear hva_ hvn_ hvc_ ge211_0 ul211_0
    clear hcc211 hce211
    have HR211_0 := ak hi211_0
    have HC211_0 := ak hl211_0
    clear hi211_0 hl211_0
    replace p211 := eq_true p211
    replace q211 := eq_true q211
    have ea_ := Option.some.inj (hx209_0.symm.trans hx211_0)
    injection ea_ with ea_ en_ ec_
    subst ea_
    subst ec_
    clear en_
    have p212 : 0 ≤ (x12_3 : Int) := oT (by first | (with_reducible assumption) | assumption)
    have q212 : x12_3 < ((rd_L3 x6_1 (ji41)).length : Int) := oT (by first | (with_reducible assumption) | assumption)
    obtain ⟨ad212, e212, hx212_0⟩ := Kd.at_int (by repeat (first | (with_reducible exact HR211_0.out) | (with_reducible refine Kd.C_alloc ?_ _) | (with_reducible refine Kd.C_drewN ?_ _) | (with_reducible refine Kd.C_drew ?_) | exact HR211_0.out)) x12_3 p212 q212
    cases e212
    replace p212 := eq_true p212
    replace q212 := eq_true q212
    have p213 : 0 ≤ (x8_1 : Int) := oT (by first | (with_reducible assumption) | assumption)
    have q213 : x8_1 < (l1.length : Int) := oT (by first | (with_reducible assumption) | assumption)
    obtain ⟨ad213, A213_0, c213_0, e213, hx213_0, hl213_0, hi213_0⟩ := at_L3 HR1.out x8_1 p213 q213
    have hw213_0 := hx213_0
    obtain rfl : ad179 = ad213 := (by injection e213)
    replace hx213_0 := hcb HB.out hx213_0
    have HR213_0 := ak hi213_0
    have HC213_0 := ak hl213_0
    clear hi213_0 hl213_0
    replace p213 := eq_true p213
    replace q213 := eq_true q213
    have p214 : 0 ≤ (x11_2 : Int) := oT (by first | (with_reducible assumption) | assumption)
    have q214 : x11_2 < ((rd_L3 l1 x8_1).length : Int) := oT (by first | (with_reducible assumption) | assumption)
    obtain ⟨ad214, e214, hx214_0⟩ := Kd.at_int HR213_0.out x11_2 p214 q214
    have hw214_0 := hx214_0
    cases e214
    replace hx214_0 := hcb HB.out hx214_0
    replace p214 := eq_true p214
    replace q214 := eq_true q214
    have p215 : 0 ≤ (x11_2 : Int) := oT (by first | (with_reducible assumption) | assumption)
    have q215 : x11_2 < (x9_3.length : Int) := oT (by first | (with_reducible assumption) | assumption)
    obtain ⟨ad215, e215, hx215_0⟩ := Kd.at_int (Kd.R_reads' HO_9.out).2.2 x11_2 p215 q215
    obtain rfl : (⟨go32, 0, none⟩ : Addr) = ad215 := (by injection e215)
    (first | simp only [add_plain] at hx215_0 | simp only [add_at] at hx215_0 | simp only [Addr.add, Nat.zero_add] at hx215_0 | skip)
    replace p215 := eq_true p215
    replace q215 := eq_true q215
    refine start_ (n := 38) (S := fun w' => w'.cell? (ad209.add ((ji41)).toNat) = some (.slice (some ad210) (rd_L3 x6_1 (ji41)).length c209_0) ∧ w'.cell? (ad210.add (x12_3).toNat) = some (.int .i64 (rd (rd_L3 x6_1 (ji41)) x12_3)) ∧ w'.cell? (ad209.add ((ji41)).toNat) = some (.slice (some ad210) (rd_L3 x6_1 (ji41)).length c209_0) ∧ w'.cell? (ad210.add (x12_3).toNat) = some (.int .i64 (rd (rd_L3 x6_1 (ji41)) x12_3)) ∧ w'.cell? (ad179.add (x8_1).toNat) = some (.slice (some ad214) (rd_L3 l1 x8_1).length c213_0) ∧ w'.cell? (ad214.add (x11_2).toNat) = some (.int .i64 (rd (rd_L3 l1 x8_1) x11_2)) ∧ w'.cell? ⟨go32, (x11_2).toNat, none⟩ = some (.int .i64 (rd x9_3 x11_2))) (ds := []) (ms 38 0) (by kernel_rfl) rfl (by kernel_rfl) ⟨hx209_0, hx210_0, hx211_0, hx212_0, ((HB.out.cell (World.block_lt_of_cell? w _ hw213_0)).trans hw213_0), ((HB.out.cell (World.block_lt_of_cell? w _ hw214_0)).trans hw214_0), hx215_0⟩ (fun hHeld => ?_); refine with_tabW spec_l15Rows.tab16 spec_l15Rows.bits16 (fun HT_ HW_ => ?_)
    generalize w56.drew = w58 at HO_6 HO_7 HO_9 HO_10 HO207 BK175 HB HL209_0 HL211_0 HR209_0 HR211_0 HR213_0 hx209_0 hx210_0 hx211_0 hx212_0 hx213_0 hx214_0 hx215_0 hHeld ⊢
    refine pu 0 57 ?_ (ms 38 1) rfl rfl HT_ (by kernel_rfl) (fun _ _ _ h => h) (by rfl) ?_ ?_ ?_ ?_
    rotate_left
    ·intro w'
     go_simp
     with_reducible rfl
    rotate_left
    ·simp only [SX]
     rfl
    refine pu 1 58 ?_ (ms 38 3) rfl rfl HT_ (by kernel_rfl) (fun _ _ _ h => h) (by rfl) ?_ ?_ ?_ ?_
    rotate_left
    ·intro w'
     go_simp
     with_reducible rfl
    rotate_left
    ·simp only [SX]
     rfl
    refine pu 2 59 ?_ (ms 38 7) rfl rfl HT_ (by kernel_rfl) (fun _ _ _ h => h) (by rfl) ?_ ?_ ?_ ?_
    rotate_left
    ·intro w'
     go_simp
     with_reducible rfl
    rotate_left
    ·simp only [SX]
     rfl
    refine pu 3 60 ?_ (ms 38 15) rfl rfl HT_ (by kernel_rfl) (fun _ _ _ h => h) (by rfl) ?_ ?_ ?_ ?_
    rotate_left
    ·intro w'
     go_simp
     with_reducible rfl
    rotate_left
    ·simp only [SX]
     rfl
    refine pu 4 61 ?_ (ms 38 31) rfl rfl HT_ (by kernel_rfl) (fun _ _ _ h => h) (by rfl) ?_ ?_ ?_ ?_
    rotate_left
    ·intro w'
     go_simp
     with_reducible rfl
    rotate_left
    ·simp only [SX]
     rfl
    refine pu 5 62 ?_ (ms 38 63) rfl rfl HT_ (by kernel_rfl) (fun _ _ _ h => h) (by rfl) ?_ ?_ ?_ ?_
    rotate_left
    ·intro w'
     go_simp
     with_reducible rfl
    rotate_left
    ·simp only [SX]
     rfl
    refine pu 6 63 ?_ (ms 38 127) rfl rfl HT_ (by kernel_rfl) (fun _ _ _ h => h) (by rfl) ?_ ?_ ?_ ?_
    rotate_left
    ·intro w'
     go_simp
     with_reducible rfl
    rotate_left
    ·simp only [SX]
     rfl
    refine pu 8 65 ?_ (ms 38 383) rfl rfl HT_ (by kernel_rfl) (fun _ _ _ h => h) (by rfl) ?_ ?_ ?_ ?_
    rotate_left
    ·intro w'
     go_simp
     with_reducible rfl
    rotate_left
    ·simp only [SX]
     rfl
    refine tk 7 64 ?_ (ms 38 511) rfl rfl HT_ HW_ (by kernel_rfl) (fun _ _ _ h => h) (by rfl) ?_ hHeld ?_ ?_ ?_
    rotate_left
    ·rintro w' ⟨s0, s1, s2, s3, s4, s5, s6⟩
     go_simp
     with_reducible rfl
    rotate_left
    ·simp only [SX]
     rfl
    refine pu 9 66 ?_ (ms 38 1023) rfl rfl HT_ (by kernel_rfl) (fun _ _ _ h => h) (by rfl) ?_ ?_ ?_ ?_
    rotate_left
    ·intro w'
     go_simp
     with_reducible rfl
    rotate_left
    ·simp only [SX]
     rfl
    refine tk 10 67 ?_ (ms 38 2047) rfl rfl HT_ HW_ (by kernel_rfl) (fun _ _ _ h => h) (by rfl) ?_ hHeld ?_ ?_ ?_
    rotate_left
    ·rintro w' ⟨s0, s1, s2, s3, s4, s5, s6⟩
     go_simp
     with_reducible rfl
    rotate_left
    ·simp only [SX]
     rfl
    refine pu 11 68 ?_ (ms 38 4095) rfl rfl HT_ (by kernel_rfl) (fun _ _ _ h => h) (by rfl) ?_ ?_ ?_ ?_
    rotate_left
    ·intro w'
     go_simp
     with_reducible rfl
    rotate_left
    ·simp only [SX]
     rfl
    refine pu 12 69 ?_ (ms 38 8191) rfl rfl HT_ (by kernel_rfl) (fun _ _ _ h => h) (by rfl) ?_ ?_ ?_ ?_
    rotate_left
    ·intro w'
     go_simp
     with_reducible rfl
    rotate_left
    ·simp only [SX]
     rfl
    refine pu 13 70 ?_ (ms 38 16383) rfl rfl HT_ (by kernel_rfl) (fun _ _ _ h => h) (by rfl) ?_ ?_ ?_ ?_
    rotate_left
    ·intro w'
     go_simp
     with_reducible rfl
    rotate_left
    ·simp only [SX]
     rfl
    refine pu 14 71 ?_ (ms 38 32767) rfl rfl HT_ (by kernel_rfl) (fun _ _ _ h => h) (by rfl) ?_ ?_ ?_ ?_
    rotate_left
    ·intro w'
     go_simp
     with_reducible rfl
    rotate_left
    ·simp only [SX]
     rfl
    refine pu 15 72 ?_ (ms 38 65535) rfl rfl HT_ (by kernel_rfl) (fun _ _ _ h => h) (by rfl) ?_ ?_ ?_ ?_
    rotate_left
    ·intro w'
     go_simp
     with_reducible rfl
    rotate_left
    ·simp only [SX]
     rfl
    refine pu 16 73 ?_ (ms 38 131071) rfl rfl HT_ (by kernel_rfl) (fun _ _ _ h => h) (by rfl) ?_ ?_ ?_ ?_
    rotate_left
    ·intro w'
     go_simp
     with_reducible rfl
    rotate_left
    ·simp only [SX]
     rfl
    refine pu 17 74 ?_ (ms 38 262143) rfl rfl HT_ (by kernel_rfl) (fun _ _ _ h => h) (by rfl) ?_ ?_ ?_ ?_
    rotate_left
    ·intro w'
     go_simp
     with_reducible rfl
    rotate_left
    ·simp only [SX]
     rfl
    refine pu 19 76 ?_ (ms 38 786431) rfl rfl HT_ (by kernel_rfl) (fun _ _ _ h => h) (by rfl) ?_ ?_ ?_ ?_
    rotate_left
    ·intro w'
     go_simp
     with_reducible rfl
    rotate_left
    ·simp only [SX]
     rfl
    refine pu 22 79 ?_ (ms 38 4980735) rfl rfl HT_ (by kernel_rfl) (fun _ _ _ h => h) (by rfl) ?_ ?_ ?_ ?_
    rotate_left
    ·intro w'
     go_simp
     with_reducible rfl
    rotate_left
    ·simp only [SX]
     rfl
    refine pu 24 81 ?_ (ms 38 21757951) rfl rfl HT_ (by kernel_rfl) (fun _ _ _ h => h) (by rfl) ?_ ?_ ?_ ?_
    rotate_left
    ·intro w'
     go_simp
     with_reducible rfl
    rotate_left
    ·simp only [SX]
     rfl
    refine pu 25 82 ?_ (ms 38 55312383) rfl rfl HT_ (by kernel_rfl) (fun _ _ _ h => h) (by rfl) ?_ ?_ ?_ ?_
    rotate_left
    ·intro w'
     go_simp
     with_reducible rfl
    rotate_left
    ·simp only [SX]
     rfl
    refine pu 26 83 ?_ (ms 38 122421247) rfl rfl HT_ (by kernel_rfl) (fun _ _ _ h => h) (by rfl) ?_ ?_ ?_ ?_
    rotate_left
    ·intro w'
     go_simp
     with_reducible rfl
    rotate_left
    ·simp only [SX]
     rfl
    refine pu 28 85 ?_ (ms 38 390856703) rfl rfl HT_ (by kernel_rfl) (fun _ _ _ h => h) (by rfl) ?_ ?_ ?_ ?_
    rotate_left
    ·intro w'
     go_simp
     with_reducible rfl
    rotate_left
    ·simp only [SX]
     rfl
    refine pu 32 89 ?_ (ms 38 4685823999) rfl rfl HT_ (by kernel_rfl) (fun _ _ _ h => h) (by rfl) ?_ ?_ ?_ ?_
    rotate_left
    ·intro w'
     go_simp
     with_reducible rfl
    rotate_left
    ·simp only [SX]
     rfl
    refine pu 33 90 ?_ (ms 38 13275758591) rfl rfl HT_ (by kernel_rfl) (fun _ _ _ h => h) (by rfl) ?_ ?_ ?_ ?_
    rotate_left
    ·intro w'
     go_simp
     with_reducible rfl
    rotate_left
    ·simp only [SX]
     rfl
    refine pu 34 91 ?_ (ms 38 30455627775) rfl rfl HT_ (by kernel_rfl) (fun _ _ _ h => h) (by rfl) ?_ ?_ ?_ ?_
    rotate_left
    ·intro w'
     go_simp
     with_reducible rfl
    rotate_left
    ·simp only [SX]
     rfl
    refine tk 18 75 ?_ (ms 38 30455889919) rfl rfl HT_ HW_ (by kernel_rfl) (fun _ _ _ h => h) (by rfl) ?_ hHeld ?_ ?_ ?_
    rotate_left
    ·rintro w' ⟨s0, s1, s2, s3, s4, s5, s6⟩
     go_simp
     with_reducible rfl
    rotate_left
    ·simp only [SX]
     rfl
    refine pu 20 77 ?_ (ms 38 30456938495) rfl rfl HT_ (by kernel_rfl) (fun _ _ _ h => h) (by rfl) ?_ ?_ ?_ ?_
    rotate_left
    ·intro w'
     go_simp
     with_reducible rfl
    rotate_left
    ·simp only [SX]
     rfl
    refine tk 21 78 ?_ (ms 38 30459035647) rfl rfl HT_ HW_ (by kernel_rfl) (fun _ _ _ h => h) (by rfl) ?_ hHeld ?_ ?_ ?_
    rotate_left
    ·rintro w' ⟨s0, s1, s2, s3, s4, s5, s6⟩
     go_simp
     with_reducible rfl
    rotate_left
    ·simp only [SX]
     rfl
    refine pu 23 80 ?_ (ms 38 30467424255) rfl rfl HT_ (by kernel_rfl) (fun _ _ _ h => h) (by rfl) ?_ ?_ ?_ ?_
    rotate_left
    ·intro w'
     go_simp
     with_reducible rfl
    rotate_left
    ·simp only [SX]
     rfl
    refine tk 27 84 ?_ (ms 38 30601641983) rfl rfl HT_ HW_ (by kernel_rfl) (fun _ _ _ h => h) (by rfl) ?_ hHeld ?_ ?_ ?_
    rotate_left
    ·rintro w' ⟨s0, s1, s2, s3, s4, s5, s6⟩
     go_simp
     with_reducible rfl
    rotate_left
    ·simp only [SX]
     rfl
    refine pu 29 86 ?_ (ms 38 31138512895) rfl rfl HT_ (by kernel_rfl) (fun _ _ _ h => h) (by rfl) ?_ ?_ ?_ ?_
    rotate_left
    ·intro w'
     go_simp
     with_reducible rfl
    rotate_left
    ·simp only [SX]
     rfl
    refine tk 30 87 ?_ (ms 38 32212254719) rfl rfl HT_ HW_ (by kernel_rfl) (fun _ _ _ h => h) (by rfl) ?_ hHeld ?_ ?_ ?_
    rotate_left
    ·rintro w' ⟨s0, s1, s2, s3, s4, s5, s6⟩
     go_simp
     with_reducible rfl
    rotate_left
    ·simp only [SX]
     rfl
    refine pu 31 88 ?_ (ms 38 34359738367) rfl rfl HT_ (by kernel_rfl) (fun _ _ _ h => h) (by rfl) ?_ ?_ ?_ ?_
    rotate_left
    ·intro w'
     go_simp
     with_reducible rfl
    rotate_left
    ·simp only [SX]
     rfl
    refine tk 35 92 ?_ (ms 38 68719476735) rfl rfl HT_ HW_ (by kernel_rfl) (fun _ _ _ h => h) (by rfl) ?_ hHeld ?_ ?_ ?_
    rotate_left
    ·rintro w' ⟨s0, s1, s2, s3, s4, s5, s6⟩
     go_simp
     with_reducible rfl
    rotate_left
    ·simp only [SX]
     rfl
    refine pu 36 93 ?_ (ms 38 137438953471) rfl rfl HT_ (by kernel_rfl) (fun _ _ _ h => h) (by rfl) ?_ ?_ ?_ ?_
    rotate_left
    ·intro w'
     go_simp
     with_reducible rfl
    rotate_left
    ·simp only [SX]
     rfl
    refine pu 37 94 ?_ (ms 38 274877906943) rfl rfl HT_ (by kernel_rfl) (fun _ _ _ h => h) (by rfl) ?_ ?_ ?_ ?_
    rotate_left
    ·intro w'
     go_simp
     with_reducible rfl
    rotate_left
    ·simp only [SX]
     rfl
    refine done_ (done_of HT_.out (by kernel_rfl)) ?_
    try go_wp2
    replace HO_6 := ak (Kd.N_drew HO_6.out)
    replace HO_7 := ak (Kd.N_drew HO_7.out)
    replace HO_9 := ak (Kd.R_drew HO_9.out)
    replace HO_10 := ak (Kd.R_drew HO_10.out)
    replace HO207 := ak (Kd.R_drew HO207.out)
    replace HL209_0 := ak (Kd.V_drew HL209_0.out)
    replace HL211_0 := ak (Kd.V_drew HL211_0.out)
    replace BK175 := ak (blk_drew BK175.out)
    replace HR209_0 := ak (Kd.C_drew HR209_0.out)
    replace HR211_0 := ak (Kd.C_drew HR211_0.out)
    replace HB := ak (below_drew1 HB.out)
    have p216 : 0 ≤ ((ji41) : Int) := oT (by first | (with_reducible assumption) | assumption)
    have q216 : (ji41) < (x6_1.length : Int) := oT (by first | (with_reducible assumption) | assumption)
    obtain ⟨ad216, A216_0, c216_0, e216, hx216_0, hl216_0, hi216_0⟩ := at_L3 (Kd.N_reads' HO_6.out).2.2 (ji41) p216 q216
    obtain rfl : ad209 = ad216 := (by injection e216)
    obtain ⟨ce216, hce216, hMe216, hcc216⟩ := Kd.N_get HO_6.out [] (ji41) p216 (by first | exact q216 | exact oT (by first | (with_reducible assumption) | assumption) | (have e_ := (Kd.N_reads' HO_6.out).1; omega))
    obtain ⟨ua216_0, uc216_0, rfl, ul216_0, ge216_0⟩ := Kd.FK_slice_open hMe216
    have hv216_0 := hcc216 0 _ rfl
    rw [Nat.add_zero, show ((Kd.slice 3 (Kd.int .i64))).sz = 1 from rfl, Nat.mul_one] at hv216_0
    replace hv216_0 := Option.some.inj (hv216_0.symm.trans hx216_0)
    injection hv216_0 with hva_ hvn_ hvc_
    rw [hva_] at ge216_0
    rw [hvc_] at ul216_0
    have HL216_0 := ak (show Kd.V (Kd.int .i64) 3 _ w.heap.size _ _ (rd_L3 x6_1 (ji41)) from Kd.V_mk ul216_0 ge216_0)
    clear hva_ hvn_ hvc_ ge216_0 ul216_0
    clear hcc216 hce216
    have HR216_0 := ak hi216_0
    have HC216_0 := ak hl216_0
    clear hi216_0 hl216_0
    replace p216 := eq_true p216
    replace q216 := eq_true q216
    have p217 : 0 ≤ (x12_3 : Int) := oT (by first | (with_reducible assumption) | assumption)
    have q217 : x12_3 < ((rd_L3 x6_1 (ji41)).length : Int) := oT (by first | (with_reducible assumption) | assumption)
    obtain ⟨ad217, e217, hx217_0⟩ := Kd.at_int (by repeat (first | (with_reducible exact HR216_0.out) | (with_reducible refine Kd.C_alloc ?_ _) | (with_reducible refine Kd.C_drewN ?_ _) | (with_reducible refine Kd.C_drew ?_) | exact HR216_0.out)) x12_3 p217 q217
    cases e217
    replace p217 := eq_true p217
    replace q217 := eq_true q217
    have p218 : 0 ≤ (x8_1 : Int) := oT (by first | (with_reducible assumption) | assumption)
    have q218 : x8_1 < (l1.length : Int) := oT (by first | (with_reducible assumption) | assumption)
    obtain ⟨ad218, A218_0, c218_0, e218, hx218_0, hl218_0, hi218_0⟩ := at_L3 HR1.out x8_1 p218 q218
    have hw218_0 := hx218_0
    obtain rfl : ad179 = ad218 := (by injection e218)
    replace hx218_0 := hcb HB.out hx218_0
    have HR218_0 := ak hi218_0
    have HC218_0 := ak hl218_0
    clear hi218_0 hl218_0
    replace p218 := eq_true p218
    replace q218 := eq_true q218
    have p219 : 0 ≤ (x11_2 : Int) := oT (by first | (with_reducible assumption) | assumption)
    have q219 : x11_2 < ((rd_L3 l1 x8_1).length : Int) := oT (by first | (with_reducible assumption) | assumption)
    obtain ⟨ad219, e219, hx219_0⟩ := Kd.at_int HR218_0.out x11_2 p219 q219
    have hw219_0 := hx219_0
    cases e219
    replace hx219_0 := hcb HB.out hx219_0
    replace p219 := eq_true p219
    replace q219 := eq_true q219
    have p52 : 0 ≤ (x11_2 : Int) := oT (by first | (with_reducible assumption) | assumption)
    have q52 : (x11_2 : Int) < ((x9_3.length : Int) : Int) := oT (by first | (with_reducible assumption) | assumption)
    obtain ⟨hx52_0, hf52_0⟩ := Kd.R_celln 0 HO_9.out (x11_2 : Int) p52 q52
    replace p52 := eq_true p52
    replace q52 := eq_true q52
    have HP61 := Kd.R_putn HO_9.out (x11_2 : Int) (wrap64 ((wrap64 ((rd (rd_L3 x6_1 (ji41)) x12_3) + (rd t205 x11_2))) + (rd (rd_L3 l1 x8_1) x11_2)))
    rw [← Ny220.out] at HP61
    have HQ61 := ak HP61
    clear HP61
    refine start_ (n := 22) (S := fun w' => w'.cell? (ad209.add ((ji41)).toNat) = some (.slice (some ad217) (rd_L3 x6_1 (ji41)).length c216_0) ∧ w'.cell? (ad217.add (x12_3).toNat) = some (.int .i64 (rd (rd_L3 x6_1 (ji41)) x12_3)) ∧ w'.cell? (ad179.add (x8_1).toNat) = some (.slice (some ad219) (rd_L3 l1 x8_1).length c218_0) ∧ w'.cell? (ad219.add (x11_2).toNat) = some (.int .i64 (rd (rd_L3 l1 x8_1) x11_2))) (ds := [21]) (ms 22 0) (by kernel_rfl) rfl (by kernel_rfl) ⟨hx216_0, hx217_0, ((HB.out.cell (World.block_lt_of_cell? w _ hw218_0)).trans hw218_0), ((HB.out.cell (World.block_lt_of_cell? w _ hw219_0)).trans hw219_0)⟩ (fun hHeld => ?_); refine with_tabW spec_l15Rows.tab17 spec_l15Rows.bits17 (fun HT_ HW_ => ?_)
    generalize w58.drew = w60 at HO_6 HO_7 HO_9 HO_10 HO207 HL209_0 HL211_0 BK175 HR209_0 HR211_0 HB HL216_0 HQ61 HR216_0 HR218_0 hf52_0 hx216_0 hx217_0 hx218_0 hx219_0 hx52_0 hHeld ⊢
    refine pu 0 95 ?_ (ms 22 1) rfl rfl HT_ (by kernel_rfl) (fun _ _ _ h => h) (by rfl) ?_ ?_ ?_ ?_
    rotate_left
    ·intro w'
     go_simp
     with_reducible rfl
    rotate_left
    ·simp only [SX]
     rfl
    refine pu 1 96 ?_ (ms 22 3) rfl rfl HT_ (by kernel_rfl) (fun _ _ _ h => h) (by rfl) ?_ ?_ ?_ ?_
    rotate_left
    ·intro w'
     go_simp
     with_reducible rfl
    rotate_left
    ·simp only [SX]
     rfl
    refine pu 2 97 ?_ (ms 22 7) rfl rfl HT_ (by kernel_rfl) (fun _ _ _ h => h) (by rfl) ?_ ?_ ?_ ?_
    rotate_left
    ·intro w'
     go_simp
     with_reducible rfl
    rotate_left
    ·simp only [SX]
     rfl
    refine pu 3 98 ?_ (ms 22 15) rfl rfl HT_ (by kernel_rfl) (fun _ _ _ h => h) (by rfl) ?_ ?_ ?_ ?_
    rotate_left
    ·intro w'
     go_simp
     with_reducible rfl
    rotate_left
    ·simp only [SX]
     rfl
    refine pu 4 99 ?_ (ms 22 31) rfl rfl HT_ (by kernel_rfl) (fun _ _ _ h => h) (by rfl) ?_ ?_ ?_ ?_
    rotate_left
    ·intro w'
     go_simp
     with_reducible rfl
    rotate_left
    ·simp only [SX]
     rfl
    refine pu 5 100 ?_ (ms 22 63) rfl rfl HT_ (by kernel_rfl) (fun _ _ _ h => h) (by rfl) ?_ ?_ ?_ ?_
    rotate_left
    ·intro w'
     go_simp
     with_reducible rfl
    rotate_left
    ·simp only [SX]
     rfl
    refine pu 7 102 ?_ (ms 22 191) rfl rfl HT_ (by kernel_rfl) (fun _ _ _ h => h) (by rfl) ?_ ?_ ?_ ?_
    rotate_left
    ·intro w'
     go_simp
     with_reducible rfl
    rotate_left
    ·simp only [SX]
     rfl
    refine pu 10 105 ?_ (ms 22 1215) rfl rfl HT_ (by kernel_rfl) (fun _ _ _ h => h) (by rfl) ?_ ?_ ?_ ?_
    rotate_left
    ·intro w'
     go_simp
     with_reducible rfl
    rotate_left
    ·simp only [SX]
     rfl
    refine pu 12 107 ?_ (ms 22 5311) rfl rfl HT_ (by kernel_rfl) (fun _ _ _ h => h) (by rfl) ?_ ?_ ?_ ?_
    rotate_left
    ·intro w'
     go_simp
     with_reducible rfl
    rotate_left
    ·simp only [SX]
     rfl
    refine pu 13 108 ?_ (ms 22 13503) rfl rfl HT_ (by kernel_rfl) (fun _ _ _ h => h) (by rfl) ?_ ?_ ?_ ?_
    rotate_left
    ·intro w'
     go_simp
     with_reducible rfl
    rotate_left
    ·simp only [SX]
     rfl
    refine pu 14 109 ?_ (ms 22 29887) rfl rfl HT_ (by kernel_rfl) (fun _ _ _ h => h) (by rfl) ?_ ?_ ?_ ?_
    rotate_left
    ·intro w'
     go_simp
     with_reducible rfl
    rotate_left
    ·simp only [SX]
     rfl
    refine pu 16 111 ?_ (ms 22 95423) rfl rfl HT_ (by kernel_rfl) (fun _ _ _ h => h) (by rfl) ?_ ?_ ?_ ?_
    rotate_left
    ·intro w'
     go_simp
     with_reducible rfl
    rotate_left
    ·simp only [SX]
     rfl
    refine tk 6 101 ?_ (ms 22 95487) rfl rfl HT_ HW_ (by kernel_rfl) (fun _ _ _ h => h) (by rfl) ?_ hHeld ?_ ?_ ?_
    rotate_left
    ·rintro w' ⟨s0, s1, s2, s3⟩
     go_simp
     with_reducible rfl
    rotate_left
    ·simp only [SX]
     rfl
    refine pu 8 103 ?_ (ms 22 95743) rfl rfl HT_ (by kernel_rfl) (fun _ _ _ h => h) (by rfl) ?_ ?_ ?_ ?_
    rotate_left
    ·intro w'
     go_simp
     with_reducible rfl
    rotate_left
    ·simp only [SX]
     rfl
    refine tk 9 104 ?_ (ms 22 96255) rfl rfl HT_ HW_ (by kernel_rfl) (fun _ _ _ h => h) (by rfl) ?_ hHeld ?_ ?_ ?_
    rotate_left
    ·rintro w' ⟨s0, s1, s2, s3⟩
     go_simp
     with_reducible rfl
    rotate_left
    ·simp only [SX]
     rfl
    refine pu 11 106 ?_ (ms 22 98303) rfl rfl HT_ (by kernel_rfl) (fun _ _ _ h => h) (by rfl) ?_ ?_ ?_ ?_
    rotate_left
    ·intro w'
     go_simp
     with_reducible rfl
    rotate_left
    ·simp only [SX]
     rfl
    refine tk 15 110 ?_ (ms 22 131071) rfl rfl HT_ HW_ (by kernel_rfl) (fun _ _ _ h => h) (by rfl) ?_ hHeld ?_ ?_ ?_
    rotate_left
    ·rintro w' ⟨s0, s1, s2, s3⟩
     go_simp
     with_reducible rfl
    rotate_left
    ·simp only [SX]
     rfl
    refine pu 17 112 ?_ (ms 22 262143) rfl rfl HT_ (by kernel_rfl) (fun _ _ _ h => h) (by rfl) ?_ ?_ ?_ ?_
    rotate_left
    ·intro w'
     go_simp
     with_reducible rfl
    rotate_left
    ·simp only [SX]
     rfl
    refine tk 18 113 ?_ (ms 22 524287) rfl rfl HT_ HW_ (by kernel_rfl) (fun _ _ _ h => h) (by rfl) ?_ hHeld ?_ ?_ ?_
    rotate_left
    ·rintro w' ⟨s0, s1, s2, s3⟩
     go_simp
     with_reducible rfl
    rotate_left
    ·simp only [SX]
     rfl
    refine pu 19 114 ?_ (ms 22 1048575) rfl rfl HT_ (by kernel_rfl) (fun _ _ _ h => h) (by rfl) ?_ ?_ ?_ ?_
    rotate_left
    ·intro w'
     go_simp
     with_reducible rfl
    rotate_left
    ·simp only [SX]
     rfl
    refine pu 20 115 ?_ (ms 22 2097151) rfl rfl HT_ (by kernel_rfl) (fun _ _ _ h => h) (by rfl) ?_ ?_ ?_ ?_
    rotate_left
    ·intro w'
     go_simp
     with_reducible rfl
    rotate_left
    ·simp only [SX]
     rfl
    refine last_ (i := 21) (N := none) (ms 22 4194303) rfl rfl (one_of HT_.out (by kernel_rfl)) (by decide) (fun K hK => ?_)
    refine skip_ (w1 := ?_) (by rfl) rfl ?_ ?_
    rotate_left
    ·go_simp
     rfl
    refine hK.out _ _ ?_
    clear hK K
    refine done_ (done_of HT_.out (by kernel_rfl)) ?_
    have n0_ : Aside0 (Kd.N (Kd.slice 3 (Kd.int .i64)) 33 (w60.setCell ⟨go32, (x11_2 : Int).toNat, none⟩ (.int .i64 (wrap64 ((wrap64 ((rd (rd_L3 x6_1 (ji41)) x12_3) + (rd t205 x11_2))) + (rd (rd_L3 l1 x8_1) x11_2))))) w.heap.size (fun k_ => (w.heap.size ≤ k_) ∧ some k_ ≠ (u7 : Value).ownBlock ∧ some k_ ≠ (.slice (some ⟨go32, 0, none⟩) x9_3.length co32 : Value).ownBlock ∧ some k_ ≠ (v196 : Value).ownBlock ∧ some k_ ≠ (.slice (some ad208) t205.length co57 : Value).ownBlock ∧ k_ ≠ gb175) (.slice (some ad209) x6_1.length co59) x6_1) := ⟨by (with_reducible repeat (first | apply Kd.N_alloc | apply Kd.N_drewN | apply Kd.N_drew)); exact Kd.N_mono (Kd.N_far (p := ⟨go32, (x11_2 : Int).toNat, none⟩) (Kd.N_mono HO_6.out (fun k_ hk => (⟨hk, fun e_ => hk.1.2.2.1 (by rw [e_]; rfl)⟩ : _ ∧ k_ ≠ go32))) (fun _ hk => hk.2) (.int .i64 (wrap64 ((wrap64 ((rd (rd_L3 x6_1 (ji41)) x12_3) + (rd t205 x11_2))) + (rd (rd_L3 l1 x8_1) x11_2))))) (fun _ hk => ⟨hk.1.1.1, ⟨hk.1.1.2.1, ⟨hk.1.1.2.2.1, ⟨hk.1.1.2.2.2.1, ⟨hk.1.2, hk.1.1.2.2.2.2⟩⟩⟩⟩⟩)⟩
    have n1_ : Aside0 (Kd.N (Kd.slice 3 (Kd.int .i64)) 33 (w60.setCell ⟨go32, (x11_2 : Int).toNat, none⟩ (.int .i64 (wrap64 ((wrap64 ((rd (rd_L3 x6_1 (ji41)) x12_3) + (rd t205 x11_2))) + (rd (rd_L3 l1 x8_1) x11_2))))) w.heap.size (fun k_ => (w.heap.size ≤ k_) ∧ some k_ ≠ (.slice (some ad209) x6_1.length co59 : Value).ownBlock ∧ some k_ ≠ (.slice (some ⟨go32, 0, none⟩) x9_3.length co32 : Value).ownBlock ∧ some k_ ≠ (v196 : Value).ownBlock ∧ some k_ ≠ (.slice (some ad208) t205.length co57 : Value).ownBlock ∧ k_ ≠ gb175) u7 x7_1) := ⟨by (with_reducible repeat (first | apply Kd.N_alloc | apply Kd.N_drewN | apply Kd.N_drew)); exact Kd.N_mono (Kd.N_far (p := ⟨go32, (x11_2 : Int).toNat, none⟩) (Kd.N_mono HO_7.out (fun k_ hk => (⟨hk, fun e_ => hk.1.2.2.1 (by rw [e_]; rfl)⟩ : _ ∧ k_ ≠ go32))) (fun _ hk => hk.2) (.int .i64 (wrap64 ((wrap64 ((rd (rd_L3 x6_1 (ji41)) x12_3) + (rd t205 x11_2))) + (rd (rd_L3 l1 x8_1) x11_2))))) (fun _ hk => ⟨hk.1.1.1, ⟨hk.1.1.2.1, ⟨hk.1.1.2.2.1, ⟨hk.1.1.2.2.2.1, ⟨hk.1.2, hk.1.1.2.2.2.2⟩⟩⟩⟩⟩)⟩
    have n2_ : Aside0 (Kd.R (Kd.int .i64) 3 (w60.setCell ⟨go32, (x11_2 : Int).toNat, none⟩ (.int .i64 (wrap64 ((wrap64 ((rd (rd_L3 x6_1 (ji41)) x12_3) + (rd t205 x11_2))) + (rd (rd_L3 l1 x8_1) x11_2))))) w.heap.size (fun k_ => (w.heap.size ≤ k_) ∧ some k_ ≠ (v196 : Value).ownBlock ∧ some k_ ≠ (.slice (some ad208) t205.length co57 : Value).ownBlock) (.slice (some ⟨go32, 0, none⟩) x9_3.length co32) y220) := ⟨by (with_reducible repeat (first | apply Kd.R_alloc | apply Kd.R_drewN | apply Kd.R_drew)); exact Kd.R_mono HQ61.out (fun _ hk => ⟨hk.1.1, ⟨hk.1.2, hk.2⟩⟩)⟩
    have n3_ : Aside0 (Kd.R (Kd.int .i64) 3 (w60.setCell ⟨go32, (x11_2 : Int).toNat, none⟩ (.int .i64 (wrap64 ((wrap64 ((rd (rd_L3 x6_1 (ji41)) x12_3) + (rd t205 x11_2))) + (rd (rd_L3 l1 x8_1) x11_2))))) w.heap.size (fun k_ => (w.heap.size ≤ k_) ∧ some k_ ≠ (.slice (some ⟨go32, 0, none⟩) x9_3.length co32 : Value).ownBlock ∧ some k_ ≠ (.slice (some ad208) t205.length co57 : Value).ownBlock) v196 x10_3) := ⟨by (with_reducible repeat (first | apply Kd.R_alloc | apply Kd.R_drewN | apply Kd.R_drew)); exact Kd.R_mono (Kd.R_far (p := ⟨go32, (x11_2 : Int).toNat, none⟩) (Kd.R_mono HO_10.out (fun k_ hk => (⟨hk, fun e_ => hk.1.2 (by rw [e_]; rfl)⟩ : _ ∧ k_ ≠ go32))) (fun _ hk => hk.2) (.int .i64 (wrap64 ((wrap64 ((rd (rd_L3 x6_1 (ji41)) x12_3) + (rd t205 x11_2))) + (rd (rd_L3 l1 x8_1) x11_2))))) (fun _ hk => ⟨hk.1.1.1, ⟨hk.1.1.2, hk.1.2⟩⟩)⟩
    have n4_ : Aside0 (Kd.R (Kd.int .i64) 3 (w60.setCell ⟨go32, (x11_2 : Int).toNat, none⟩ (.int .i64 (wrap64 ((wrap64 ((rd (rd_L3 x6_1 (ji41)) x12_3) + (rd t205 x11_2))) + (rd (rd_L3 l1 x8_1) x11_2))))) w.heap.size (fun k_ => (w.heap.size ≤ k_) ∧ some k_ ≠ (.slice (some ⟨go32, 0, none⟩) x9_3.length co32 : Value).ownBlock ∧ some k_ ≠ (v196 : Value).ownBlock) (.slice (some ad208) t205.length co57) t205) := ⟨by (with_reducible repeat (first | apply Kd.R_alloc | apply Kd.R_drewN | apply Kd.R_drew)); exact Kd.R_mono (Kd.R_far (p := ⟨go32, (x11_2 : Int).toNat, none⟩) (Kd.R_mono HO207.out (fun k_ hk => (⟨hk, fun e_ => hk.1.2 (by rw [e_]; rfl)⟩ : _ ∧ k_ ≠ go32))) (fun _ hk => hk.2) (.int .i64 (wrap64 ((wrap64 ((rd (rd_L3 x6_1 (ji41)) x12_3) + (rd t205 x11_2))) + (rd (rd_L3 l1 x8_1) x11_2))))) (fun _ hk => ⟨hk.1.1.1.1, ⟨hk.1.1.2, hk.1.2⟩⟩)⟩
    have n5_ : Aside0 (Kd.V (Kd.int .i64) 3 (w60.setCell ⟨go32, (x11_2 : Int).toNat, none⟩ (.int .i64 (wrap64 ((wrap64 ((rd (rd_L3 x6_1 (ji41)) x12_3) + (rd t205 x11_2))) + (rd (rd_L3 l1 x8_1) x11_2))))) w.heap.size (fun k_ => (w.heap.size ≤ k_) ∧ some k_ ≠ (.slice (some ad209) x6_1.length co59 : Value).ownBlock ∧ some k_ ≠ (u7 : Value).ownBlock ∧ some k_ ≠ (.slice (some ⟨go32, 0, none⟩) x9_3.length co32 : Value).ownBlock ∧ some k_ ≠ (v196 : Value).ownBlock ∧ some k_ ≠ (.slice (some ad208) t205.length co57 : Value).ownBlock ∧ k_ ≠ gb175) (.slice (some ad210) (rd_L3 x6_1 (ji41)).length c209_0) (rd_L3 x6_1 (ji41))) := ⟨by (with_reducible repeat (first | apply Kd.V_alloc | apply Kd.V_drewN | apply Kd.V_drew)); exact Kd.V_mono (Kd.V_far (p := ⟨go32, (x11_2 : Int).toNat, none⟩) (Kd.V_mono HL209_0.out (fun k_ hk => (⟨hk, fun e_ => hk.1.1.2.2.1 (by rw [e_]; rfl)⟩ : _ ∧ k_ ≠ go32))) (fun _ hk => hk.2) (.int .i64 (wrap64 ((wrap64 ((rd (rd_L3 x6_1 (ji41)) x12_3) + (rd t205 x11_2))) + (rd (rd_L3 l1 x8_1) x11_2))))) (fun _ hk => ⟨hk.1.1.1.1, ⟨hk.1.2, ⟨hk.1.1.1.2.1, ⟨hk.1.1.1.2.2.1, ⟨hk.1.1.1.2.2.2.1, ⟨hk.1.1.2, hk.1.1.1.2.2.2.2⟩⟩⟩⟩⟩⟩)⟩
    have n6_ : Aside0 (Kd.V (Kd.int .i64) 3 (w60.setCell ⟨go32, (x11_2 : Int).toNat, none⟩ (.int .i64 (wrap64 ((wrap64 ((rd (rd_L3 x6_1 (ji41)) x12_3) + (rd t205 x11_2))) + (rd (rd_L3 l1 x8_1) x11_2))))) w.heap.size (fun k_ => (w.heap.size ≤ k_) ∧ some k_ ≠ (.slice (some ad209) x6_1.length co59 : Value).ownBlock ∧ some k_ ≠ (u7 : Value).ownBlock ∧ some k_ ≠ (.slice (some ⟨go32, 0, none⟩) x9_3.length co32 : Value).ownBlock ∧ some k_ ≠ (v196 : Value).ownBlock ∧ some k_ ≠ (.slice (some ad208) t205.length co57 : Value).ownBlock ∧ k_ ≠ gb175) (.slice (some ad210) (rd_L3 x6_1 (ji41)).length c209_0) (rd_L3 x6_1 (ji41))) := ⟨by (with_reducible repeat (first | apply Kd.V_alloc | apply Kd.V_drewN | apply Kd.V_drew)); exact Kd.V_mono (Kd.V_far (p := ⟨go32, (x11_2 : Int).toNat, none⟩) (Kd.V_mono HL211_0.out (fun k_ hk => (⟨hk, fun e_ => hk.1.1.2.2.1 (by rw [e_]; rfl)⟩ : _ ∧ k_ ≠ go32))) (fun _ hk => hk.2) (.int .i64 (wrap64 ((wrap64 ((rd (rd_L3 x6_1 (ji41)) x12_3) + (rd t205 x11_2))) + (rd (rd_L3 l1 x8_1) x11_2))))) (fun _ hk => ⟨hk.1.1.1.1, ⟨hk.1.2, ⟨hk.1.1.1.2.1, ⟨hk.1.1.1.2.2.1, ⟨hk.1.1.1.2.2.2.1, ⟨hk.1.1.2, hk.1.1.1.2.2.2.2⟩⟩⟩⟩⟩⟩)⟩
    have n7_ : Aside0 (Kd.V (Kd.int .i64) 3 (w60.setCell ⟨go32, (x11_2 : Int).toNat, none⟩ (.int .i64 (wrap64 ((wrap64 ((rd (rd_L3 x6_1 (ji41)) x12_3) + (rd t205 x11_2))) + (rd (rd_L3 l1 x8_1) x11_2))))) w.heap.size (fun k_ => (w.heap.size ≤ k_) ∧ some k_ ≠ (.slice (some ad209) x6_1.length co59 : Value).ownBlock ∧ some k_ ≠ (u7 : Value).ownBlock ∧ some k_ ≠ (.slice (some ⟨go32, 0, none⟩) x9_3.length co32 : Value).ownBlock ∧ some k_ ≠ (v196 : Value).ownBlock ∧ some k_ ≠ (.slice (some ad208) t205.length co57 : Value).ownBlock ∧ k_ ≠ gb175) (.slice (some ad217) (rd_L3 x6_1 (ji41)).length c216_0) (rd_L3 x6_1 (ji41))) := ⟨by (with_reducible repeat (first | apply Kd.V_alloc | apply Kd.V_drewN | apply Kd.V_drew)); exact Kd.V_mono (Kd.V_far (p := ⟨go32, (x11_2 : Int).toNat, none⟩) (Kd.V_mono HL216_0.out (fun k_ hk => (⟨hk, fun e_ => hk.1.1.2.2.1 (by rw [e_]; rfl)⟩ : _ ∧ k_ ≠ go32))) (fun _ hk => hk.2) (.int .i64 (wrap64 ((wrap64 ((rd (rd_L3 x6_1 (ji41)) x12_3) + (rd t205 x11_2))) + (rd (rd_L3 l1 x8_1) x11_2))))) (fun _ hk => ⟨hk.1.1.1.1, ⟨hk.1.2, ⟨hk.1.1.1.2.1, ⟨hk.1.1.1.2.2.1, ⟨hk.1.1.1.2.2.2.1, ⟨hk.1.1.2, hk.1.1.1.2.2.2.2⟩⟩⟩⟩⟩⟩)⟩
    have n8_ : Aside0 ((w60.setCell ⟨go32, (x11_2 : Int).toNat, none⟩ (.int .i64 (wrap64 ((wrap64 ((rd (rd_L3 x6_1 (ji41)) x12_3) + (rd t205 x11_2))) + (rd (rd_L3 l1 x8_1) x11_2))))).heap[gb175]? = some (.cells #[.int .i64 a0_0, .slice A0_1 l0_1.length c0_1] 25 (0, 0))) := ⟨by (with_reducible repeat (first | refine blk_drewN ?_ _ | refine blk_drew ?_ | refine blk_alloc ?_ _)); refine blk_far ?_ (by have h_ := Kd.R_ne HO_9.out BK175.out (by decide); intro e_; exact h_ (by rw [e_]; rfl)) _; (with_reducible repeat (first | refine blk_drewN ?_ _ | refine blk_drew ?_ | refine blk_alloc ?_ _)); exact BK175.out⟩
    have n9_ : Aside0 (Below w.heap.size w (w60.setCell ⟨go32, (x11_2 : Int).toNat, none⟩ (.int .i64 (wrap64 ((wrap64 ((rd (rd_L3 x6_1 (ji41)) x12_3) + (rd t205 x11_2))) + (rd (rd_L3 l1 x8_1) x11_2)))))) := ⟨by repeat (first | (with_reducible first | exact HB.out | apply below_alloc | apply pw_below_drewN | apply below_drew1 | refine below_set ?_ GB32.out | refine below_set ?_ GE175.out) | exact HB.out)⟩
    (try clear HO_6)
    (try clear HO_7)
    (try clear HO_9)
    (try clear HO_10)
    (try clear HO207)
    (try clear HL209_0)
    (try clear HL211_0)
    (try clear HL216_0)
    (try clear BK175)
    (try clear HB)
    generalize (w60.setCell ⟨go32, (x11_2 : Int).toNat, none⟩ (.int .i64 (wrap64 ((wrap64 ((rd (rd_L3 x6_1 (ji41)) x12_3) + (rd t205 x11_2))) + (rd (rd_L3 l1 x8_1) x11_2))))) = w62 at n0_ n1_ n2_ n3_ n4_ n5_ n6_ n7_ n8_ n9_ ⊢
    have HO_6 := n0_
    have HO_7 := n1_
    have HO_9 := n2_
    have HO_10 := n3_
    have HO207 := n4_
    have HL209_0 := n5_
    have HL211_0 := n6_
    have HL216_0 := n7_
    have BK175 := n8_
    have HB := n9_
    clear n0_ n1_ n2_ n3_ n4_ n5_ n6_ n7_ n8_ n9_
    have p54 : 0 ≤ (x11_2 : Int) := oT (by first | (with_reducible assumption) | assumption)
    have q54 : (x11_2 : Int) < ((x10_3.length : Int) : Int) := oT (by first | (with_reducible assumption) | assumption)
    obtain ⟨go54, co54, eo54, gb54, gl54, cl54, HG54⟩ := Kd.R_form HO_10.out (by omega)
    (first | cases eo54 | (injection eo54 with ea_ en_ ec_; (first | subst ea_ | (injection ea_ with ea_; subst ea_)); subst ec_; clear en_))
    have GB54 := ak gb54
    have GG54 := ak HG54
    clear gb54 gl54 HG54
    obtain ⟨hx54_0, hf54_0⟩ := Kd.R_celln 0 HO_10.out (x11_2 : Int) p54 q54
    replace p54 := eq_true p54
    replace q54 := eq_true q54
    obtain ⟨hy63_, hz63_⟩ := Kd.R_celln 0 HO_10.out (x11_2 : Int) (oT (by first | (with_reducible assumption) | assumption)) (oT (by first | (with_reducible assumption) | assumption))
    have HP63 := Kd.R_putg HO_10.out (x11_2 : Int) x12_3
    try go_wp2_with (first | ((with_reducible refine gate_store (t := 3) (p := 119) rfl ?_); refine store_event (t := 3) (p := 119) (v := ?vo_w64) (w1 := (w62.setCell ⟨go54, (x11_2 : Int).toNat, none⟩ (.int .i64 x12_3))) ?hg ?ho ?hn ?hr ?_; (case ho => rfl); (case hg => rfl); (case hn => rfl); (case hr => first | (go_simp; done) | (go_simp; rfl)); intro w64 hw; have hg : w62.grownBy w64 (some go54) := (by rw [hw]; exact HP63.2); have hp_ : Kd.R (Kd.int .i64) 3 w64 w.heap.size (fun k_ => (w.heap.size ≤ k_) ∧ some k_ ≠ (.slice (some ⟨go32, 0, none⟩) x9_3.length co32 : Value).ownBlock ∧ some k_ ≠ (.slice (some ad208) t205.length co57 : Value).ownBlock) (.slice (some ⟨go54, 0, none⟩) x10_3.length co54) y221 := (by rw [hw, Ny221.out]; exact HP63.1); clear HP63; replace HO_6 := ak (Kd.N_afterv (v := (.slice (some ⟨go54, 0, none⟩) x10_3.length co54)) (v1 := (.slice (some ⟨go54, 0, none⟩) x10_3.length co54)) (ok := (fun k_ => (w.heap.size ≤ k_) ∧ some k_ ≠ (u7 : Value).ownBlock ∧ some k_ ≠ (.slice (some ⟨go32, 0, none⟩) x9_3.length co32 : Value).ownBlock ∧ some k_ ≠ (.slice (some ad208) t205.length co57 : Value).ownBlock ∧ k_ ≠ gb175)) (by (with_reducible repeat (first | apply Kd.N_alloc | apply Kd.N_drewN | apply Kd.N_drew)); exact Kd.N_mono HO_6.out (fun _ hk => ⟨⟨hk.1, ⟨hk.2.1, ⟨hk.2.2.1, ⟨hk.2.2.2.2.1, hk.2.2.2.2.2⟩⟩⟩⟩, hk.2.2.2.1⟩)) hg (.inl rfl)); replace HO_7 := ak (Kd.N_afterv (v := (.slice (some ⟨go54, 0, none⟩) x10_3.length co54)) (v1 := (.slice (some ⟨go54, 0, none⟩) x10_3.length co54)) (ok := (fun k_ => (w.heap.size ≤ k_) ∧ some k_ ≠ (.slice (some ad209) x6_1.length co59 : Value).ownBlock ∧ some k_ ≠ (.slice (some ⟨go32, 0, none⟩) x9_3.length co32 : Value).ownBlock ∧ some k_ ≠ (.slice (some ad208) t205.length co57 : Value).ownBlock ∧ k_ ≠ gb175)) (by (with_reducible repeat (first | apply Kd.N_alloc | apply Kd.N_drewN | apply Kd.N_drew)); exact Kd.N_mono HO_7.out (fun _ hk => ⟨⟨hk.1, ⟨hk.2.1, ⟨hk.2.2.1, ⟨hk.2.2.2.2.1, hk.2.2.2.2.2⟩⟩⟩⟩, hk.2.2.2.1⟩)) hg (.inl rfl)); replace HO_9 := ak (Kd.R_after (v := (.slice (some ⟨go54, 0, none⟩) x10_3.length co54)) (v1 := (.slice (some ⟨go54, 0, none⟩) x10_3.length co54)) (ok := (fun k_ => (w.heap.size ≤ k_) ∧ some k_ ≠ (.slice (some ad208) t205.length co57 : Value).ownBlock)) (by (with_reducible repeat (first | apply Kd.R_alloc | apply Kd.R_drewN | apply Kd.R_drew)); exact Kd.R_mono HO_9.out (fun _ hk => ⟨⟨hk.1, hk.2.2⟩, hk.2.1⟩)) hg (.inl rfl)); replace BK175 := ak (blk_grown (bk BK175) hg (Kd.R_ne HO_10.out BK175.out (by decide))); replace HO_10 := ak (hp_); replace HO207 := ak (Kd.R_after (v := (.slice (some ⟨go54, 0, none⟩) x10_3.length co54)) (v1 := (.slice (some ⟨go54, 0, none⟩) x10_3.length co54)) (ok := (fun k_ => (w.heap.size ≤ k_) ∧ some k_ ≠ (.slice (some ⟨go32, 0, none⟩) x9_3.length co32 : Value).ownBlock)) (by (with_reducible repeat (first | apply Kd.R_alloc | apply Kd.R_drewN | apply Kd.R_drew)); exact Kd.R_mono HO207.out (fun _ hk => ⟨⟨hk.1, hk.2.1⟩, hk.2.2⟩)) hg (.inl rfl)); replace HL209_0 := ak (Kd.V_afterv (v := (.slice (some ⟨go54, 0, none⟩) x10_3.length co54)) (v1 := (.slice (some ⟨go54, 0, none⟩) x10_3.length co54)) (ok := (fun k_ => (w.heap.size ≤ k_) ∧ some k_ ≠ (.slice (some ad209) x6_1.length co59 : Value).ownBlock ∧ some k_ ≠ (u7 : Value).ownBlock ∧ some k_ ≠ (.slice (some ⟨go32, 0, none⟩) x9_3.length co32 : Value).ownBlock ∧ some k_ ≠ (.slice (some ad208) t205.length co57 : Value).ownBlock ∧ k_ ≠ gb175)) (by (with_reducible repeat (first | apply Kd.V_alloc | apply Kd.V_drewN | apply Kd.V_drew)); exact Kd.V_mono HL209_0.out (fun _ hk => ⟨⟨hk.1, ⟨hk.2.1, ⟨hk.2.2.1, ⟨hk.2.2.2.1, ⟨hk.2.2.2.2.2.1, hk.2.2.2.2.2.2⟩⟩⟩⟩⟩, hk.2.2.2.2.1⟩)) hg (.inl rfl)); replace HL211_0 := ak (Kd.V_afterv (v := (.slice (some ⟨go54, 0, none⟩) x10_3.length co54)) (v1 := (.slice (some ⟨go54, 0, none⟩) x10_3.length co54)) (ok := (fun k_ => (w.heap.size ≤ k_) ∧ some k_ ≠ (.slice (some ad209) x6_1.length co59 : Value).ownBlock ∧ some k_ ≠ (u7 : Value).ownBlock ∧ some k_ ≠ (.slice (some ⟨go32, 0, none⟩) x9_3.length co32 : Value).ownBlock ∧ some k_ ≠ (.slice (some ad208) t205.length co57 : Value).ownBlock ∧ k_ ≠ gb175)) (by (with_reducible repeat (first | apply Kd.V_alloc | apply Kd.V_drewN | apply Kd.V_drew)); exact Kd.V_mono HL211_0.out (fun _ hk => ⟨⟨hk.1, ⟨hk.2.1, ⟨hk.2.2.1, ⟨hk.2.2.2.1, ⟨hk.2.2.2.2.2.1, hk.2.2.2.2.2.2⟩⟩⟩⟩⟩, hk.2.2.2.2.1⟩)) hg (.inl rfl)); replace HL216_0 := ak (Kd.V_afterv (v := (.slice (some ⟨go54, 0, none⟩) x10_3.length co54)) (v1 := (.slice (some ⟨go54, 0, none⟩) x10_3.length co54)) (ok := (fun k_ => (w.heap.size ≤ k_) ∧ some k_ ≠ (.slice (some ad209) x6_1.length co59 : Value).ownBlock ∧ some k_ ≠ (u7 : Value).ownBlock ∧ some k_ ≠ (.slice (some ⟨go32, 0, none⟩) x9_3.length co32 : Value).ownBlock ∧ some k_ ≠ (.slice (some ad208) t205.length co57 : Value).ownBlock ∧ k_ ≠ gb175)) (by (with_reducible repeat (first | apply Kd.V_alloc | apply Kd.V_drewN | apply Kd.V_drew)); exact Kd.V_mono HL216_0.out (fun _ hk => ⟨⟨hk.1, ⟨hk.2.1, ⟨hk.2.2.1, ⟨hk.2.2.2.1, ⟨hk.2.2.2.2.2.1, hk.2.2.2.2.2.2⟩⟩⟩⟩⟩, hk.2.2.2.2.1⟩)) hg (.inl rfl)); replace HB := ak ((by rw [hw]; exact below_set (HB.out) GB54.out : Below w.heap.size w w64)); clear hg hw hp_))
    (try simp only [← hl9_3])
    go_roundg k3
    case measure => have := HK1.out; have := HK2.out; have := HK3.out; omega
    case rel => exact ⟨(y220), (y221), (wrap64 (x12_3 + 1)), (by first | rfl | (simp; done) | (simp [*]; done)), H', ⟨by have := HK1.out; have := HK2.out; have := HK3.out; omega⟩, ⟨by (try simp only [hl9_3]); (with_reducible repeat (first | apply Kd.N_alloc | apply Kd.N_drewN | apply Kd.N_drew)); exact Kd.N_mono HO_6.out (fun _ hk => ⟨hk.1.1, ⟨hk.1.2.1, ⟨hk.1.2.2.1, ⟨hk.2, hk.1.2.2.2.2⟩⟩⟩⟩)⟩, ⟨by (try simp only [hl9_3]); (with_reducible repeat (first | apply Kd.N_alloc | apply Kd.N_drewN | apply Kd.N_drew)); exact Kd.N_mono HO_7.out (fun _ hk => ⟨hk.1.1, ⟨hk.1.2.1, ⟨hk.1.2.2.1, ⟨hk.2, hk.1.2.2.2.2⟩⟩⟩⟩)⟩, ⟨by (try simp only [hl9_3]); (with_reducible repeat (first | apply Kd.R_alloc | apply Kd.R_drewN | apply Kd.R_drew)); exact Kd.R_mono HO_9.out (fun _ hk => ⟨hk.1.1, hk.2⟩)⟩, ⟨by (try simp only [hl9_3]); (with_reducible repeat (first | apply Kd.R_alloc | apply Kd.R_drewN | apply Kd.R_drew)); exact Kd.R_mono HO_10.out (fun _ hk => ⟨hk.1, hk.2.1⟩)⟩, ⟨by (try simp only [hl9_3]); (with_reducible repeat (first | refine blk_drewN ?_ _ | refine blk_drew ?_ | refine blk_alloc ?_ _)); exact BK175.out⟩, ⟨bl1 HB GE175⟩⟩

end Go.Proofs.Ytlgolgfcolnddaa.F
