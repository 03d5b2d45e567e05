-- Printed by wip/px/px.py of this claim's repository (the kit's printer, extended there). Lean checks it.
import Derived.Test.YtgickejeakmenaaFKinds
import Derived.Test.YtgickejeakmenaaFspecl3All
namespace Go.Proofs.Ytgickejeakmenaa.F
open Go.RowKit Go.Proofs.YtgickejeakmenaaW.PrintWords Go.Proofs.YtgickejeakmenaaW.PrintLast Go.Proofs.YtgickejeakmenaaW.PrintMore
attribute [local go_sem] max2_int min2_int max_two min_two max_three min_three max_four min_four   -- for this text's walks alone
set_option linter.unusedVariables false
set_option linter.unusedSimpArgs false

/-! ### spec_l15Rows: function 92 -/
mutual
def spec_l15Rows.l0 : Nat → List (List Int) → List (List Int) → List (List Int) → Int → Int → List (S41) → Option ((List (List Int)) × (List (List Int)))
 | 0, _, _, _, _, _, _ => none
 | k + 1, x1, x6, x7, x8, x304000, x304001 => if x8 < (x1.length : Int) then (if 0 ≤ x304000 then (if (x304000 : Int).toNat ≤ 35184372088832 then (spec_l15Rows.l1 k x1 x6 x7 x8 (List.replicate (x304000 : Int).toNat 0) (List.replicate (x304000 : Int).toNat 0) 0 x304000 x304001) else (none)) else (none)) else (some (x6, x7))
def spec_l15Rows.l1 : Nat → List (List Int) → List (List Int) → List (List Int) → Int → List Int → List Int → Int → Int → List (S41) → Option ((List (List Int)) × (List (List Int)))
 | 0, _, _, _, _, _, _, _, _, _ => none
 | k + 1, x1, x6, x7, x8, x9, x10, x11, x304000, x304001 => if x11 < x304000 then (if 0 ≤ x11 then (if x11 < (x9.length : Int) then (spec_l15Rows.l2 k x1 x6 x7 x8 (x9.set (x11 : Int).toNat 99999) x10 x11 0 x304000 x304001) else (none)) else (none)) else (if x6.length < 5864062014805 then (if x7.length < 5864062014805 then (spec_l15Rows.l0 k x1 (x6 ++ [x9]) (x7 ++ [x10]) (wrap64 (x8 + 1)) x304000 x304001) else (none)) else (none))
def spec_l15Rows.l2 : Nat → List (List Int) → List (List Int) → List (List Int) → Int → List Int → List Int → Int → Int → Int → List (S41) → Option ((List (List Int)) × (List (List Int)))
 | 0, _, _, _, _, _, _, _, _, _, _ => none
 | k + 1, x1, x6, x7, x8, x9, x10, x11, x12, x304000, x304001 => if x12 < x304000 then ((spec_l3All.f k x304000 x304001 x12).bind fun t333 => (if 0 ≤ x11 then (if x11 < (t333.length : Int) then (if (rd t333 x11) < 99999 then (if 0 ≤ (wrap64 (x8 - 1)) then (if (wrap64 (x8 - 1)) < (x6.length : Int) then (if 0 ≤ x12 then (if x12 < ((rd_L3 x6 (wrap64 (x8 - 1))).length : Int) then (if (rd (rd_L3 x6 (wrap64 (x8 - 1))) x12) < 99999 then (if 0 ≤ x8 then (if x8 < (x1.length : Int) then (if x11 < ((rd_L3 x1 x8).length : Int) then (if x11 < (x9.length : Int) then (if (wrap64 ((wrap64 ((rd (rd_L3 x6 (wrap64 (x8 - 1))) x12) + (rd t333 x11))) + (rd (rd_L3 x1 x8) x11))) < (rd x9 x11) then (if x11 < (x10.length : Int) then (spec_l15Rows.l2 k x1 x6 x7 x8 (x9.set (x11 : Int).toNat (wrap64 ((wrap64 ((rd (rd_L3 x6 (wrap64 (x8 - 1))) x12) + (rd t333 x11))) + (rd (rd_L3 x1 x8) x11)))) (x10.set (x11 : Int).toNat x12) x11 (wrap64 (x12 + 1)) x304000 x304001) else (none)) else (spec_l15Rows.l2 k x1 x6 x7 x8 x9 x10 x11 (wrap64 (x12 + 1)) x304000 x304001)) else (none)) else (none)) else (none)) else (none)) else (spec_l15Rows.l2 k x1 x6 x7 x8 x9 x10 x11 (wrap64 (x12 + 1)) x304000 x304001)) else (none)) else (none)) else (none)) else (none)) else (spec_l15Rows.l2 k x1 x6 x7 x8 x9 x10 x11 (wrap64 (x12 + 1)) x304000 x304001)) else (none)) else (none))) else (spec_l15Rows.l1 k x1 x6 x7 x8 x9 x10 (wrap64 (x11 + 1)) x304000 x304001)
end
def spec_l15Rows.f (k : Nat) (a0_0 : Int) (l0_1 : List (S41)) (l1 : List (List Int)) : Option ((List (List Int)) × (List (List Int))) := (some (([] : List Int) : List Int)).bind fun y304 => (if 0 < (l1.length : Int) then (if y304.length + (rd_L3 l1 0).length < 17592186044416 then (if 0 ≤ a0_0 then (if (a0_0 : Int).toNat ≤ 35184372088832 then (spec_l15Rows.l0 k l1 (([(y304 ++ (rd_L3 l1 0))] : List (List Int))) (([(List.replicate (a0_0 : Int).toNat 0)] : List (List Int))) 1 a0_0 l0_1) else (none)) else (none)) else (none)) else (none))
theorem spec_l15Rows.mono_l : ∀ k, (∀ y0 y1 y2 y3 y4 y5, LeO (spec_l15Rows.l0 k y0 y1 y2 y3 y4 y5) (spec_l15Rows.l0 (k + 1) y0 y1 y2 y3 y4 y5)) ∧ (∀ y0 y1 y2 y3 y4 y5 y6 y7 y8, LeO (spec_l15Rows.l1 k y0 y1 y2 y3 y4 y5 y6 y7 y8) (spec_l15Rows.l1 (k + 1) y0 y1 y2 y3 y4 y5 y6 y7 y8)) ∧ (∀ y0 y1 y2 y3 y4 y5 y6 y7 y8 y9, LeO (spec_l15Rows.l2 k y0 y1 y2 y3 y4 y5 y6 y7 y8 y9) (spec_l15Rows.l2 (k + 1) y0 y1 y2 y3 y4 y5 y6 y7 y8 y9))
 | 0 => ⟨fun _ _ _ _ _ _ r h => by simp [spec_l15Rows.l0] at h, fun _ _ _ _ _ _ _ _ _ r h => by simp [spec_l15Rows.l1] at h, fun _ _ _ _ _ _ _ _ _ _ r h => by simp [spec_l15Rows.l2] at h⟩
 | k + 1 => by
  obtain ⟨ih0, ih1, ih2⟩ := spec_l15Rows.mono_l k
  refine ⟨?_, ?_, ?_⟩
  ·intro y0 y1 y2 y3 y4 y5
   unfold spec_l15Rows.l0
   repeat' first | (with_reducible exact ih1 _ _ _ _ _ _ _ _ _) | (with_reducible exact LeO.refl _) | (with_reducible refine LeO.ite ?_ ?_)
  ·intro y0 y1 y2 y3 y4 y5 y6 y7 y8
   unfold spec_l15Rows.l1
   repeat' first | (with_reducible exact ih0 _ _ _ _ _ _) | (with_reducible exact ih2 _ _ _ _ _ _ _ _ _ _) | (with_reducible exact LeO.refl _) | (with_reducible refine LeO.ite ?_ ?_)
  ·intro y0 y1 y2 y3 y4 y5 y6 y7 y8 y9
   unfold spec_l15Rows.l2
   repeat' first | (with_reducible exact ih1 _ _ _ _ _ _ _ _ _) | (with_reducible exact ih2 _ _ _ _ _ _ _ _ _ _) | (with_reducible exact spec_l3All.mono _ _ _ _) | (with_reducible exact LeO.refl _) | (with_reducible refine LeO.ite ?_ ?_) | (with_reducible refine LeO.bind ?_ (fun _ => ?_))
theorem spec_l15Rows.mono : ∀ a0 a1 a2 k, LeO (spec_l15Rows.f k a0 a1 a2) (spec_l15Rows.f (k + 1) a0 a1 a2) := by
 intro a0 a1 a2 k
 obtain ⟨ih0, ih1, ih2⟩ := spec_l15Rows.mono_l k
 unfold spec_l15Rows.f
 repeat' first | (with_reducible exact ih0 _ _ _ _ _ _) | (with_reducible exact LeO.refl _) | (with_reducible refine LeO.ite ?_ ?_) | (with_reducible refine LeO.bind ?_ (fun _ => ?_))
def spec_l15Rows.T16 : Bool × List (List Nat × List Nat) := (true, [([], []), ([0], [0]), ([1], [1]), ([2], [2]), ([2], [2]), ([4, 2], [2, 4]), ([3, 5, 2], [2, 3, 5]), ([6, 2], [2, 6]), ([2], [2]), ([7, 8, 2], [2, 7, 8]), ([9, 2], [2, 9]), ([10, 2], [2, 10]), ([2, 11], [2, 11]), ([12, 2], [12]), ([13], [13]), ([13], [13]), ([15, 13], [13, 15]), ([14, 16, 13], [13, 14, 16]), ([17, 13], [13, 17]), ([13], [13]), ([18, 19, 13], [13, 18, 19]), ([20, 13], [13, 20]), ([13], [13]), ([21, 22, 13], [13, 21, 22]), ([13], [13]), ([13], [13]), ([24, 25, 13], [13, 24, 25]), ([26, 13], [13, 26]), ([13], [13]), ([27, 28, 13], [13, 27, 28]), ([29, 13], [13, 29]), ([23, 30, 13], [13, 23, 30]), ([13], [13]), ([13], [13]), ([32, 33, 13], [13, 32, 33]), ([34, 13], [13, 34]), ([31, 35, 13], [13, 31, 35]), ([13, 36], [13, 36])])
def spec_l15Rows.B16 : List Nat := [0, 1, 3, 7, 7, 23, 63, 127, 7, 511, 1023, 2047, 4095, 8191, 16383, 16383, 49151, 131071, 262143, 16383, 1048575, 2097151, 16383, 8388607, 16383, 16383, 50348031, 117456895, 16383, 520110079, 1056980991, 2147483647, 16383, 16383, 12884918271, 30064787455, 68719476735, 137438953471]
theorem spec_l15Rows.tab16 : rtab .any (opsOf Try.f92 16) = spec_l15Rows.T16 := by kernel_rfl
theorem spec_l15Rows.bits16 : waitsOk spec_l15Rows.T16.2 spec_l15Rows.B16 = true := by kernel_rfl
def spec_l15Rows.T17 : Bool × List (List Nat × List Nat) := (true, [([], []), ([], []), ([], []), ([], []), ([3], [3]), ([2, 4], [2, 4]), ([5], [5]), ([], []), ([6, 7], [6, 7]), ([8], [8]), ([], []), ([9, 10], [9, 10]), ([], []), ([], []), ([12, 13], [12, 13]), ([14], [14]), ([], []), ([15, 16], [15, 16]), ([17], [17]), ([11, 18], [11, 18]), ([0, 1, 0, 1, 2, 3, 4, 5, 6, 7, 8, 9, 10, 11, 12, 13, 14, 15, 16, 17, 18, 19], [0, 1]), ([20, 19, 0, 1, 2, 3, 4, 5, 6, 7, 8, 9, 10, 11, 12, 13, 14, 15, 16, 17, 18, 19], [19, 20])])
def spec_l15Rows.B17 : List Nat := [0, 0, 0, 0, 8, 28, 60, 0, 252, 508, 0, 2044, 0, 0, 12288, 28672, 0, 126976, 258048, 524284, 1048575, 2097151]
theorem spec_l15Rows.tab17 : rtab .any (opsOf Try.f92 17) = spec_l15Rows.T17 := by kernel_rfl
theorem spec_l15Rows.bits17 : waitsOk spec_l15Rows.T17.2 spec_l15Rows.B17 = true := by kernel_rfl
set_option maxHeartbeats 8000000 in
set_option maxRecDepth 100000 in
theorem spec_l15Rows.calls (k : Nat) (a0_0 : Int) (A0_1 : Option Addr) (c0_1 : Nat) (l0_1 : List (S41)) (A1 : Option Addr) (c1 : Nat) (l1 : List (List Int)) (r1 : List (List Int)) (r2 : List (List Int)) (w : World) (hr0_1 : Kd.C k41 w A0_1 l0_1.length l0_1) (hc0_1 : l0_1.length ≤ c0_1) (hr1 : Kd.C (Kd.slice 3 (Kd.int .i64)) w A1 l1.length l1) (hc1 : l1.length ≤ c1) (h : spec_l15Rows.f k a0_0 l0_1 l1 = some (r1, r2)) :
  Calls Try.prog 92 #[.agg #[.int .i64 a0_0, .slice A0_1 l0_1.length c0_1], .slice A1 l1.length c1] w fun e w' => ∃ v0_ v1_ : Value, e = .returned (.tuple #[v0_, v1_]) ∧ Kd.N (Kd.slice 3 (Kd.int .i64)) 26 w' w.heap.size (fun k_ => (w.heap.size ≤ k_) ∧ some k_ ≠ (v1_ : Value).ownBlock) v0_ r1 ∧ Kd.N (Kd.slice 3 (Kd.int .i64)) 26 w' w.heap.size (fun k_ => (w.heap.size ≤ k_) ∧ some k_ ≠ (v0_ : Value).ownBlock) v1_ r2 ∧ Below w.heap.size w w' := by
 have hu25 := Try.underlying25
 have HR0_1 := ak hr0_1
 have HC0_1 := ak hc0_1
 clear hr0_1 hc0_1
 have HR1 := ak hr1
 have HC1 := ak hc1
 clear hr1 hc1
 have HB := ak (Below.refl w.heap.size w)
 have H : ((some (([] : List Int) : List Int)).bind fun y304 => (if 0 < (l1.length : Int) then (if y304.length + (rd_L3 l1 0).length < 17592186044416 then (if 0 ≤ a0_0 then (if (a0_0 : Int).toNat ≤ 35184372088832 then (spec_l15Rows.l0 k l1 (([(y304 ++ (rd_L3 l1 0))] : List (List Int))) (([(List.replicate (a0_0 : Int).toNat 0)] : List (List Int))) 1 a0_0 l0_1) else (none)) else (none)) else (none)) else (none))) = some (r1, r2) := h
 clear h
 obtain ⟨y304, hy304⟩ : ∃ y_ : List Int, y_ = (([] : List Int)) := ⟨_, rfl⟩
 replace H : (if 0 < (l1.length : Int) then (if y304.length + (rd_L3 l1 0).length < 17592186044416 then (if 0 ≤ a0_0 then (if (a0_0 : Int).toNat ≤ 35184372088832 then (spec_l15Rows.l0 k l1 (([(y304 ++ (rd_L3 l1 0))] : List (List Int))) (([(List.replicate (a0_0 : Int).toNat 0)] : List (List Int))) 1 a0_0 l0_1) else (none)) else (none)) else (none)) else (none)) = some (r1, r2) := by (have H2_ := (Option.bind_some _ _).symm.trans H; rw [hy304]; with_reducible exact H2_)
 have Ny304 := ak hy304
 clear hy304
 by_cases c3 : 0 < (l1.length : Int)
 rotate_left
 ·rw [if_neg c3] at H
  exact absurd H (by simp)
 rw [if_pos c3] at H
 have c3b0 : decide (0 < (l1.length : Int)) = true := decide_eq_true c3
 have c3b1 : decide (0 < l1.length) = true := decide_eq_true (by omega)
 clear c3
 by_cases c4 : y304.length + (rd_L3 l1 0).length < 17592186044416
 rotate_left
 ·rw [if_neg c4] at H
  exact absurd H (by simp)
 rw [if_pos c4] at H
 have LMc4 := ak c4
 clear c4
 obtain ⟨y308, hy308⟩ : ∃ y_ : List Int, y_ = (y304 ++ (rd_L3 l1 0)) := ⟨_, rfl⟩
 replace H : (if 0 ≤ a0_0 then (if (a0_0 : Int).toNat ≤ 35184372088832 then (spec_l15Rows.l0 k l1 (([y308] : List (List Int))) (([(List.replicate (a0_0 : Int).toNat 0)] : List (List Int))) 1 a0_0 l0_1) else (none)) else (none)) = some (r1, r2) := by (rw [hy308]; with_reducible exact H)
 have Ny308 := ak hy308
 clear hy308
 obtain ⟨y311, hy311⟩ : ∃ y_ : List (List Int), y_ = (([y308] : List (List Int))) := ⟨_, rfl⟩
 replace H : (if 0 ≤ a0_0 then (if (a0_0 : Int).toNat ≤ 35184372088832 then (spec_l15Rows.l0 k l1 y311 (([(List.replicate (a0_0 : Int).toNat 0)] : List (List Int))) 1 a0_0 l0_1) else (none)) else (none)) = some (r1, r2) := by (rw [hy311]; with_reducible exact H)
 have Ny311 := ak hy311
 clear hy311
 by_cases c5 : 0 ≤ a0_0
 rotate_left
 ·rw [if_neg c5] at H
  exact absurd H (by simp)
 rw [if_pos c5] at H
 have c5b0 := eq_true c5
 have c5b1 : decide (0 ≤ a0_0) = true := decide_eq_true c5
 clear c5
 by_cases c6 : (a0_0 : Int).toNat ≤ 35184372088832
 rotate_left
 ·rw [if_neg c6] at H
  exact absurd H (by simp)
 rw [if_pos c6] at H
 have c6b0 := eq_true c6
 have c6b1 : decide ((a0_0 : Int).toNat ≤ 35184372088832) = true := decide_eq_true c6
 clear c6
 obtain ⟨y314, hy314⟩ : ∃ y_ : List Int, y_ = (List.replicate (a0_0 : Int).toNat 0) := ⟨_, rfl⟩
 replace H : (spec_l15Rows.l0 k l1 y311 (([y314] : List (List Int))) 1 a0_0 l0_1) = some (r1, r2) := by (rw [hy314]; with_reducible exact H)
 have Ny314 := ak hy314
 clear hy314
 obtain ⟨y317, hy317⟩ : ∃ y_ : List (List Int), y_ = (([y314] : List (List Int))) := ⟨_, rfl⟩
 replace H : (spec_l15Rows.l0 k l1 y311 y317 1 a0_0 l0_1) = some (r1, r2) := by (rw [hy317]; with_reducible exact H)
 have Ny317 := ak hy317
 clear hy317
 have H' := ak H
 clear H
 go_enter Try.func92, Try.ntmps92
 go_wp2_with (first | ((with_reducible refine gate_dst (N := 2) rfl ?_); refine box_event ?hg (N := 2) ?hd (cs := #[.int .i64 a0_0, .slice A0_1 l0_1.length c0_1]) (t := 25) ?hr ?_; (case hd => rfl); (case hg => rfl); (case hr => (go_simp; done)); intro gb303 hg w7 hbox hb; have BK303 := ak (hbox); have GW303 := ak ((by rw [hg]; exact (below_size (bl HB)) : w.heap.size ≤ gb303)); have GE303 := ak ((by rw [hg]; exact (below_size (bl HB)) : w.heap.size ≤ gb303)); replace HB := ak (below_step (bl HB) hb); clear hb hbox hg) | ((with_reducible refine gate_dst (N := 14) rfl ?_); refine Kd.R_lit (Kd.int .i64) _ 3 ?hg (N := 14) ?hd (xs := ([] : List Int)) (inner := []) (ok := fun _ => True) (okp := fun _ => True) ?hr ?hp (fun _ hk => hk) trivial (Below.refl _ _) (Nat.le_refl _) (by simp) ?_; (case hd => rfl); (case hg => rfl); (case hr => (go_simp; done)); (case hp => exact (Reps.none _ _)); intro v305 w8 ho9 hb hg_ hnew_; clear hg_ hnew_; (rw [← Ny304.out] at ho9); have HO306 := ak (Kd.R_lower (Kd.R_newM (M := fun k_ => (w.heap.size ≤ k_)) ho9 (below_size (bl1 HB GE303)) (fun k_ h_ => h_)) (below_size (bl1 HB GE303))); replace BK303 := ak (blk_below (bk BK303) hb); replace HB := ak (below_step (bl1 HB GE303) hb); clear hb ho9; have p307 : 0 ≤ (0 : Int) := (by omega); have q307 : 0 < (l1.length : Int) := oT (by (with_reducible assumption)); obtain ⟨ad307, A307_0, c307_0, e307, hx307_0, hl307_0, hi307_0⟩ := at_L3 HR1.out 0 p307 q307; cases e307; have qi307 : (0 < l1.length) = True := eq_true (by omega); (try rw [show ((0 : Int)).toNat = 0 from rfl] at hx307_0); (try rw [Addr.add_zero'] at hx307_0); replace hx307_0 := hcb HB.out hx307_0; have HR307_0 := ak hi307_0; have HC307_0 := ak hl307_0; clear hi307_0 hl307_0; replace p307 := eq_true p307; replace q307 := eq_true q307) | ((with_reducible refine gate_builtin (b := .append) (xs := #[.tmp 14, .tmp 17]) rfl ?_); at_builtin; refine Kd.R_append_rows (Kd.int .i64) (w0 := w) w.heap.size rfl (.tmp 14) (.tmp 17) 26 3 (.int .i64 0) 8 rfl Try.underlying26 info3 rfl (by decide) (by omega) v305 y304 (rd_L3 l1 0) _ _ _ (fun k_ => (w.heap.size ≤ k_)) (fun _ => False) rfl rfl ?aO ?aR (fun _ _ h => h) (fun _ h => h.elim) ?aF ?aB ?aS ?aL ?_; (case aR => repeat (exact (Kd.C_below HR307_0.out HB.out))); (case aB => exact (bl1 HB GE303)); (case aF => exact (fun k_ hk => (Nat.le_trans (below_size (bl1 HB GE303)) hk))); (case aO => exact (by exact Kd.R_mono HO306.out (fun _ hk => hk.1))); (case aS => exact (below_size (bl1 HB GE303))); (case aL => have := LMc4.out; omega); intro v309 w10 ho hb hg hat; rw [← Ny308.out] at ho; have n0_ := ak (blk_grown (bk BK303) hg (Kd.R_ne HO306.out BK303.out (by decide))); have n1_ := ak (hb); have n2_ := ak (ho); clear BK303; clear HB; clear HO306; have BK303 := n0_; have HB := n1_; have HO310 := n2_; clear n0_ n1_ n2_; clear ho hb hg hat; obtain ⟨Ao11, co11, eo11⟩ := Kd.R_slice HO310.out; subst eo11) | ((with_reducible refine gate_dst (N := 19) rfl ?_); refine Kd.N_lit (Kd.slice 3 (Kd.int .i64)) _ 26 ?hg (N' := 19) ?hd (xs := ([y308] : List (List Int))) (inner := [.slice Ao11 y308.length co11]) (ok := (fun k_ => (w.heap.size ≤ k_) ∧ k_ ≠ gb303)) (okp := (fun k_ => (w.heap.size ≤ k_) ∧ k_ ≠ gb303)) ?hr ?hp (fun _ hk => hk) ((show ∀ k_, w10.heap.size ≤ k_ → (fun k_ => (w.heap.size ≤ k_) ∧ k_ ≠ gb303) k_ from fun k_ hk => ⟨(Nat.le_trans (below_size (bl1 HB GE303)) hk), Kd.freshB (bk BK303) k_ hk⟩) _ (Nat.le_refl _)) (Below.refl _ _) (Nat.le_refl _) (by simp) ?_; (case hd => rfl); (case hg => rfl); (case hr => (go_simp; done)); (case hp => exact (Reps.one (show Kd.FK (Kd.slice 3 (Kd.int .i64)) _ _ y308 [.slice Ao11 y308.length co11] from (Kd.FK_slice_mk (Kd.R_reads' (Kd.R_mono (ok' := (fun k_ => (w.heap.size ≤ k_) ∧ k_ ≠ gb303)) (Kd.R_types (HO310.out) BK303.out (by decide)) (fun k_ hk => ⟨hk.1, hk.2⟩))).2.1 (Kd.R_F (Kd.R_mono (ok' := (fun k_ => (w.heap.size ≤ k_) ∧ k_ ≠ gb303)) (Kd.R_types (HO310.out) BK303.out (by decide)) (fun k_ hk => ⟨hk.1, hk.2⟩))))) (Reps.none _ _))); intro v312 w12 ho13 hb hg_ hnew_; clear hg_ hnew_; (rw [← Ny311.out] at ho13); have n0_ := ak (Kd.N_lower ho13 (below_size (bl1 HB GE303))); have n1_ := ak (blk_below (bk BK303) hb); have n2_ := ak (below_step (bl1 HB GE303) hb); clear BK303; clear HB; clear HO310; have HO313 := n0_; have BK303 := n1_; have HB := n2_; clear n0_ n1_ n2_; clear hb ho13; have hcz14_0 := bc w12 BK303 0 (.int .i64 a0_0) rfl; have hcz14_1 := bc w12 BK303 1 (.slice A0_1 l0_1.length c0_1) rfl; have hfz14_0 := fz BK303 0; have hfz14_1 := fz BK303 1) | ((with_reducible refine gate_dst (N := 22) rfl ?_); refine Kd.R_make (Kd.int .i64) _ 3 rfl (N := 22) rfl 26 _ _ rfl a0_0 rfl rfl Try.underlying26 (.int .i64 0) 8 info3 rfl (by decide) (by omega) 0 (ok := fun _ => True) (okp := fun _ => True) rfl (fun _ hk => hk) trivial (oT (by (with_reducible assumption))) (Nat.le_trans (Nat.mul_le_mul_right _ (oT (by (with_reducible assumption)) : a0_0.toNat ≤ 35184372088832)) (by omega)) (Below.refl _ _) (Nat.le_refl _) ?_; intro v315 w15 ho16 hb hg_ hnew_; clear hg_ hnew_; (rw [← Ny314.out] at ho16); replace HO313 := ak (Kd.N_elder' (by exact HO313.out) (Kd.R_base ho16) hb); have HO316 := ak (Kd.R_lower (Kd.R_newM (M := fun k_ => (w.heap.size ≤ k_)) ho16 (below_size (bl1 HB GE303)) (fun k_ h_ => h_)) (below_size (bl1 HB GE303))); replace BK303 := ak (blk_below (bk BK303) hb); replace HB := ak (below_step (bl1 HB GE303) hb); clear hb ho16; obtain ⟨Ao17, co17, eo17⟩ := Kd.R_slice HO316.out; subst eo17) | ((with_reducible refine gate_dst (N := 23) rfl ?_); refine Kd.N_lit (Kd.slice 3 (Kd.int .i64)) _ 26 ?hg (N' := 23) ?hd (xs := ([y314] : List (List Int))) (inner := [.slice Ao17 y314.length co17]) (ok := (fun k_ => (w.heap.size ≤ k_) ∧ some k_ ≠ (v312 : Value).ownBlock ∧ k_ ≠ gb303)) (okp := (fun k_ => (w.heap.size ≤ k_) ∧ some k_ ≠ (v312 : Value).ownBlock ∧ k_ ≠ gb303)) ?hr ?hp (fun _ hk => hk) ((show ∀ k_, w15.heap.size ≤ k_ → (fun k_ => (w.heap.size ≤ k_) ∧ some k_ ≠ (v312 : Value).ownBlock ∧ k_ ≠ gb303) k_ from fun k_ hk => ⟨(Nat.le_trans (below_size (bl1 HB GE303)) hk), Kd.fresh' (Kd.N_lt (by exact HO313.out)) k_ hk, Kd.freshB (bk BK303) k_ hk⟩) _ (Nat.le_refl _)) (Below.refl _ _) (Nat.le_refl _) (by simp) ?_; (case hd => rfl); (case hg => rfl); (case hr => (go_simp; done)); (case hp => exact (Reps.one (show Kd.FK (Kd.slice 3 (Kd.int .i64)) _ _ y314 [.slice Ao17 y314.length co17] from (Kd.FK_slice_mk (Kd.R_reads' (Kd.R_mono (ok' := (fun k_ => (w.heap.size ≤ k_) ∧ some k_ ≠ (v312 : Value).ownBlock ∧ k_ ≠ gb303)) (Kd.R_types (Kd.R_apart' (HO316.out) (Kd.N_typed HO313.out) (by decide)) BK303.out (by decide)) (fun k_ hk => ⟨hk.1.1.1, ⟨hk.1.2, hk.2⟩⟩))).2.1 (Kd.R_F (Kd.R_mono (ok' := (fun k_ => (w.heap.size ≤ k_) ∧ some k_ ≠ (v312 : Value).ownBlock ∧ k_ ≠ gb303)) (Kd.R_types (Kd.R_apart' (HO316.out) (Kd.N_typed HO313.out) (by decide)) BK303.out (by decide)) (fun k_ hk => ⟨hk.1.1.1, ⟨hk.1.2, hk.2⟩⟩))))) (Reps.none _ _))); intro v318 w18 ho19 hb hg_ hnew_; clear hg_ hnew_; (rw [← Ny317.out] at ho19); have n0_ := ak (Kd.N_elder' (by exact HO313.out) (Kd.N_base ho19) hb); have n1_ := ak (Kd.N_lower ho19 (below_size (bl1 HB GE303))); have n2_ := ak (blk_below (bk BK303) hb); have n3_ := ak (below_step (bl1 HB GE303) hb); clear HO313; clear BK303; clear HB; clear HO316; have HO313 := n0_; have HO319 := n1_; have BK303 := n2_; have HB := n3_; clear n0_ n1_ n2_ n3_; clear hb ho19))
 go_loopg [6, 7, 8] k (fun kq v6 v7 v8 w' => ∃ (x6_1 : List (List Int)) (x7_1 : List (List Int)) (x8_1 : Int), v8 = .int .i64 x8_1 ∧ Aside0 (spec_l15Rows.l0 kq l1 x6_1 x7_1 x8_1 a0_0 l0_1 = some (r1, r2)) ∧ Aside0 (kq ≤ k) ∧ Aside0 (Kd.N (Kd.slice 3 (Kd.int .i64)) 26 w' w.heap.size (fun k_ => (w.heap.size ≤ k_) ∧ some k_ ≠ (v7 : Value).ownBlock ∧ k_ ≠ gb303) v6 x6_1) ∧ Aside0 (Kd.N (Kd.slice 3 (Kd.int .i64)) 26 w' w.heap.size (fun k_ => (w.heap.size ≤ k_) ∧ some k_ ≠ (v6 : Value).ownBlock ∧ k_ ≠ gb303) v7 x7_1) ∧ Aside0 (w'.heap[gb303]? = some (.cells #[.int .i64 a0_0, (.slice A0_1 l0_1.length c0_1)] 25 (0, 0))) ∧ Aside0 (Below w.heap.size w w'))
 case atStart => exact ⟨(y311), (y317), (1), (by rfl), H', ⟨Nat.le_refl _⟩, ⟨by exact Kd.N_mono HO313.out (fun _ hk => ⟨hk.1.1.1, ⟨hk.2, hk.1.1.2⟩⟩)⟩, ⟨by exact HO319.out⟩, ⟨bk BK303⟩, ⟨bl1 HB GE303⟩⟩
 clear H'
 try clear c1
 try clear p2
 try clear c3
 try clear c3b0
 try clear c3b1
 try clear p3
 try clear q3
 try clear hx3
 try clear qi3
 try clear c4
 try clear c5
 try clear c5b0
 try clear c5b1
 try clear c6
 try clear c6b0
 try clear c6b1
 try clear c9
 try clear hcz14_0
 try clear hcz14_1
 try clear hfz14_0
 try clear hfz14_1
 try clear hx307_0
 try clear p307
 try clear q307
 obtain ⟨x6_1, x7_1, x8_1, rfl, HA, HK1, HO_6, HO_7, BK303, HB⟩ := hrel
 cases gk with
 | zero => exact absurd HA.out (by simp [spec_l15Rows.l0])
 | succ k1 =>
  have H := HA.out
  clear HA
  simp only [spec_l15Rows.l0] at H
  by_cases c20 : x8_1 < (l1.length : Int)
  rotate_left
  ·rw [if_neg c20] at H
   have c20b0 : decide (x8_1 < (l1.length : Int)) = false := decide_eq_false c20
   clear c20
   simp only [Option.some.injEq, Prod.mk.injEq] at H
   obtain ⟨rfl, rfl⟩ := H
   go_wp2
   go_ret2
   exact ⟨_, _, by rfl, by exact Kd.N_mono HO_6.out (fun _ hk => ⟨hk.1, hk.2.1⟩), by exact Kd.N_mono HO_7.out (fun _ hk => ⟨hk.1, hk.2.1⟩), bl1 HB GE303⟩
  rw [if_pos c20] at H
  have c20b0 : decide (x8_1 < (l1.length : Int)) = true := decide_eq_true c20
  clear c20
  by_cases c21 : 0 ≤ a0_0
  rotate_left
  ·rw [if_neg c21] at H
   exact absurd H (by simp)
  rw [if_pos c21] at H
  have c21b0 := eq_true c21
  have c21b1 : decide (0 ≤ a0_0) = true := decide_eq_true c21
  clear c21
  by_cases c22 : (a0_0 : Int).toNat ≤ 35184372088832
  rotate_left
  ·rw [if_neg c22] at H
   exact absurd H (by simp)
  rw [if_pos c22] at H
  have c22b0 := eq_true c22
  have c22b1 : decide ((a0_0 : Int).toNat ≤ 35184372088832) = true := decide_eq_true c22
  clear c22
  obtain ⟨y320, hy320⟩ : ∃ y_ : List Int, y_ = (List.replicate (a0_0 : Int).toNat 0) := ⟨_, rfl⟩
  replace H : (spec_l15Rows.l1 k1 l1 x6_1 x7_1 x8_1 y320 (List.replicate (a0_0 : Int).toNat 0) 0 a0_0 l0_1) = some (r1, r2) := by (rw [hy320]; with_reducible exact H)
  have Ny320 := ak hy320
  clear hy320
  obtain ⟨y323, hy323⟩ : ∃ y_ : List Int, y_ = (List.replicate (a0_0 : Int).toNat 0) := ⟨_, rfl⟩
  replace H : (spec_l15Rows.l1 k1 l1 x6_1 x7_1 x8_1 y320 y323 0 a0_0 l0_1) = some (r1, r2) := by (rw [hy323]; with_reducible exact H)
  have Ny323 := ak hy323
  clear hy323
  have H' := ak H
  clear H
  have hcz23_0 := bc wr BK303 0 (.int .i64 a0_0) rfl
  have hcz23_1 := bc wr BK303 1 (.slice A0_1 l0_1.length c0_1) rfl
  have hfz23_0 := fz BK303 0
  have hfz23_1 := fz BK303 1
  go_wp2_with (first | ((with_reducible refine gate_dst (N := 32) rfl ?_); refine Kd.R_make (Kd.int .i64) _ 3 rfl (N := 32) rfl 26 _ _ rfl a0_0 rfl rfl Try.underlying26 (.int .i64 0) 8 info3 rfl (by decide) (by omega) 0 (ok := fun _ => True) (okp := fun _ => True) rfl (fun _ hk => hk) trivial (oT (by (with_reducible assumption))) (Nat.le_trans (Nat.mul_le_mul_right _ (oT (by (with_reducible assumption)) : a0_0.toNat ≤ 35184372088832)) (by omega)) (Below.refl _ _) (Nat.le_refl _) ?_; intro v321 w24 ho25 hb hg_ hnew_; clear hg_ hnew_; (rw [← Ny320.out] at ho25); replace HO_6 := ak (Kd.N_elder' (by exact HO_6.out) (Kd.R_base ho25) hb); replace HO_7 := ak (Kd.N_elder' (by exact HO_7.out) (Kd.R_base ho25) hb); have HO322 := ak (Kd.R_lower (Kd.R_newM (M := fun k_ => (w.heap.size ≤ k_)) ho25 (below_size (bl1 HB GE303)) (fun k_ h_ => h_)) (below_size (bl1 HB GE303))); replace BK303 := ak (blk_below (bk BK303) hb); replace HB := ak (below_step (bl1 HB GE303) hb); clear hb ho25; have hcz26_0 := bc w24 BK303 0 (.int .i64 a0_0) rfl; have hcz26_1 := bc w24 BK303 1 (.slice A0_1 l0_1.length c0_1) rfl; have hfz26_0 := fz BK303 0; have hfz26_1 := fz BK303 1) | ((with_reducible refine gate_dst (N := 35) rfl ?_); refine Kd.R_make (Kd.int .i64) _ 3 rfl (N := 35) rfl 26 _ _ rfl a0_0 rfl rfl Try.underlying26 (.int .i64 0) 8 info3 rfl (by decide) (by omega) 0 (ok := fun _ => True) (okp := fun _ => True) rfl (fun _ hk => hk) trivial (oT (by (with_reducible assumption))) (Nat.le_trans (Nat.mul_le_mul_right _ (oT (by (with_reducible assumption)) : a0_0.toNat ≤ 35184372088832)) (by omega)) (Below.refl _ _) (Nat.le_refl _) ?_; intro v324 w27 ho28 hb hg_ hnew_; clear hg_ hnew_; (rw [← Ny323.out] at ho28); replace HO_6 := ak (Kd.N_elder' (by exact HO_6.out) (Kd.R_base ho28) hb); replace HO_7 := ak (Kd.N_elder' (by exact HO_7.out) (Kd.R_base ho28) hb); have HO325 := ak (Kd.R_lower (Kd.R_new' (Kd.R_newM (M := fun k_ => (w.heap.size ≤ k_)) ho28 (below_size (bl1 HB GE303)) (fun k_ h_ => h_)) (Kd.R_lt (rk HO322))) (below_size (bl1 HB GE303))); replace HO322 := ak (Kd.R_elder' (rk HO322) (Kd.R_base ho28) hb); replace BK303 := ak (blk_below (bk BK303) hb); replace HB := ak (below_step (bl1 HB GE303) hb); clear hb ho28))
  go_loopg [11] k1 (fun kq v11 w' => ∃ (x9_2 : List Int) (x10_2 : List Int) (x11_2 : Int), v11 = .int .i64 x11_2 ∧ Aside0 (spec_l15Rows.l1 kq l1 x6_1 x7_1 x8_1 x9_2 x10_2 x11_2 a0_0 l0_1 = some (r1, r2)) ∧ Aside0 (kq ≤ k1) ∧ Aside0 (Kd.N (Kd.slice 3 (Kd.int .i64)) 26 w' w.heap.size (fun k_ => (w.heap.size ≤ k_) ∧ some k_ ≠ (u7 : Value).ownBlock ∧ some k_ ≠ (v321 : Value).ownBlock ∧ some k_ ≠ (v324 : Value).ownBlock ∧ k_ ≠ gb303) u6 x6_1) ∧ Aside0 (Kd.N (Kd.slice 3 (Kd.int .i64)) 26 w' w.heap.size (fun k_ => (w.heap.size ≤ k_) ∧ some k_ ≠ (u6 : Value).ownBlock ∧ some k_ ≠ (v321 : Value).ownBlock ∧ some k_ ≠ (v324 : Value).ownBlock ∧ k_ ≠ gb303) u7 x7_1) ∧ Aside0 (Kd.R (Kd.int .i64) 3 w' w.heap.size (fun k_ => (w.heap.size ≤ k_) ∧ some k_ ≠ (v324 : Value).ownBlock) v321 x9_2) ∧ Aside0 (Kd.R (Kd.int .i64) 3 w' w.heap.size (fun k_ => (w.heap.size ≤ k_) ∧ some k_ ≠ (v321 : Value).ownBlock) v324 x10_2) ∧ Aside0 (w'.heap[gb303]? = some (.cells #[.int .i64 a0_0, (.slice A0_1 l0_1.length c0_1)] 25 (0, 0))) ∧ Aside0 (Below w.heap.size w w'))
  case atStart => exact ⟨(y320), (y323), (0), (by rfl), H', ⟨Nat.le_refl _⟩, ⟨by exact Kd.N_mono HO_6.out (fun _ hk => ⟨hk.1.1.1, ⟨hk.1.1.2.1, ⟨hk.1.2, ⟨hk.2, hk.1.1.2.2⟩⟩⟩⟩)⟩, ⟨by exact Kd.N_mono HO_7.out (fun _ hk => ⟨hk.1.1.1, ⟨hk.1.1.2.1, ⟨hk.1.2, ⟨hk.2, hk.1.1.2.2⟩⟩⟩⟩)⟩, ⟨by exact Kd.R_mono HO322.out (fun _ hk => ⟨hk.1.1, hk.2⟩)⟩, ⟨by exact Kd.R_mono HO325.out (fun _ hk => ⟨hk.1.1, hk.2⟩)⟩, ⟨bk BK303⟩, ⟨bl1 HB GE303⟩⟩
  clear H'
  try clear c1
  try clear c2
  try clear p2
  try clear c3
  try clear c3b0
  try clear c3b1
  try clear p3
  try clear q3
  try clear hx3
  try clear qi3
  try clear c4
  try clear c5
  try clear c5b0
  try clear c5b1
  try clear c6
  try clear c6b0
  try clear c6b1
  try clear c9
  try clear c20
  try clear c20b0
  try clear c21
  try clear c21b0
  try clear c21b1
  try clear c22
  try clear c22b0
  try clear c22b1
  try clear hcz14_0
  try clear hcz14_1
  try clear hcz23_0
  try clear hcz23_1
  try clear hcz26_0
  try clear hcz26_1
  try clear hfz14_0
  try clear hfz14_1
  try clear hfz23_0
  try clear hfz23_1
  try clear hfz26_0
  try clear hfz26_1
  try clear hx307_0
  try clear p2
  try clear p3
  try clear p307
  try clear q3
  try clear q307
  obtain ⟨x9_2, x10_2, x11_2, rfl, HA, HK2, HO_6, HO_7, HO_9, HO_10, BK303, HB⟩ := hrel
  cases gk with
  | zero => exact absurd HA.out (by simp [spec_l15Rows.l1])
  | succ k2 =>
   have H := HA.out
   clear HA
   simp only [spec_l15Rows.l1] at H
   by_cases c29 : x11_2 < a0_0
   rotate_left
   ·rw [if_neg c29] at H
    have c29b0 : decide (x11_2 < a0_0) = false := decide_eq_false c29
    clear c29
    by_cases c80 : x6_1.length < 5864062014805
    rotate_left
    ·rw [if_neg c80] at H
     exact absurd H (by simp)
    rw [if_pos c80] at H
    have LMc80 := ak c80
    clear c80
    obtain ⟨y326, hy326⟩ : ∃ y_ : List (List Int), y_ = (x6_1 ++ [x9_2]) := ⟨_, rfl⟩
    replace H : (if x7_1.length < 5864062014805 then (spec_l15Rows.l0 k2 l1 y326 (x7_1 ++ [x10_2]) (wrap64 (x8_1 + 1)) a0_0 l0_1) else (none)) = some (r1, r2) := by (rw [hy326]; with_reducible exact H)
    have Ny326 := ak hy326
    clear hy326
    by_cases c81 : x7_1.length < 5864062014805
    rotate_left
    ·rw [if_neg c81] at H
     exact absurd H (by simp)
    rw [if_pos c81] at H
    have LMc81 := ak c81
    clear c81
    obtain ⟨y329, hy329⟩ : ∃ y_ : List (List Int), y_ = (x7_1 ++ [x10_2]) := ⟨_, rfl⟩
    replace H : (spec_l15Rows.l0 k2 l1 y326 y329 (wrap64 (x8_1 + 1)) a0_0 l0_1) = some (r1, r2) := by (rw [hy329]; with_reducible exact H)
    have Ny329 := ak hy329
    clear hy329
    have H' := ak H
    clear H
    have hcz82_0 := bc wr BK303 0 (.int .i64 a0_0) rfl
    have hcz82_1 := bc wr BK303 1 (.slice A0_1 l0_1.length c0_1) rfl
    have hfz82_0 := fz BK303 0
    have hfz82_1 := fz BK303 1
    obtain ⟨Ao84, co84, eo84⟩ := Kd.R_slice HO_9.out
    subst eo84
    go_wp2_with (first | ((with_reducible refine gate_builtin (b := .append) (xs := #[.tmp 120, .tmp 122]) rfl ?_); at_builtin; refine Kd.N_append (Kd.slice 3 (Kd.int .i64)) (w0 := w) w.heap.size rfl (.tmp 120) (.tmp 122) 50 26 (.slice none 0 0) 24 rfl Try.underlying50 info26 rfl (by decide) (by omega) u6 x6_1 x9_2 [.slice Ao84 x9_2.length co84] (fun k_ => (w.heap.size ≤ k_) ∧ some k_ ≠ (u7 : Value).ownBlock ∧ some k_ ≠ (v324 : Value).ownBlock ∧ k_ ≠ gb303) (fun k_ => ((fun k_ => (w.heap.size ≤ k_) ∧ some k_ ≠ (u7 : Value).ownBlock ∧ some k_ ≠ (v324 : Value).ownBlock ∧ k_ ≠ gb303)) k_ ∧ some k_ ≠ (u6 : Value).ownBlock) rfl rfl ?aP (fun _ hk => hk) ?aF ?aO ?aB ?aS ?aL ?_; (case aP => exact (Kd.FK_slice_mk (Kd.R_reads' (Kd.R_mono (ok' := (fun k_ => ((fun k_ => (w.heap.size ≤ k_) ∧ some k_ ≠ (u7 : Value).ownBlock ∧ some k_ ≠ (v324 : Value).ownBlock ∧ k_ ≠ gb303)) k_ ∧ some k_ ≠ (u6 : Value).ownBlock)) (Kd.R_types (Kd.R_apart' (Kd.R_apart' (HO_9.out) (Kd.N_typed HO_7.out) (by decide)) (Kd.N_typed HO_6.out) (by decide)) BK303.out (by decide)) (fun k_ hk => ⟨⟨hk.1.1.1.1, ⟨hk.1.1.2, ⟨hk.1.1.1.2, hk.2⟩⟩⟩, hk.1.2⟩))).2.1 (Kd.R_F (Kd.R_mono (ok' := (fun k_ => ((fun k_ => (w.heap.size ≤ k_) ∧ some k_ ≠ (u7 : Value).ownBlock ∧ some k_ ≠ (v324 : Value).ownBlock ∧ k_ ≠ gb303)) k_ ∧ some k_ ≠ (u6 : Value).ownBlock)) (Kd.R_types (Kd.R_apart' (Kd.R_apart' (HO_9.out) (Kd.N_typed HO_7.out) (by decide)) (Kd.N_typed HO_6.out) (by decide)) BK303.out (by decide)) (fun k_ hk => ⟨⟨hk.1.1.1.1, ⟨hk.1.1.2, ⟨hk.1.1.1.2, hk.2⟩⟩⟩, hk.1.2⟩))))); (case aB => exact (bl1 HB GE303)); (case aF => exact (fun k_ hk => ⟨(Nat.le_trans (below_size (bl1 HB GE303)) hk), Kd.fresh' (Kd.N_lt (by exact HO_7.out)) k_ hk, Kd.fresh' (Kd.R_lt (rk HO_10)) k_ hk, Kd.freshB (bk BK303) k_ hk⟩)); (case aO => exact (by exact Kd.N_mono HO_6.out (fun _ hk => ⟨hk.1, ⟨hk.2.1, ⟨hk.2.2.2.1, hk.2.2.2.2⟩⟩⟩))); (case aS => exact (below_size (bl1 HB GE303))); (case aL => have := LMc80.out; omega); intro v327 w83 ho hb hg hat; rw [← Ny326.out] at ho; have n0_ := ak (Kd.N_afterv (ok := (fun k_ => (w.heap.size ≤ k_) ∧ some k_ ≠ (.slice Ao84 x9_2.length co84 : Value).ownBlock ∧ some k_ ≠ (v324 : Value).ownBlock ∧ k_ ≠ gb303)) (by exact Kd.N_mono HO_7.out (fun _ hk => ⟨⟨hk.1, ⟨hk.2.2.1, ⟨hk.2.2.2.1, hk.2.2.2.2⟩⟩⟩, hk.2.1⟩)) hg hat); have n1_ := ak (Kd.R_over' (rk HO_10) (Kd.N_typed (by exact HO_6.out)) (by decide) hg); have n2_ := ak (blk_grown (bk BK303) hg (Kd.N_ne HO_6.out BK303.out (by decide))); have n3_ := ak (hb); have n4_ := ak (ho); clear HO_7; clear HO_10; clear BK303; clear HB; clear HO_6; clear HO_9; have HO_7 := n0_; have HO_10 := n1_; have BK303 := n2_; have HB := n3_; have HO328 := n4_; clear n0_ n1_ n2_ n3_ n4_; clear ho hb hg hat; obtain ⟨Ao86, co86, eo86⟩ := Kd.R_slice HO_10.out; subst eo86) | ((with_reducible refine gate_builtin (b := .append) (xs := #[.tmp 124, .tmp 126]) rfl ?_); at_builtin; refine Kd.N_append (Kd.slice 3 (Kd.int .i64)) (w0 := w) w.heap.size rfl (.tmp 124) (.tmp 126) 50 26 (.slice none 0 0) 24 rfl Try.underlying50 info26 rfl (by decide) (by omega) u7 x7_1 x10_2 [.slice Ao86 x10_2.length co86] (fun k_ => (w.heap.size ≤ k_) ∧ some k_ ≠ (v327 : Value).ownBlock ∧ k_ ≠ gb303) (fun k_ => ((fun k_ => (w.heap.size ≤ k_) ∧ some k_ ≠ (v327 : Value).ownBlock ∧ k_ ≠ gb303)) k_ ∧ some k_ ≠ (u7 : Value).ownBlock) rfl rfl ?aP (fun _ hk => hk) ?aF ?aO ?aB ?aS ?aL ?_; (case aP => exact (Kd.FK_slice_mk (Kd.R_reads' (Kd.R_mono (ok' := (fun k_ => ((fun k_ => (w.heap.size ≤ k_) ∧ some k_ ≠ (v327 : Value).ownBlock ∧ k_ ≠ gb303)) k_ ∧ some k_ ≠ (u7 : Value).ownBlock)) (Kd.R_types (Kd.R_apart' (Kd.R_apart' (HO_10.out) (Kd.N_typed HO328.out) (by decide)) (Kd.N_typed HO_7.out) (by decide)) BK303.out (by decide)) (fun k_ hk => ⟨⟨hk.1.1.1.1, ⟨hk.1.1.2, hk.2⟩⟩, hk.1.2⟩))).2.1 (Kd.R_F (Kd.R_mono (ok' := (fun k_ => ((fun k_ => (w.heap.size ≤ k_) ∧ some k_ ≠ (v327 : Value).ownBlock ∧ k_ ≠ gb303)) k_ ∧ some k_ ≠ (u7 : Value).ownBlock)) (Kd.R_types (Kd.R_apart' (Kd.R_apart' (HO_10.out) (Kd.N_typed HO328.out) (by decide)) (Kd.N_typed HO_7.out) (by decide)) BK303.out (by decide)) (fun k_ hk => ⟨⟨hk.1.1.1.1, ⟨hk.1.1.2, hk.2⟩⟩, hk.1.2⟩))))); (case aB => exact (bl1 HB GE303)); (case aF => exact (fun k_ hk => ⟨(Nat.le_trans (below_size (bl1 HB GE303)) hk), Kd.fresh' (Kd.N_lt (by exact HO328.out)) k_ hk, Kd.freshB (bk BK303) k_ hk⟩)); (case aO => exact (by exact Kd.N_mono HO_7.out (fun _ hk => ⟨hk.1.1, ⟨hk.2, hk.1.2.2.2⟩⟩))); (case aS => exact (below_size (bl1 HB GE303))); (case aL => have := LMc81.out; omega); intro v330 w85 ho hb hg hat; rw [← Ny329.out] at ho; have n0_ := ak (blk_grown (bk BK303) hg (Kd.N_ne HO_7.out BK303.out (by decide))); have n1_ := ak (Kd.N_afterv (ok := (fun k_ => (w.heap.size ≤ k_) ∧ some k_ ≠ (.slice Ao86 x10_2.length co86 : Value).ownBlock ∧ k_ ≠ gb303)) (by exact Kd.N_mono HO328.out (fun _ hk => ⟨⟨hk.1, ⟨hk.2.2.1, hk.2.2.2⟩⟩, hk.2.1⟩)) hg hat); have n2_ := ak (hb); have n3_ := ak (ho); clear BK303; clear HO328; clear HB; clear HO_7; clear HO_10; have BK303 := n0_; have HO328 := n1_; have HB := n2_; have HO331 := n3_; clear n0_ n1_ n2_ n3_; clear ho hb hg hat))
    go_roundg k2
    case measure => have := HK1.out; have := HK2.out; omega
    case rel => exact ⟨(y326), (y329), (wrap64 (x8_1 + 1)), (by rfl), H', ⟨by have := HK1.out; have := HK2.out; omega⟩, ⟨by exact Kd.N_mono HO328.out (fun _ hk => ⟨hk.1.1, ⟨hk.2, hk.1.2.2⟩⟩)⟩, ⟨by exact HO331.out⟩, ⟨bk BK303⟩, ⟨bl1 HB GE303⟩⟩
   rw [if_pos c29] at H
   have c29b0 : decide (x11_2 < a0_0) = true := decide_eq_true c29
   clear c29
   by_cases c30 : 0 ≤ x11_2
   rotate_left
   ·rw [if_neg c30] at H
    exact absurd H (by simp)
   rw [if_pos c30] at H
   have c30b0 : decide (0 ≤ x11_2) = true := decide_eq_true c30
   clear c30
   by_cases c31 : x11_2 < (x9_2.length : Int)
   rotate_left
   ·rw [if_neg c31] at H
    exact absurd H (by simp)
   rw [if_pos c31] at H
   have c31b0 : decide (x11_2 < (x9_2.length : Int)) = true := decide_eq_true c31
   clear c31
   obtain ⟨y332, hy332⟩ : ∃ y_ : List Int, y_ = (x9_2.set (x11_2 : Int).toNat 99999) := ⟨_, rfl⟩
   replace H : (spec_l15Rows.l2 k2 l1 x6_1 x7_1 x8_1 y332 x10_2 x11_2 0 a0_0 l0_1) = some (r1, r2) := by (rw [hy332]; with_reducible exact H)
   have Ny332 := ak hy332
   clear hy332
   have H' := ak H
   clear H
   have hcz33_0 := bc wr BK303 0 (.int .i64 a0_0) rfl
   have hcz33_1 := bc wr BK303 1 (.slice A0_1 l0_1.length c0_1) rfl
   have hfz33_0 := fz BK303 0
   have hfz33_1 := fz BK303 1
   have p32 : 0 ≤ (x11_2 : Int) := oT (by (with_reducible assumption))
   have q32 : (x11_2 : Int) < ((x9_2.length : Int) : Int) := oT (by (with_reducible assumption))
   obtain ⟨go32, co32, eo32, gb32, gl32, cl32, HG32⟩ := Kd.R_form HO_9.out (by omega)
   (cases eo32)
   have GB32 := ak gb32
   have GG32 := ak HG32
   clear gb32 gl32 HG32
   obtain ⟨hx32_0, hf32_0⟩ := Kd.R_celln 0 HO_9.out (x11_2 : Int) p32 q32
   replace p32 := eq_true p32
   replace q32 := eq_true q32
   have HP34 := Kd.R_putg HO_9.out (x11_2 : Int) 99999
   go_wp2_with (((with_reducible refine gate_store (t := 3) (p := 44) rfl ?_); refine store_event (t := 3) (p := 44) (v := ?vo_w35) (w1 := (wr.setCell ⟨go32, (x11_2 : Int).toNat, none⟩ (.int .i64 99999))) ?hg ?ho ?hn ?hr ?_; (case ho => rfl); (case hg => rfl); (case hn => rfl); (case hr => (go_simp; done)); intro w35 hw; have hg : wr.grownBy w35 (some go32) := (by rw [hw]; exact HP34.2); have hp_ : Kd.R (Kd.int .i64) 3 w35 w.heap.size (fun k_ => (w.heap.size ≤ k_) ∧ some k_ ≠ (v324 : Value).ownBlock) (.slice (some ⟨go32, 0, none⟩) x9_2.length co32) y332 := (by rw [hw, Ny332.out]; exact HP34.1); clear HP34; replace HO_6 := ak (Kd.N_afterv (v := (.slice (some ⟨go32, 0, none⟩) x9_2.length co32)) (v1 := (.slice (some ⟨go32, 0, none⟩) x9_2.length co32)) (ok := (fun k_ => (w.heap.size ≤ k_) ∧ some k_ ≠ (u7 : Value).ownBlock ∧ some k_ ≠ (v324 : Value).ownBlock ∧ k_ ≠ gb303)) (by exact Kd.N_mono HO_6.out (fun _ hk => ⟨⟨hk.1, ⟨hk.2.1, ⟨hk.2.2.2.1, hk.2.2.2.2⟩⟩⟩, hk.2.2.1⟩)) hg (.inl rfl)); replace HO_7 := ak (Kd.N_afterv (v := (.slice (some ⟨go32, 0, none⟩) x9_2.length co32)) (v1 := (.slice (some ⟨go32, 0, none⟩) x9_2.length co32)) (ok := (fun k_ => (w.heap.size ≤ k_) ∧ some k_ ≠ (u6 : Value).ownBlock ∧ some k_ ≠ (v324 : Value).ownBlock ∧ k_ ≠ gb303)) (by exact Kd.N_mono HO_7.out (fun _ hk => ⟨⟨hk.1, ⟨hk.2.1, ⟨hk.2.2.2.1, hk.2.2.2.2⟩⟩⟩, hk.2.2.1⟩)) hg (.inl rfl)); replace HO_10 := ak (Kd.R_after (v := (.slice (some ⟨go32, 0, none⟩) x9_2.length co32)) (v1 := (.slice (some ⟨go32, 0, none⟩) x9_2.length co32)) (ok := (fun k_ => (w.heap.size ≤ k_))) (rk HO_10) hg (.inl rfl)); replace BK303 := ak (blk_grown (bk BK303) hg (Kd.R_ne HO_9.out BK303.out (by decide))); replace HO_9 := ak (hp_); replace HB := ak ((by rw [hw]; exact below_set (HB.out) GB32.out : Below w.heap.size w w35)); clear hg hw hp_))
   go_loopg [12] k2 (fun kq v12 w' => ∃ (x9_3 : List Int) (x10_3 : List Int) (x12_3 : Int), v12 = .int .i64 x12_3 ∧ Aside0 (spec_l15Rows.l2 kq l1 x6_1 x7_1 x8_1 x9_3 x10_3 x11_2 x12_3 a0_0 l0_1 = some (r1, r2)) ∧ Aside0 (kq ≤ k2) ∧ Aside0 (Kd.N (Kd.slice 3 (Kd.int .i64)) 26 w' w.heap.size (fun k_ => (w.heap.size ≤ k_) ∧ some k_ ≠ (u7 : Value).ownBlock ∧ some k_ ≠ ((.slice (some ⟨go32, 0, none⟩) x9_2.length co32) : Value).ownBlock ∧ some k_ ≠ (v324 : Value).ownBlock ∧ k_ ≠ gb303) u6 x6_1) ∧ Aside0 (Kd.N (Kd.slice 3 (Kd.int .i64)) 26 w' w.heap.size (fun k_ => (w.heap.size ≤ k_) ∧ some k_ ≠ (u6 : Value).ownBlock ∧ some k_ ≠ ((.slice (some ⟨go32, 0, none⟩) x9_2.length co32) : Value).ownBlock ∧ some k_ ≠ (v324 : Value).ownBlock ∧ k_ ≠ gb303) u7 x7_1) ∧ Aside0 (Kd.R (Kd.int .i64) 3 w' w.heap.size (fun k_ => (w.heap.size ≤ k_) ∧ some k_ ≠ (v324 : Value).ownBlock) (.slice (some ⟨go32, 0, none⟩) x9_2.length co32) x9_3) ∧ Aside0 (Kd.R (Kd.int .i64) 3 w' w.heap.size (fun k_ => (w.heap.size ≤ k_) ∧ some k_ ≠ ((.slice (some ⟨go32, 0, none⟩) x9_2.length co32) : Value).ownBlock) v324 x10_3) ∧ Aside0 (w'.heap[gb303]? = some (.cells #[.int .i64 a0_0, (.slice A0_1 l0_1.length c0_1)] 25 (0, 0))) ∧ Aside0 (Below w.heap.size w w'))
   case atStart => exact ⟨(y332), (x10_2), (0), (by rfl), H', ⟨Nat.le_refl _⟩, ⟨by exact Kd.N_mono HO_6.out (fun _ hk => ⟨hk.1.1, ⟨hk.1.2.1, ⟨hk.2, ⟨hk.1.2.2.1, hk.1.2.2.2⟩⟩⟩⟩)⟩, ⟨by exact Kd.N_mono HO_7.out (fun _ hk => ⟨hk.1.1, ⟨hk.1.2.1, ⟨hk.2, ⟨hk.1.2.2.1, hk.1.2.2.2⟩⟩⟩⟩)⟩, ⟨rk HO_9⟩, ⟨rk HO_10⟩, ⟨bk BK303⟩, ⟨bl1 HB GE303⟩⟩
   clear H'
   try clear c1
   try clear c2
   try clear p2
   try clear c3
   try clear c3b0
   try clear c3b1
   try clear p3
   try clear q3
   try clear hx3
   try clear qi3
   try clear hf3
   try clear c4
   try clear c5
   try clear c5b0
   try clear c5b1
   try clear c6
   try clear c6b0
   try clear c6b1
   try clear c9
   try clear c20
   try clear c20b0
   try clear c21
   try clear c21b0
   try clear c21b1
   try clear c22
   try clear c22b0
   try clear c22b1
   try clear c29
   try clear c29b0
   try clear c30
   try clear c30b0
   try clear p30
   try clear q30
   try clear hx30
   try clear qi30
   try clear c31
   try clear c31b0
   try clear p32
   try clear q32
   try clear hx32
   try clear hf32
   try clear hcz14_0
   try clear hcz14_1
   try clear hcz23_0
   try clear hcz23_1
   try clear hcz26_0
   try clear hcz26_1
   try clear hcz33_0
   try clear hcz33_1
   try clear hfz14_0
   try clear hfz14_1
   try clear hfz23_0
   try clear hfz23_1
   try clear hfz26_0
   try clear hfz26_1
   try clear hfz33_0
   try clear hfz33_1
   try clear hx307_0
   try clear hx32_0
   try clear p2
   try clear p3
   try clear p307
   try clear p32
   try clear q3
   try clear q307
   try clear q32
   obtain ⟨x9_3, x10_3, x12_3, rfl, HA, HK3, HO_6, HO_7, HO_9, HO_10, BK303, HB⟩ := hrel
   have hl9_3 := (Kd.R_reads' HO_9.out).1
   rw [hl9_3] at HO_9
   (try simp only [hl9_3])
   (try simp only [hl9_3] at BK303)
   (try simp only [hl9_3] at HO_6)
   (try simp only [hl9_3] at HO_7)
   (try simp only [hl9_3] at HO_10)
   cases gk with
   | zero => exact absurd HA.out (by simp [spec_l15Rows.l2])
   | succ k3 =>
    have H := HA.out
    clear HA
    simp only [spec_l15Rows.l2] at H
    by_cases c36 : x12_3 < a0_0
    rotate_left
    ·rw [if_neg c36] at H
     have c36b0 : decide (x12_3 < a0_0) = false := decide_eq_false c36
     clear c36
     have H' := ak H
     clear H
     have hcz79_0 := bc wr BK303 0 (.int .i64 a0_0) rfl
     have hcz79_1 := bc wr BK303 1 (.slice A0_1 l0_1.length c0_1) rfl
     have hfz79_0 := fz BK303 0
     have hfz79_1 := fz BK303 1
     go_wp2
     (try simp only [← hl9_3])
     go_roundg k3
     case measure => have := HK1.out; have := HK2.out; have := HK3.out; omega
     case rel => exact ⟨(x9_3), (x10_3), (wrap64 (x11_2 + 1)), (by rfl), H', ⟨by have := HK1.out; have := HK2.out; have := HK3.out; omega⟩, ⟨by (try simp only [hl9_3]); exact HO_6.out⟩, ⟨by (try simp only [hl9_3]); exact HO_7.out⟩, ⟨by (try simp only [hl9_3]); exact HO_9.out⟩, ⟨by (try simp only [hl9_3]); exact HO_10.out⟩, ⟨by (try simp only [hl9_3]); exact BK303.out⟩, ⟨bl1 HB GE303⟩⟩
    rw [if_pos c36] at H
    have c36b0 : decide (x12_3 < a0_0) = true := decide_eq_true c36
    clear c36
    replace H := Option.bind_eq_some_iff.mp H
    obtain ⟨t333, A370, H⟩ := H
    have A37 := ak A370
    clear A370
    by_cases c38 : 0 ≤ x11_2
    rotate_left
    ·rw [if_neg c38] at H
     exact absurd H (by simp)
    rw [if_pos c38] at H
    have c38b0 : decide (0 ≤ x11_2) = true := decide_eq_true c38
    clear c38
    by_cases c39 : x11_2 < (t333.length : Int)
    rotate_left
    ·rw [if_neg c39] at H
     exact absurd H (by simp)
    rw [if_pos c39] at H
    have c39b0 : decide (x11_2 < (t333.length : Int)) = true := decide_eq_true c39
    clear c39
    by_cases c40 : (rd t333 x11_2) < 99999
    rotate_left
    ·rw [if_neg c40] at H
     have c40b0 : decide ((rd t333 x11_2) < 99999) = false := decide_eq_false c40
     clear c40
     have H' := ak H
     clear H
     have hcz75_0 := bc wr BK303 0 (.int .i64 a0_0) rfl
     have hcz75_1 := bc wr BK303 1 (.slice A0_1 l0_1.length c0_1) rfl
     have hfz75_0 := fz BK303 0
     have hfz75_1 := fz BK303 1
     try go_wp2_with (((with_reducible refine gate_callee (f := 76) rfl ?_); refine goesL_ (some 53) rfl rfl Try.func76 (by kernel_rfl) rfl #[.agg #[.int .i64 a0_0, .slice A0_1 l0_1.length c0_1], .int .i64 x12_3] rfl (by (try simp only [List.map_toArray, List.map_cons, List.map_nil]); rfl) ?_; (with_reducible refine (spec_l3All.calls k3 a0_0 _ _ l0_1 x12_3 t333 _ ?side1 ?side2 A37.out).mono ?_); (case side1 => repeat (exact (Kd.C_below HR0_1.out HB.out))); (case side2 => exact HC0_1.out); rintro e w76 ⟨v334, rfl, ho0, hb⟩; refine ⟨_, rfl, ?_⟩; replace HO_6 := ak (Kd.N_elder' (by exact HO_6.out) (Kd.R_base ho0) hb); replace HO_7 := ak (Kd.N_elder' (by exact HO_7.out) (Kd.R_base ho0) hb); have HO335 := ak (Kd.R_lower (Kd.R_new' (Kd.R_new' (Kd.R_newM (M := fun k_ => (w.heap.size ≤ k_)) ho0 (below_size (bl1 HB GE303)) (fun k_ h_ => h_)) (Kd.R_lt (rk HO_9))) (Kd.R_lt (rk HO_10))) (below_size (bl1 HB GE303))); replace HO_9 := ak (Kd.R_elder' (rk HO_9) (Kd.R_base ho0) hb); replace HO_10 := ak (Kd.R_elder' (rk HO_10) (Kd.R_base ho0) hb); replace BK303 := ak (blk_below (bk BK303) hb); replace HB := ak (below_step (bl1 HB GE303) hb); (try clear hb); (try clear hb2); (try clear hk); (try clear hi); (try clear ho0); obtain ⟨Ao77, co77, eo77⟩ := Kd.R_slice HO335.out; subst eo77; have p336 : 0 ≤ (x11_2 : Int) := oT (by (with_reducible assumption)); have q336 : x11_2 < (t333.length : Int) := oT (by (with_reducible assumption)); obtain ⟨ad336, e336, hx336_0⟩ := Kd.at_int (Kd.R_reads' HO335.out).2.2 x11_2 p336 q336; cases e336; replace p336 := eq_true p336; replace q336 := eq_true q336))
     replace HO_6 := ak (Kd.N_drew HO_6.out)
     replace HO_7 := ak (Kd.N_drew HO_7.out)
     replace HO_9 := ak (Kd.R_drew HO_9.out)
     replace HO_10 := ak (Kd.R_drew HO_10.out)
     replace HO335 := ak (Kd.R_drew HO335.out)
     replace BK303 := ak (blk_drew BK303.out)
     replace HB := ak (below_drew1 HB.out)
     refine start_ (n := 38) (S := fun w' => True) (ds := []) (ms 38 0) (by kernel_rfl) rfl (by kernel_rfl) trivial (fun hHeld => ?_); refine with_tabW spec_l15Rows.tab16 spec_l15Rows.bits16 (fun HT_ HW_ => ?_)
     generalize w76.drew = w78 at HO_6 HO_7 HO_9 HO_10 HO335 BK303 HB hHeld ⊢
     refine pu 0 57 ?_ (ms 38 1) rfl rfl HT_ (by kernel_rfl) (fun _ _ _ h => h) (by rfl) ?_ ?_ ?_ ?_
     rotate_left
     ·intro w'
      go_simp
      with_reducible rfl
     rotate_left
     ·simp only [SX]
      rfl
     refine pu 1 58 ?_ (ms 38 3) rfl rfl HT_ (by kernel_rfl) (fun _ _ _ h => h) (by rfl) ?_ ?_ ?_ ?_
     rotate_left
     ·intro w'
      go_simp
      with_reducible rfl
     rotate_left
     ·simp only [SX]
      rfl
     refine pu 2 59 ?_ (ms 38 7) rfl rfl HT_ (by kernel_rfl) (fun _ _ _ h => h) (by rfl) ?_ ?_ ?_ ?_
     rotate_left
     ·intro w'
      go_simp
      with_reducible rfl
     rotate_left
     ·simp only [SX]
      rfl
     refine pure_ (i := 3) (N := some 60) (v := undef) (a' := ?_) (ms 38 15) rfl rfl (any_of HT_.out (by kernel_rfl)) (fun _ _ _ h => h) (Or.inr ⟨by rfl, rfl⟩) ?_ ?_
     rotate_left
     ·simp only [SX]
      rfl
     refine pure_ (i := 4) (N := some 61) (v := undef) (a' := ?_) (ms 38 31) rfl rfl (any_of HT_.out (by kernel_rfl)) (fun _ _ _ h => h) (Or.inr ⟨by rfl, rfl⟩) ?_ ?_
     rotate_left
     ·simp only [SX]
      rfl
     refine pure_ (i := 5) (N := some 62) (v := undef) (a' := ?_) (ms 38 63) rfl rfl (any_of HT_.out (by kernel_rfl)) (fun _ _ _ h => h) (Or.inr ⟨by rfl, rfl⟩) ?_ ?_
     rotate_left
     ·simp only [SX]
      rfl
     refine pure_ (i := 6) (N := some 63) (v := undef) (a' := ?_) (ms 38 127) rfl rfl (any_of HT_.out (by kernel_rfl)) (fun _ _ _ h => h) (Or.inr ⟨by rfl, rfl⟩) ?_ ?_
     rotate_left
     ·simp only [SX]
      rfl
     refine pure_ (i := 7) (N := some 64) (v := undef) (a' := ?_) (ms 38 255) rfl rfl (any_of HT_.out (by kernel_rfl)) (fun _ _ _ h => h) (Or.inr ⟨by rfl, rfl⟩) ?_ ?_
     rotate_left
     ·simp only [SX]
      rfl
     refine pure_ (i := 8) (N := some 65) (v := undef) (a' := ?_) (ms 38 511) rfl rfl (any_of HT_.out (by kernel_rfl)) (fun _ _ _ h => h) (Or.inr ⟨by rfl, rfl⟩) ?_ ?_
     rotate_left
     ·simp only [SX]
      rfl
     refine pure_ (i := 9) (N := some 66) (v := undef) (a' := ?_) (ms 38 1023) rfl rfl (any_of HT_.out (by kernel_rfl)) (fun _ _ _ h => h) (Or.inr ⟨by rfl, rfl⟩) ?_ ?_
     rotate_left
     ·simp only [SX]
      rfl
     refine pure_ (i := 10) (N := some 67) (v := undef) (a' := ?_) (ms 38 2047) rfl rfl (any_of HT_.out (by kernel_rfl)) (fun _ _ _ h => h) (Or.inr ⟨by rfl, rfl⟩) ?_ ?_
     rotate_left
     ·simp only [SX]
      rfl
     refine pure_ (i := 11) (N := some 68) (v := undef) (a' := ?_) (ms 38 4095) rfl rfl (any_of HT_.out (by kernel_rfl)) (fun _ _ _ h => h) (Or.inr ⟨by rfl, rfl⟩) ?_ ?_
     rotate_left
     ·simp only [SX]
      rfl
     refine pu 12 69 ?_ (ms 38 8191) rfl rfl HT_ (by kernel_rfl) (fun _ _ _ h => h) (by rfl) ?_ ?_ ?_ ?_
     rotate_left
     ·intro w'
      go_simp
      with_reducible rfl
     rotate_left
     ·simp only [SX]
      rfl
     refine pu 13 70 ?_ (ms 38 16383) rfl rfl HT_ (by kernel_rfl) (fun _ _ _ h => h) (by rfl) ?_ ?_ ?_ ?_
     rotate_left
     ·intro w'
      go_simp
      with_reducible rfl
     rotate_left
     ·simp only [SX]
      rfl
     refine pure_ (i := 14) (N := some 71) (v := undef) (a' := ?_) (ms 38 32767) rfl rfl (any_of HT_.out (by kernel_rfl)) (fun _ _ _ h => h) (Or.inr ⟨by rfl, rfl⟩) ?_ ?_
     rotate_left
     ·simp only [SX]
      rfl
     refine pure_ (i := 15) (N := some 72) (v := undef) (a' := ?_) (ms 38 65535) rfl rfl (any_of HT_.out (by kernel_rfl)) (fun _ _ _ h => h) (Or.inr ⟨by rfl, rfl⟩) ?_ ?_
     rotate_left
     ·simp only [SX]
      rfl
     refine pure_ (i := 16) (N := some 73) (v := undef) (a' := ?_) (ms 38 131071) rfl rfl (any_of HT_.out (by kernel_rfl)) (fun _ _ _ h => h) (Or.inr ⟨by rfl, rfl⟩) ?_ ?_
     rotate_left
     ·simp only [SX]
      rfl
     refine pure_ (i := 17) (N := some 74) (v := undef) (a' := ?_) (ms 38 262143) rfl rfl (any_of HT_.out (by kernel_rfl)) (fun _ _ _ h => h) (Or.inr ⟨by rfl, rfl⟩) ?_ ?_
     rotate_left
     ·simp only [SX]
      rfl
     refine pure_ (i := 18) (N := some 75) (v := undef) (a' := ?_) (ms 38 524287) rfl rfl (any_of HT_.out (by kernel_rfl)) (fun _ _ _ h => h) (Or.inr ⟨by rfl, rfl⟩) ?_ ?_
     rotate_left
     ·simp only [SX]
      rfl
     refine pure_ (i := 19) (N := some 76) (v := undef) (a' := ?_) (ms 38 1048575) rfl rfl (any_of HT_.out (by kernel_rfl)) (fun _ _ _ h => h) (Or.inr ⟨by rfl, rfl⟩) ?_ ?_
     rotate_left
     ·simp only [SX]
      rfl
     refine pure_ (i := 20) (N := some 77) (v := undef) (a' := ?_) (ms 38 2097151) rfl rfl (any_of HT_.out (by kernel_rfl)) (fun _ _ _ h => h) (Or.inr ⟨by rfl, rfl⟩) ?_ ?_
     rotate_left
     ·simp only [SX]
      rfl
     refine pure_ (i := 21) (N := some 78) (v := undef) (a' := ?_) (ms 38 4194303) rfl rfl (any_of HT_.out (by kernel_rfl)) (fun _ _ _ h => h) (Or.inr ⟨by rfl, rfl⟩) ?_ ?_
     rotate_left
     ·simp only [SX]
      rfl
     refine pure_ (i := 22) (N := some 79) (v := undef) (a' := ?_) (ms 38 8388607) rfl rfl (any_of HT_.out (by kernel_rfl)) (fun _ _ _ h => h) (Or.inr ⟨by rfl, rfl⟩) ?_ ?_
     rotate_left
     ·simp only [SX]
      rfl
     refine pure_ (i := 23) (N := some 80) (v := undef) (a' := ?_) (ms 38 16777215) rfl rfl (any_of HT_.out (by kernel_rfl)) (fun _ _ _ h => h) (Or.inr ⟨by rfl, rfl⟩) ?_ ?_
     rotate_left
     ·simp only [SX]
      rfl
     refine pure_ (i := 24) (N := some 81) (v := undef) (a' := ?_) (ms 38 33554431) rfl rfl (any_of HT_.out (by kernel_rfl)) (fun _ _ _ h => h) (Or.inr ⟨by rfl, rfl⟩) ?_ ?_
     rotate_left
     ·simp only [SX]
      rfl
     refine pure_ (i := 25) (N := some 82) (v := undef) (a' := ?_) (ms 38 67108863) rfl rfl (any_of HT_.out (by kernel_rfl)) (fun _ _ _ h => h) (Or.inr ⟨by rfl, rfl⟩) ?_ ?_
     rotate_left
     ·simp only [SX]
      rfl
     refine pure_ (i := 26) (N := some 83) (v := undef) (a' := ?_) (ms 38 134217727) rfl rfl (any_of HT_.out (by kernel_rfl)) (fun _ _ _ h => h) (Or.inr ⟨by rfl, rfl⟩) ?_ ?_
     rotate_left
     ·simp only [SX]
      rfl
     refine pure_ (i := 27) (N := some 84) (v := undef) (a' := ?_) (ms 38 268435455) rfl rfl (any_of HT_.out (by kernel_rfl)) (fun _ _ _ h => h) (Or.inr ⟨by rfl, rfl⟩) ?_ ?_
     rotate_left
     ·simp only [SX]
      rfl
     refine pure_ (i := 28) (N := some 85) (v := undef) (a' := ?_) (ms 38 536870911) rfl rfl (any_of HT_.out (by kernel_rfl)) (fun _ _ _ h => h) (Or.inr ⟨by rfl, rfl⟩) ?_ ?_
     rotate_left
     ·simp only [SX]
      rfl
     refine pure_ (i := 29) (N := some 86) (v := undef) (a' := ?_) (ms 38 1073741823) rfl rfl (any_of HT_.out (by kernel_rfl)) (fun _ _ _ h => h) (Or.inr ⟨by rfl, rfl⟩) ?_ ?_
     rotate_left
     ·simp only [SX]
      rfl
     refine pure_ (i := 30) (N := some 87) (v := undef) (a' := ?_) (ms 38 2147483647) rfl rfl (any_of HT_.out (by kernel_rfl)) (fun _ _ _ h => h) (Or.inr ⟨by rfl, rfl⟩) ?_ ?_
     rotate_left
     ·simp only [SX]
      rfl
     refine pure_ (i := 31) (N := some 88) (v := undef) (a' := ?_) (ms 38 4294967295) rfl rfl (any_of HT_.out (by kernel_rfl)) (fun _ _ _ h => h) (Or.inr ⟨by rfl, rfl⟩) ?_ ?_
     rotate_left
     ·simp only [SX]
      rfl
     refine pure_ (i := 32) (N := some 89) (v := undef) (a' := ?_) (ms 38 8589934591) rfl rfl (any_of HT_.out (by kernel_rfl)) (fun _ _ _ h => h) (Or.inr ⟨by rfl, rfl⟩) ?_ ?_
     rotate_left
     ·simp only [SX]
      rfl
     refine pure_ (i := 33) (N := some 90) (v := undef) (a' := ?_) (ms 38 17179869183) rfl rfl (any_of HT_.out (by kernel_rfl)) (fun _ _ _ h => h) (Or.inr ⟨by rfl, rfl⟩) ?_ ?_
     rotate_left
     ·simp only [SX]
      rfl
     refine pure_ (i := 34) (N := some 91) (v := undef) (a' := ?_) (ms 38 34359738367) rfl rfl (any_of HT_.out (by kernel_rfl)) (fun _ _ _ h => h) (Or.inr ⟨by rfl, rfl⟩) ?_ ?_
     rotate_left
     ·simp only [SX]
      rfl
     refine pure_ (i := 35) (N := some 92) (v := undef) (a' := ?_) (ms 38 68719476735) rfl rfl (any_of HT_.out (by kernel_rfl)) (fun _ _ _ h => h) (Or.inr ⟨by rfl, rfl⟩) ?_ ?_
     rotate_left
     ·simp only [SX]
      rfl
     refine pure_ (i := 36) (N := some 93) (v := undef) (a' := ?_) (ms 38 137438953471) rfl rfl (any_of HT_.out (by kernel_rfl)) (fun _ _ _ h => h) (Or.inr ⟨by rfl, rfl⟩) ?_ ?_
     rotate_left
     ·simp only [SX]
      rfl
     refine pu 37 94 ?_ (ms 38 274877906943) rfl rfl HT_ (by kernel_rfl) (fun _ _ _ h => h) (by rfl) ?_ ?_ ?_ ?_
     rotate_left
     ·intro w'
      go_simp
      with_reducible rfl
     rotate_left
     ·simp only [SX]
      rfl
     refine done_ (done_of HT_.out (by kernel_rfl)) ?_
     try go_wp2
     (try simp only [← hl9_3])
     go_roundg k3
     case measure => have := HK1.out; have := HK2.out; have := HK3.out; omega
     case rel => exact ⟨(x9_3), (x10_3), (wrap64 (x12_3 + 1)), (by rfl), H', ⟨by have := HK1.out; have := HK2.out; have := HK3.out; omega⟩, ⟨by (try simp only [hl9_3]); exact Kd.N_mono HO_6.out (fun _ hk => ⟨hk.1.1, ⟨hk.1.2.1, ⟨hk.1.2.2.1, ⟨hk.1.2.2.2.1, hk.1.2.2.2.2⟩⟩⟩⟩)⟩, ⟨by (try simp only [hl9_3]); exact Kd.N_mono HO_7.out (fun _ hk => ⟨hk.1.1, ⟨hk.1.2.1, ⟨hk.1.2.2.1, ⟨hk.1.2.2.2.1, hk.1.2.2.2.2⟩⟩⟩⟩)⟩, ⟨by (try simp only [hl9_3]); exact Kd.R_mono HO_9.out (fun _ hk => ⟨hk.1.1, hk.1.2⟩)⟩, ⟨by (try simp only [hl9_3]); exact Kd.R_mono HO_10.out (fun _ hk => ⟨hk.1.1, hk.1.2⟩)⟩, ⟨by (try simp only [hl9_3]); exact BK303.out⟩, ⟨bl1 HB GE303⟩⟩
    rw [if_pos c40] at H
    have c40b0 : decide ((rd t333 x11_2) < 99999) = true := decide_eq_true c40
    clear c40
    obtain ⟨ji41, hji41⟩ : ∃ j_ : Int, (wrap64 (x8_1 - 1)) = j_ := ⟨_, rfl⟩
    replace H : (if 0 ≤ (ji41) then (if (ji41) < (x6_1.length : Int) then (if 0 ≤ x12_3 then (if x12_3 < ((rd_L3 x6_1 (ji41)).length : Int) then (if (rd (rd_L3 x6_1 (ji41)) x12_3) < 99999 then (if 0 ≤ x8_1 then (if x8_1 < (l1.length : Int) then (if x11_2 < ((rd_L3 l1 x8_1).length : Int) then (if x11_2 < (x9_3.length : Int) then (if (wrap64 ((wrap64 ((rd (rd_L3 x6_1 (ji41)) x12_3) + (rd t333 x11_2))) + (rd (rd_L3 l1 x8_1) x11_2))) < (rd x9_3 x11_2) then (if x11_2 < (x10_3.length : Int) then (spec_l15Rows.l2 k3 l1 x6_1 x7_1 x8_1 (x9_3.set (x11_2 : Int).toNat (wrap64 ((wrap64 ((rd (rd_L3 x6_1 (ji41)) x12_3) + (rd t333 x11_2))) + (rd (rd_L3 l1 x8_1) x11_2)))) (x10_3.set (x11_2 : Int).toNat x12_3) x11_2 (wrap64 (x12_3 + 1)) a0_0 l0_1) else (none)) else (spec_l15Rows.l2 k3 l1 x6_1 x7_1 x8_1 x9_3 x10_3 x11_2 (wrap64 (x12_3 + 1)) a0_0 l0_1)) else (none)) else (none)) else (none)) else (none)) else (spec_l15Rows.l2 k3 l1 x6_1 x7_1 x8_1 x9_3 x10_3 x11_2 (wrap64 (x12_3 + 1)) a0_0 l0_1)) else (none)) else (none)) else (none)) else (none)) = some (r1, r2) := by (rw [hji41] at H; exact H)
    (try rw [hji41] at A37)
    have hji41w : (IntKind.i64.wrap (x8_1 - 1)) = ji41 := (i64_w _).trans hji41
    by_cases c42 : 0 ≤ (ji41)
    rotate_left
    ·rw [if_neg c42] at H
     exact absurd H (by simp)
    rw [if_pos c42] at H
    have c42b0 : decide (0 ≤ (ji41)) = true := decide_eq_true c42
    clear c42
    by_cases c43 : (ji41) < (x6_1.length : Int)
    rotate_left
    ·rw [if_neg c43] at H
     exact absurd H (by simp)
    rw [if_pos c43] at H
    have c43b0 : decide ((ji41) < (x6_1.length : Int)) = true := decide_eq_true c43
    clear c43
    by_cases c44 : 0 ≤ x12_3
    rotate_left
    ·rw [if_neg c44] at H
     exact absurd H (by simp)
    rw [if_pos c44] at H
    have c44b0 : decide (0 ≤ x12_3) = true := decide_eq_true c44
    clear c44
    by_cases c45 : x12_3 < ((rd_L3 x6_1 (ji41)).length : Int)
    rotate_left
    ·rw [if_neg c45] at H
     exact absurd H (by simp)
    rw [if_pos c45] at H
    have c45b0 : decide (x12_3 < ((rd_L3 x6_1 (ji41)).length : Int)) = true := decide_eq_true c45
    clear c45
    by_cases c46 : (rd (rd_L3 x6_1 (ji41)) x12_3) < 99999
    rotate_left
    ·rw [if_neg c46] at H
     have c46b0 : decide ((rd (rd_L3 x6_1 (ji41)) x12_3) < 99999) = false := decide_eq_false c46
     clear c46
     have H' := ak H
     clear H
     have hcz70_0 := bc wr BK303 0 (.int .i64 a0_0) rfl
     have hcz70_1 := bc wr BK303 1 (.slice A0_1 l0_1.length c0_1) rfl
     have hfz70_0 := fz BK303 0
     have hfz70_1 := fz BK303 1
     try go_wp2_with (((with_reducible refine gate_callee (f := 76) rfl ?_); refine goesL_ (some 53) rfl rfl Try.func76 (by kernel_rfl) rfl #[.agg #[.int .i64 a0_0, .slice A0_1 l0_1.length c0_1], .int .i64 x12_3] rfl (by (try simp only [List.map_toArray, List.map_cons, List.map_nil]); rfl) ?_; (with_reducible refine (spec_l3All.calls k3 a0_0 _ _ l0_1 x12_3 t333 _ ?side1 ?side2 A37.out).mono ?_); (case side1 => repeat (exact (Kd.C_below HR0_1.out HB.out))); (case side2 => exact HC0_1.out); rintro e w71 ⟨v334, rfl, ho0, hb⟩; refine ⟨_, rfl, ?_⟩; replace HO_6 := ak (Kd.N_elder' (by exact HO_6.out) (Kd.R_base ho0) hb); replace HO_7 := ak (Kd.N_elder' (by exact HO_7.out) (Kd.R_base ho0) hb); have HO335 := ak (Kd.R_lower (Kd.R_new' (Kd.R_new' (Kd.R_newM (M := fun k_ => (w.heap.size ≤ k_)) ho0 (below_size (bl1 HB GE303)) (fun k_ h_ => h_)) (Kd.R_lt (rk HO_9))) (Kd.R_lt (rk HO_10))) (below_size (bl1 HB GE303))); replace HO_9 := ak (Kd.R_elder' (rk HO_9) (Kd.R_base ho0) hb); replace HO_10 := ak (Kd.R_elder' (rk HO_10) (Kd.R_base ho0) hb); replace BK303 := ak (blk_below (bk BK303) hb); replace HB := ak (below_step (bl1 HB GE303) hb); (try clear hb); (try clear hb2); (try clear hk); (try clear hi); (try clear ho0); obtain ⟨Ao72, co72, eo72⟩ := Kd.R_slice HO335.out; subst eo72; have p336 : 0 ≤ (x11_2 : Int) := oT (by (with_reducible assumption)); have q336 : x11_2 < (t333.length : Int) := oT (by (with_reducible assumption)); obtain ⟨ad336, e336, hx336_0⟩ := Kd.at_int (Kd.R_reads' HO335.out).2.2 x11_2 p336 q336; cases e336; replace p336 := eq_true p336; replace q336 := eq_true q336))
     replace HO_6 := ak (Kd.N_drew HO_6.out)
     replace HO_7 := ak (Kd.N_drew HO_7.out)
     replace HO_9 := ak (Kd.R_drew HO_9.out)
     replace HO_10 := ak (Kd.R_drew HO_10.out)
     replace HO335 := ak (Kd.R_drew HO335.out)
     replace BK303 := ak (blk_drew BK303.out)
     replace HB := ak (below_drew1 HB.out)
     obtain ⟨Ao74, co74, eo74⟩ := Kd.N_slice HO_6.out
     (subst eo74)
     have p337 : 0 ≤ ((ji41) : Int) := oT (by (with_reducible assumption))
     have q337 : (ji41) < (x6_1.length : Int) := oT (by (with_reducible assumption))
     obtain ⟨ad337, A337_0, c337_0, e337, hx337_0, hl337_0, hi337_0⟩ := at_L3 (Kd.N_reads' HO_6.out).2.2 (ji41) p337 q337
     cases e337
     obtain ⟨ce337, hce337, hMe337, hcc337⟩ := Kd.N_get HO_6.out [] (ji41) p337 (by exact q337)
     obtain ⟨ua337_0, uc337_0, rfl, ul337_0, ge337_0⟩ := Kd.FK_slice_open hMe337
     have hv337_0 := hcc337 0 _ rfl
     rw [Nat.add_zero, show ((Kd.slice 3 (Kd.int .i64))).sz = 1 from rfl, Nat.mul_one] at hv337_0
     replace hv337_0 := Option.some.inj (hv337_0.symm.trans hx337_0)
     injection hv337_0 with hva_ hvn_ hvc_
     rw [hva_] at ge337_0
     rw [hvc_] at ul337_0
     have HL337_0 := ak (show Kd.V (Kd.int .i64) 3 _ w.heap.size _ _ (rd_L3 x6_1 (ji41)) from Kd.V_mk ul337_0 ge337_0)
     clear hva_ hvn_ hvc_ ge337_0 ul337_0
     clear hcc337 hce337
     have HR337_0 := ak hi337_0
     have HC337_0 := ak hl337_0
     clear hi337_0 hl337_0
     replace p337 := eq_true p337
     replace q337 := eq_true q337
     have p338 : 0 ≤ (x12_3 : Int) := oT (by (with_reducible assumption))
     have q338 : x12_3 < ((rd_L3 x6_1 (ji41)).length : Int) := oT (by (with_reducible assumption))
     obtain ⟨ad338, e338, hx338_0⟩ := Kd.at_int (by repeat ((with_reducible exact HR337_0.out))) x12_3 p338 q338
     cases e338
     replace p338 := eq_true p338
     replace q338 := eq_true q338
     refine start_ (n := 38) (S := fun w' => w'.cell? (ad337.add ((ji41)).toNat) = some (.slice (some ad338) (rd_L3 x6_1 (ji41)).length c337_0) ∧ w'.cell? (ad338.add (x12_3).toNat) = some (.int .i64 (rd (rd_L3 x6_1 (ji41)) x12_3))) (ds := []) (ms 38 0) (by kernel_rfl) rfl (by kernel_rfl) ⟨hx337_0, hx338_0⟩ (fun hHeld => ?_); refine with_tabW spec_l15Rows.tab16 spec_l15Rows.bits16 (fun HT_ HW_ => ?_)
     generalize w71.drew = w73 at HO_6 HO_7 HO_9 HO_10 HO335 BK303 HB HL337_0 HR337_0 hx337_0 hx338_0 hHeld ⊢
     refine pu 0 57 ?_ (ms 38 1) rfl rfl HT_ (by kernel_rfl) (fun _ _ _ h => h) (by rfl) ?_ ?_ ?_ ?_
     rotate_left
     ·intro w'
      go_simp
      with_reducible rfl
     rotate_left
     ·simp only [SX]
      rfl
     refine pu 1 58 ?_ (ms 38 3) rfl rfl HT_ (by kernel_rfl) (fun _ _ _ h => h) (by rfl) ?_ ?_ ?_ ?_
     rotate_left
     ·intro w'
      go_simp
      with_reducible rfl
     rotate_left
     ·simp only [SX]
      rfl
     refine pu 2 59 ?_ (ms 38 7) rfl rfl HT_ (by kernel_rfl) (fun _ _ _ h => h) (by rfl) ?_ ?_ ?_ ?_
     rotate_left
     ·intro w'
      go_simp
      with_reducible rfl
     rotate_left
     ·simp only [SX]
      rfl
     refine pu 3 60 ?_ (ms 38 15) rfl rfl HT_ (by kernel_rfl) (fun _ _ _ h => h) (by rfl) ?_ ?_ ?_ ?_
     rotate_left
     ·intro w'
      go_simp
      with_reducible rfl
     rotate_left
     ·simp only [SX]
      rfl
     refine pu 4 61 ?_ (ms 38 31) rfl rfl HT_ (by kernel_rfl) (fun _ _ _ h => h) (by rfl) ?_ ?_ ?_ ?_
     rotate_left
     ·intro w'
      go_simp
      with_reducible rfl
     rotate_left
     ·simp only [SX]
      rfl
     refine pu 5 62 ?_ (ms 38 63) rfl rfl HT_ (by kernel_rfl) (fun _ _ _ h => h) (by rfl) ?_ ?_ ?_ ?_
     rotate_left
     ·intro w'
      go_simp
      with_reducible rfl
     rotate_left
     ·simp only [SX]
      rfl
     refine pu 6 63 ?_ (ms 38 127) rfl rfl HT_ (by kernel_rfl) (fun _ _ _ h => h) (by rfl) ?_ ?_ ?_ ?_
     rotate_left
     ·intro w'
      go_simp
      with_reducible rfl
     rotate_left
     ·simp only [SX]
      rfl
     refine pu 8 65 ?_ (ms 38 383) rfl rfl HT_ (by kernel_rfl) (fun _ _ _ h => h) (by rfl) ?_ ?_ ?_ ?_
     rotate_left
     ·intro w'
      go_simp
      with_reducible rfl
     rotate_left
     ·simp only [SX]
      rfl
     refine tk 7 64 ?_ (ms 38 511) rfl rfl HT_ HW_ (by kernel_rfl) (fun _ _ _ h => h) (by rfl) ?_ hHeld ?_ ?_ ?_
     rotate_left
     ·rintro w' ⟨s0, s1⟩
      go_simp
      with_reducible rfl
     rotate_left
     ·simp only [SX]
      rfl
     refine pu 9 66 ?_ (ms 38 1023) rfl rfl HT_ (by kernel_rfl) (fun _ _ _ h => h) (by rfl) ?_ ?_ ?_ ?_
     rotate_left
     ·intro w'
      go_simp
      with_reducible rfl
     rotate_left
     ·simp only [SX]
      rfl
     refine tk 10 67 ?_ (ms 38 2047) rfl rfl HT_ HW_ (by kernel_rfl) (fun _ _ _ h => h) (by rfl) ?_ hHeld ?_ ?_ ?_
     rotate_left
     ·rintro w' ⟨s0, s1⟩
      go_simp
      with_reducible rfl
     rotate_left
     ·simp only [SX]
      rfl
     refine pu 11 68 ?_ (ms 38 4095) rfl rfl HT_ (by kernel_rfl) (fun _ _ _ h => h) (by rfl) ?_ ?_ ?_ ?_
     rotate_left
     ·intro w'
      go_simp
      with_reducible rfl
     rotate_left
     ·simp only [SX]
      rfl
     refine pu 12 69 ?_ (ms 38 8191) rfl rfl HT_ (by kernel_rfl) (fun _ _ _ h => h) (by rfl) ?_ ?_ ?_ ?_
     rotate_left
     ·intro w'
      go_simp
      with_reducible rfl
     rotate_left
     ·simp only [SX]
      rfl
     refine pu 13 70 ?_ (ms 38 16383) rfl rfl HT_ (by kernel_rfl) (fun _ _ _ h => h) (by rfl) ?_ ?_ ?_ ?_
     rotate_left
     ·intro w'
      go_simp
      with_reducible rfl
     rotate_left
     ·simp only [SX]
      rfl
     refine pure_ (i := 14) (N := some 71) (v := undef) (a' := ?_) (ms 38 32767) rfl rfl (any_of HT_.out (by kernel_rfl)) (fun _ _ _ h => h) (Or.inr ⟨by rfl, rfl⟩) ?_ ?_
     rotate_left
     ·simp only [SX]
      rfl
     refine pure_ (i := 15) (N := some 72) (v := undef) (a' := ?_) (ms 38 65535) rfl rfl (any_of HT_.out (by kernel_rfl)) (fun _ _ _ h => h) (Or.inr ⟨by rfl, rfl⟩) ?_ ?_
     rotate_left
     ·simp only [SX]
      rfl
     refine pure_ (i := 16) (N := some 73) (v := undef) (a' := ?_) (ms 38 131071) rfl rfl (any_of HT_.out (by kernel_rfl)) (fun _ _ _ h => h) (Or.inr ⟨by rfl, rfl⟩) ?_ ?_
     rotate_left
     ·simp only [SX]
      rfl
     refine pure_ (i := 17) (N := some 74) (v := undef) (a' := ?_) (ms 38 262143) rfl rfl (any_of HT_.out (by kernel_rfl)) (fun _ _ _ h => h) (Or.inr ⟨by rfl, rfl⟩) ?_ ?_
     rotate_left
     ·simp only [SX]
      rfl
     refine pure_ (i := 18) (N := some 75) (v := undef) (a' := ?_) (ms 38 524287) rfl rfl (any_of HT_.out (by kernel_rfl)) (fun _ _ _ h => h) (Or.inr ⟨by rfl, rfl⟩) ?_ ?_
     rotate_left
     ·simp only [SX]
      rfl
     refine pure_ (i := 19) (N := some 76) (v := undef) (a' := ?_) (ms 38 1048575) rfl rfl (any_of HT_.out (by kernel_rfl)) (fun _ _ _ h => h) (Or.inr ⟨by rfl, rfl⟩) ?_ ?_
     rotate_left
     ·simp only [SX]
      rfl
     refine pure_ (i := 20) (N := some 77) (v := undef) (a' := ?_) (ms 38 2097151) rfl rfl (any_of HT_.out (by kernel_rfl)) (fun _ _ _ h => h) (Or.inr ⟨by rfl, rfl⟩) ?_ ?_
     rotate_left
     ·simp only [SX]
      rfl
     refine pure_ (i := 21) (N := some 78) (v := undef) (a' := ?_) (ms 38 4194303) rfl rfl (any_of HT_.out (by kernel_rfl)) (fun _ _ _ h => h) (Or.inr ⟨by rfl, rfl⟩) ?_ ?_
     rotate_left
     ·simp only [SX]
      rfl
     refine pure_ (i := 22) (N := some 79) (v := undef) (a' := ?_) (ms 38 8388607) rfl rfl (any_of HT_.out (by kernel_rfl)) (fun _ _ _ h => h) (Or.inr ⟨by rfl, rfl⟩) ?_ ?_
     rotate_left
     ·simp only [SX]
      rfl
     refine pure_ (i := 23) (N := some 80) (v := undef) (a' := ?_) (ms 38 16777215) rfl rfl (any_of HT_.out (by kernel_rfl)) (fun _ _ _ h => h) (Or.inr ⟨by rfl, rfl⟩) ?_ ?_
     rotate_left
     ·simp only [SX]
      rfl
     refine pure_ (i := 24) (N := some 81) (v := undef) (a' := ?_) (ms 38 33554431) rfl rfl (any_of HT_.out (by kernel_rfl)) (fun _ _ _ h => h) (Or.inr ⟨by rfl, rfl⟩) ?_ ?_
     rotate_left
     ·simp only [SX]
      rfl
     refine pure_ (i := 25) (N := some 82) (v := undef) (a' := ?_) (ms 38 67108863) rfl rfl (any_of HT_.out (by kernel_rfl)) (fun _ _ _ h => h) (Or.inr ⟨by rfl, rfl⟩) ?_ ?_
     rotate_left
     ·simp only [SX]
      rfl
     refine pure_ (i := 26) (N := some 83) (v := undef) (a' := ?_) (ms 38 134217727) rfl rfl (any_of HT_.out (by kernel_rfl)) (fun _ _ _ h => h) (Or.inr ⟨by rfl, rfl⟩) ?_ ?_
     rotate_left
     ·simp only [SX]
      rfl
     refine pure_ (i := 27) (N := some 84) (v := undef) (a' := ?_) (ms 38 268435455) rfl rfl (any_of HT_.out (by kernel_rfl)) (fun _ _ _ h => h) (Or.inr ⟨by rfl, rfl⟩) ?_ ?_
     rotate_left
     ·simp only [SX]
      rfl
     refine pure_ (i := 28) (N := some 85) (v := undef) (a' := ?_) (ms 38 536870911) rfl rfl (any_of HT_.out (by kernel_rfl)) (fun _ _ _ h => h) (Or.inr ⟨by rfl, rfl⟩) ?_ ?_
     rotate_left
     ·simp only [SX]
      rfl
     refine pure_ (i := 29) (N := some 86) (v := undef) (a' := ?_) (ms 38 1073741823) rfl rfl (any_of HT_.out (by kernel_rfl)) (fun _ _ _ h => h) (Or.inr ⟨by rfl, rfl⟩) ?_ ?_
     rotate_left
     ·simp only [SX]
      rfl
     refine pure_ (i := 30) (N := some 87) (v := undef) (a' := ?_) (ms 38 2147483647) rfl rfl (any_of HT_.out (by kernel_rfl)) (fun _ _ _ h => h) (Or.inr ⟨by rfl, rfl⟩) ?_ ?_
     rotate_left
     ·simp only [SX]
      rfl
     refine pure_ (i := 31) (N := some 88) (v := undef) (a' := ?_) (ms 38 4294967295) rfl rfl (any_of HT_.out (by kernel_rfl)) (fun _ _ _ h => h) (Or.inr ⟨by rfl, rfl⟩) ?_ ?_
     rotate_left
     ·simp only [SX]
      rfl
     refine pure_ (i := 32) (N := some 89) (v := undef) (a' := ?_) (ms 38 8589934591) rfl rfl (any_of HT_.out (by kernel_rfl)) (fun _ _ _ h => h) (Or.inr ⟨by rfl, rfl⟩) ?_ ?_
     rotate_left
     ·simp only [SX]
      rfl
     refine pure_ (i := 33) (N := some 90) (v := undef) (a' := ?_) (ms 38 17179869183) rfl rfl (any_of HT_.out (by kernel_rfl)) (fun _ _ _ h => h) (Or.inr ⟨by rfl, rfl⟩) ?_ ?_
     rotate_left
     ·simp only [SX]
      rfl
     refine pure_ (i := 34) (N := some 91) (v := undef) (a' := ?_) (ms 38 34359738367) rfl rfl (any_of HT_.out (by kernel_rfl)) (fun _ _ _ h => h) (Or.inr ⟨by rfl, rfl⟩) ?_ ?_
     rotate_left
     ·simp only [SX]
      rfl
     refine pure_ (i := 35) (N := some 92) (v := undef) (a' := ?_) (ms 38 68719476735) rfl rfl (any_of HT_.out (by kernel_rfl)) (fun _ _ _ h => h) (Or.inr ⟨by rfl, rfl⟩) ?_ ?_
     rotate_left
     ·simp only [SX]
      rfl
     refine pure_ (i := 36) (N := some 93) (v := undef) (a' := ?_) (ms 38 137438953471) rfl rfl (any_of HT_.out (by kernel_rfl)) (fun _ _ _ h => h) (Or.inr ⟨by rfl, rfl⟩) ?_ ?_
     rotate_left
     ·simp only [SX]
      rfl
     refine pu 37 94 ?_ (ms 38 274877906943) rfl rfl HT_ (by kernel_rfl) (fun _ _ _ h => h) (by rfl) ?_ ?_ ?_ ?_
     rotate_left
     ·intro w'
      go_simp
      with_reducible rfl
     rotate_left
     ·simp only [SX]
      rfl
     refine done_ (done_of HT_.out (by kernel_rfl)) ?_
     try go_wp2
     (try simp only [← hl9_3])
     go_roundg k3
     case measure => have := HK1.out; have := HK2.out; have := HK3.out; omega
     case rel => exact ⟨(x9_3), (x10_3), (wrap64 (x12_3 + 1)), (by rfl), H', ⟨by have := HK1.out; have := HK2.out; have := HK3.out; omega⟩, ⟨by (try simp only [hl9_3]); exact Kd.N_mono HO_6.out (fun _ hk => ⟨hk.1.1, ⟨hk.1.2.1, ⟨hk.1.2.2.1, ⟨hk.1.2.2.2.1, hk.1.2.2.2.2⟩⟩⟩⟩)⟩, ⟨by (try simp only [hl9_3]); exact Kd.N_mono HO_7.out (fun _ hk => ⟨hk.1.1, ⟨hk.1.2.1, ⟨hk.1.2.2.1, ⟨hk.1.2.2.2.1, hk.1.2.2.2.2⟩⟩⟩⟩)⟩, ⟨by (try simp only [hl9_3]); exact Kd.R_mono HO_9.out (fun _ hk => ⟨hk.1.1, hk.1.2⟩)⟩, ⟨by (try simp only [hl9_3]); exact Kd.R_mono HO_10.out (fun _ hk => ⟨hk.1.1, hk.1.2⟩)⟩, ⟨by (try simp only [hl9_3]); exact BK303.out⟩, ⟨bl1 HB GE303⟩⟩
    rw [if_pos c46] at H
    have c46b0 : decide ((rd (rd_L3 x6_1 (ji41)) x12_3) < 99999) = true := decide_eq_true c46
    clear c46
    by_cases c47 : 0 ≤ x8_1
    rotate_left
    ·rw [if_neg c47] at H
     exact absurd H (by simp)
    rw [if_pos c47] at H
    have c47b0 : decide (0 ≤ x8_1) = true := decide_eq_true c47
    clear c47
    by_cases c48 : x8_1 < (l1.length : Int)
    rotate_left
    ·rw [if_neg c48] at H
     exact absurd H (by simp)
    rw [if_pos c48] at H
    have c48b0 : decide (x8_1 < (l1.length : Int)) = true := decide_eq_true c48
    clear c48
    by_cases c49 : x11_2 < ((rd_L3 l1 x8_1).length : Int)
    rotate_left
    ·rw [if_neg c49] at H
     exact absurd H (by simp)
    rw [if_pos c49] at H
    have c49b0 : decide (x11_2 < ((rd_L3 l1 x8_1).length : Int)) = true := decide_eq_true c49
    clear c49
    by_cases c50 : x11_2 < (x9_3.length : Int)
    rotate_left
    ·rw [if_neg c50] at H
     exact absurd H (by simp)
    rw [if_pos c50] at H
    have c50b0 : decide (x11_2 < (x9_3.length : Int)) = true := decide_eq_true c50
    clear c50
    by_cases c51 : (wrap64 ((wrap64 ((rd (rd_L3 x6_1 (ji41)) x12_3) + (rd t333 x11_2))) + (rd (rd_L3 l1 x8_1) x11_2))) < (rd x9_3 x11_2)
    rotate_left
    ·rw [if_neg c51] at H
     have c51b0 : decide ((wrap64 ((wrap64 ((rd (rd_L3 x6_1 (ji41)) x12_3) + (rd t333 x11_2))) + (rd (rd_L3 l1 x8_1) x11_2))) < (rd x9_3 x11_2)) = false := decide_eq_false c51
     clear c51
     have H' := ak H
     clear H
     have hcz65_0 := bc wr BK303 0 (.int .i64 a0_0) rfl
     have hcz65_1 := bc wr BK303 1 (.slice A0_1 l0_1.length c0_1) rfl
     have hfz65_0 := fz BK303 0
     have hfz65_1 := fz BK303 1
     try go_wp2_with (((with_reducible refine gate_callee (f := 76) rfl ?_); refine goesL_ (some 53) rfl rfl Try.func76 (by kernel_rfl) rfl #[.agg #[.int .i64 a0_0, .slice A0_1 l0_1.length c0_1], .int .i64 x12_3] rfl (by (try simp only [List.map_toArray, List.map_cons, List.map_nil]); rfl) ?_; (with_reducible refine (spec_l3All.calls k3 a0_0 _ _ l0_1 x12_3 t333 _ ?side1 ?side2 A37.out).mono ?_); (case side1 => repeat (exact (Kd.C_below HR0_1.out HB.out))); (case side2 => exact HC0_1.out); rintro e w66 ⟨v334, rfl, ho0, hb⟩; refine ⟨_, rfl, ?_⟩; replace HO_6 := ak (Kd.N_elder' (by exact HO_6.out) (Kd.R_base ho0) hb); replace HO_7 := ak (Kd.N_elder' (by exact HO_7.out) (Kd.R_base ho0) hb); have HO335 := ak (Kd.R_lower (Kd.R_new' (Kd.R_new' (Kd.R_newM (M := fun k_ => (w.heap.size ≤ k_)) ho0 (below_size (bl1 HB GE303)) (fun k_ h_ => h_)) (Kd.R_lt (rk HO_9))) (Kd.R_lt (rk HO_10))) (below_size (bl1 HB GE303))); replace HO_9 := ak (Kd.R_elder' (rk HO_9) (Kd.R_base ho0) hb); replace HO_10 := ak (Kd.R_elder' (rk HO_10) (Kd.R_base ho0) hb); replace BK303 := ak (blk_below (bk BK303) hb); replace HB := ak (below_step (bl1 HB GE303) hb); (try clear hb); (try clear hb2); (try clear hk); (try clear hi); (try clear ho0); obtain ⟨Ao67, co67, eo67⟩ := Kd.R_slice HO335.out; subst eo67; have p336 : 0 ≤ (x11_2 : Int) := oT (by (with_reducible assumption)); have q336 : x11_2 < (t333.length : Int) := oT (by (with_reducible assumption)); obtain ⟨ad336, e336, hx336_0⟩ := Kd.at_int (Kd.R_reads' HO335.out).2.2 x11_2 p336 q336; cases e336; replace p336 := eq_true p336; replace q336 := eq_true q336))
     replace HO_6 := ak (Kd.N_drew HO_6.out)
     replace HO_7 := ak (Kd.N_drew HO_7.out)
     replace HO_9 := ak (Kd.R_drew HO_9.out)
     replace HO_10 := ak (Kd.R_drew HO_10.out)
     replace HO335 := ak (Kd.R_drew HO335.out)
     replace BK303 := ak (blk_drew BK303.out)
     replace HB := ak (below_drew1 HB.out)
     obtain ⟨Ao69, co69, eo69⟩ := Kd.N_slice HO_6.out
     (subst eo69)
     have p337 : 0 ≤ ((ji41) : Int) := oT (by (with_reducible assumption))
     have q337 : (ji41) < (x6_1.length : Int) := oT (by (with_reducible assumption))
     obtain ⟨ad337, A337_0, c337_0, e337, hx337_0, hl337_0, hi337_0⟩ := at_L3 (Kd.N_reads' HO_6.out).2.2 (ji41) p337 q337
     cases e337
     obtain ⟨ce337, hce337, hMe337, hcc337⟩ := Kd.N_get HO_6.out [] (ji41) p337 (by exact q337)
     obtain ⟨ua337_0, uc337_0, rfl, ul337_0, ge337_0⟩ := Kd.FK_slice_open hMe337
     have hv337_0 := hcc337 0 _ rfl
     rw [Nat.add_zero, show ((Kd.slice 3 (Kd.int .i64))).sz = 1 from rfl, Nat.mul_one] at hv337_0
     replace hv337_0 := Option.some.inj (hv337_0.symm.trans hx337_0)
     injection hv337_0 with hva_ hvn_ hvc_
     rw [hva_] at ge337_0
     rw [hvc_] at ul337_0
     have HL337_0 := ak (show Kd.V (Kd.int .i64) 3 _ w.heap.size _ _ (rd_L3 x6_1 (ji41)) from Kd.V_mk ul337_0 ge337_0)
     clear hva_ hvn_ hvc_ ge337_0 ul337_0
     clear hcc337 hce337
     have HR337_0 := ak hi337_0
     have HC337_0 := ak hl337_0
     clear hi337_0 hl337_0
     replace p337 := eq_true p337
     replace q337 := eq_true q337
     have p338 : 0 ≤ (x12_3 : Int) := oT (by (with_reducible assumption))
     have q338 : x12_3 < ((rd_L3 x6_1 (ji41)).length : Int) := oT (by (with_reducible assumption))
     obtain ⟨ad338, e338, hx338_0⟩ := Kd.at_int (by repeat ((with_reducible exact HR337_0.out))) x12_3 p338 q338
     cases e338
     replace p338 := eq_true p338
     replace q338 := eq_true q338
     have p339 : 0 ≤ ((ji41) : Int) := oT (by (with_reducible assumption))
     have q339 : (ji41) < (x6_1.length : Int) := oT (by (with_reducible assumption))
     obtain ⟨ad339, A339_0, c339_0, e339, hx339_0, hl339_0, hi339_0⟩ := at_L3 (Kd.N_reads' HO_6.out).2.2 (ji41) p339 q339
     obtain rfl : ad337 = ad339 := (by injection e339)
     obtain ⟨ce339, hce339, hMe339, hcc339⟩ := Kd.N_get HO_6.out [] (ji41) p339 (by exact q339)
     obtain ⟨ua339_0, uc339_0, rfl, ul339_0, ge339_0⟩ := Kd.FK_slice_open hMe339
     have hv339_0 := hcc339 0 _ rfl
     rw [Nat.add_zero, show ((Kd.slice 3 (Kd.int .i64))).sz = 1 from rfl, Nat.mul_one] at hv339_0
     replace hv339_0 := Option.some.inj (hv339_0.symm.trans hx339_0)
     injection hv339_0 with hva_ hvn_ hvc_
     rw [hva_] at ge339_0
     rw [hvc_] at ul339_0
     have HL339_0 := ak (show Kd.V (Kd.int .i64) 3 _ w.heap.size _ _ (rd_L3 x6_1 (ji41)) from Kd.V_mk ul339_0 ge339_0)
     clear hva_ hvn_ hvc_ ge339_0 ul339_0
     clear hcc339 hce339
     have HR339_0 := ak hi339_0
     have HC339_0 := ak hl339_0
     clear hi339_0 hl339_0
     replace p339 := eq_true p339
     replace q339 := eq_true q339
     have ea_ := Option.some.inj (hx337_0.symm.trans hx339_0)
     injection ea_ with ea_ en_ ec_
     subst ea_
     subst ec_
     clear en_
     have p340 : 0 ≤ (x12_3 : Int) := oT (by (with_reducible assumption))
     have q340 : x12_3 < ((rd_L3 x6_1 (ji41)).length : Int) := oT (by (with_reducible assumption))
     obtain ⟨ad340, e340, hx340_0⟩ := Kd.at_int (by repeat ((with_reducible exact HR339_0.out))) x12_3 p340 q340
     cases e340
     replace p340 := eq_true p340
     replace q340 := eq_true q340
     have p341 : 0 ≤ (x8_1 : Int) := oT (by (with_reducible assumption))
     have q341 : x8_1 < (l1.length : Int) := oT (by (with_reducible assumption))
     obtain ⟨ad341, A341_0, c341_0, e341, hx341_0, hl341_0, hi341_0⟩ := at_L3 HR1.out x8_1 p341 q341
     have hw341_0 := hx341_0
     obtain rfl : ad307 = ad341 := (by injection e341)
     replace hx341_0 := hcb HB.out hx341_0
     have HR341_0 := ak hi341_0
     have HC341_0 := ak hl341_0
     clear hi341_0 hl341_0
     replace p341 := eq_true p341
     replace q341 := eq_true q341
     have p342 : 0 ≤ (x11_2 : Int) := oT (by (with_reducible assumption))
     have q342 : x11_2 < ((rd_L3 l1 x8_1).length : Int) := oT (by (with_reducible assumption))
     obtain ⟨ad342, e342, hx342_0⟩ := Kd.at_int HR341_0.out x11_2 p342 q342
     have hw342_0 := hx342_0
     cases e342
     replace hx342_0 := hcb HB.out hx342_0
     replace p342 := eq_true p342
     replace q342 := eq_true q342
     have p343 : 0 ≤ (x11_2 : Int) := oT (by (with_reducible assumption))
     have q343 : x11_2 < (x9_3.length : Int) := oT (by (with_reducible assumption))
     obtain ⟨ad343, e343, hx343_0⟩ := Kd.at_int (Kd.R_reads' HO_9.out).2.2 x11_2 p343 q343
     obtain rfl : (⟨go32, 0, none⟩ : Addr) = ad343 := (by injection e343)
     (simp only [add_plain] at hx343_0)
     replace p343 := eq_true p343
     replace q343 := eq_true q343
     refine start_ (n := 38) (S := fun w' => w'.cell? (ad337.add ((ji41)).toNat) = some (.slice (some ad338) (rd_L3 x6_1 (ji41)).length c337_0) ∧ w'.cell? (ad338.add (x12_3).toNat) = some (.int .i64 (rd (rd_L3 x6_1 (ji41)) x12_3)) ∧ w'.cell? (ad337.add ((ji41)).toNat) = some (.slice (some ad338) (rd_L3 x6_1 (ji41)).length c337_0) ∧ w'.cell? (ad338.add (x12_3).toNat) = some (.int .i64 (rd (rd_L3 x6_1 (ji41)) x12_3)) ∧ w'.cell? (ad307.add (x8_1).toNat) = some (.slice (some ad342) (rd_L3 l1 x8_1).length c341_0) ∧ w'.cell? (ad342.add (x11_2).toNat) = some (.int .i64 (rd (rd_L3 l1 x8_1) x11_2)) ∧ w'.cell? ⟨go32, (x11_2).toNat, none⟩ = some (.int .i64 (rd x9_3 x11_2))) (ds := []) (ms 38 0) (by kernel_rfl) rfl (by kernel_rfl) ⟨hx337_0, hx338_0, hx339_0, hx340_0, ((HB.out.cell (World.block_lt_of_cell? w _ hw341_0)).trans hw341_0), ((HB.out.cell (World.block_lt_of_cell? w _ hw342_0)).trans hw342_0), hx343_0⟩ (fun hHeld => ?_); refine with_tabW spec_l15Rows.tab16 spec_l15Rows.bits16 (fun HT_ HW_ => ?_)
     generalize w66.drew = w68 at HO_6 HO_7 HO_9 HO_10 HO335 BK303 HB HL337_0 HL339_0 HR337_0 HR339_0 HR341_0 hx337_0 hx338_0 hx339_0 hx340_0 hx341_0 hx342_0 hx343_0 hHeld ⊢
     refine pu 0 57 ?_ (ms 38 1) rfl rfl HT_ (by kernel_rfl) (fun _ _ _ h => h) (by rfl) ?_ ?_ ?_ ?_
     rotate_left
     ·intro w'
      go_simp
      with_reducible rfl
     rotate_left
     ·simp only [SX]
      rfl
     refine pu 1 58 ?_ (ms 38 3) rfl rfl HT_ (by kernel_rfl) (fun _ _ _ h => h) (by rfl) ?_ ?_ ?_ ?_
     rotate_left
     ·intro w'
      go_simp
      with_reducible rfl
     rotate_left
     ·simp only [SX]
      rfl
     refine pu 2 59 ?_ (ms 38 7) rfl rfl HT_ (by kernel_rfl) (fun _ _ _ h => h) (by rfl) ?_ ?_ ?_ ?_
     rotate_left
     ·intro w'
      go_simp
      with_reducible rfl
     rotate_left
     ·simp only [SX]
      rfl
     refine pu 3 60 ?_ (ms 38 15) rfl rfl HT_ (by kernel_rfl) (fun _ _ _ h => h) (by rfl) ?_ ?_ ?_ ?_
     rotate_left
     ·intro w'
      go_simp
      with_reducible rfl
     rotate_left
     ·simp only [SX]
      rfl
     refine pu 4 61 ?_ (ms 38 31) rfl rfl HT_ (by kernel_rfl) (fun _ _ _ h => h) (by rfl) ?_ ?_ ?_ ?_
     rotate_left
     ·intro w'
      go_simp
      with_reducible rfl
     rotate_left
     ·simp only [SX]
      rfl
     refine pu 5 62 ?_ (ms 38 63) rfl rfl HT_ (by kernel_rfl) (fun _ _ _ h => h) (by rfl) ?_ ?_ ?_ ?_
     rotate_left
     ·intro w'
      go_simp
      with_reducible rfl
     rotate_left
     ·simp only [SX]
      rfl
     refine pu 6 63 ?_ (ms 38 127) rfl rfl HT_ (by kernel_rfl) (fun _ _ _ h => h) (by rfl) ?_ ?_ ?_ ?_
     rotate_left
     ·intro w'
      go_simp
      with_reducible rfl
     rotate_left
     ·simp only [SX]
      rfl
     refine pu 8 65 ?_ (ms 38 383) rfl rfl HT_ (by kernel_rfl) (fun _ _ _ h => h) (by rfl) ?_ ?_ ?_ ?_
     rotate_left
     ·intro w'
      go_simp
      with_reducible rfl
     rotate_left
     ·simp only [SX]
      rfl
     refine tk 7 64 ?_ (ms 38 511) rfl rfl HT_ HW_ (by kernel_rfl) (fun _ _ _ h => h) (by rfl) ?_ hHeld ?_ ?_ ?_
     rotate_left
     ·rintro w' ⟨s0, s1, s2, s3, s4, s5, s6⟩
      go_simp
      with_reducible rfl
     rotate_left
     ·simp only [SX]
      rfl
     refine pu 9 66 ?_ (ms 38 1023) rfl rfl HT_ (by kernel_rfl) (fun _ _ _ h => h) (by rfl) ?_ ?_ ?_ ?_
     rotate_left
     ·intro w'
      go_simp
      with_reducible rfl
     rotate_left
     ·simp only [SX]
      rfl
     refine tk 10 67 ?_ (ms 38 2047) rfl rfl HT_ HW_ (by kernel_rfl) (fun _ _ _ h => h) (by rfl) ?_ hHeld ?_ ?_ ?_
     rotate_left
     ·rintro w' ⟨s0, s1, s2, s3, s4, s5, s6⟩
      go_simp
      with_reducible rfl
     rotate_left
     ·simp only [SX]
      rfl
     refine pu 11 68 ?_ (ms 38 4095) rfl rfl HT_ (by kernel_rfl) (fun _ _ _ h => h) (by rfl) ?_ ?_ ?_ ?_
     rotate_left
     ·intro w'
      go_simp
      with_reducible rfl
     rotate_left
     ·simp only [SX]
      rfl
     refine pu 12 69 ?_ (ms 38 8191) rfl rfl HT_ (by kernel_rfl) (fun _ _ _ h => h) (by rfl) ?_ ?_ ?_ ?_
     rotate_left
     ·intro w'
      go_simp
      with_reducible rfl
     rotate_left
     ·simp only [SX]
      rfl
     refine pu 13 70 ?_ (ms 38 16383) rfl rfl HT_ (by kernel_rfl) (fun _ _ _ h => h) (by rfl) ?_ ?_ ?_ ?_
     rotate_left
     ·intro w'
      go_simp
      with_reducible rfl
     rotate_left
     ·simp only [SX]
      rfl
     refine pu 14 71 ?_ (ms 38 32767) rfl rfl HT_ (by kernel_rfl) (fun _ _ _ h => h) (by rfl) ?_ ?_ ?_ ?_
     rotate_left
     ·intro w'
      go_simp
      with_reducible rfl
     rotate_left
     ·simp only [SX]
      rfl
     refine pu 15 72 ?_ (ms 38 65535) rfl rfl HT_ (by kernel_rfl) (fun _ _ _ h => h) (by rfl) ?_ ?_ ?_ ?_
     rotate_left
     ·intro w'
      go_simp
      with_reducible rfl
     rotate_left
     ·simp only [SX]
      rfl
     refine pu 16 73 ?_ (ms 38 131071) rfl rfl HT_ (by kernel_rfl) (fun _ _ _ h => h) (by rfl) ?_ ?_ ?_ ?_
     rotate_left
     ·intro w'
      go_simp
      with_reducible rfl
     rotate_left
     ·simp only [SX]
      rfl
     refine pu 17 74 ?_ (ms 38 262143) rfl rfl HT_ (by kernel_rfl) (fun _ _ _ h => h) (by rfl) ?_ ?_ ?_ ?_
     rotate_left
     ·intro w'
      go_simp
      with_reducible rfl
     rotate_left
     ·simp only [SX]
      rfl
     refine pu 19 76 ?_ (ms 38 786431) rfl rfl HT_ (by kernel_rfl) (fun _ _ _ h => h) (by rfl) ?_ ?_ ?_ ?_
     rotate_left
     ·intro w'
      go_simp
      with_reducible rfl
     rotate_left
     ·simp only [SX]
      rfl
     refine pu 22 79 ?_ (ms 38 4980735) rfl rfl HT_ (by kernel_rfl) (fun _ _ _ h => h) (by rfl) ?_ ?_ ?_ ?_
     rotate_left
     ·intro w'
      go_simp
      with_reducible rfl
     rotate_left
     ·simp only [SX]
      rfl
     refine pu 24 81 ?_ (ms 38 21757951) rfl rfl HT_ (by kernel_rfl) (fun _ _ _ h => h) (by rfl) ?_ ?_ ?_ ?_
     rotate_left
     ·intro w'
      go_simp
      with_reducible rfl
     rotate_left
     ·simp only [SX]
      rfl
     refine pu 25 82 ?_ (ms 38 55312383) rfl rfl HT_ (by kernel_rfl) (fun _ _ _ h => h) (by rfl) ?_ ?_ ?_ ?_
     rotate_left
     ·intro w'
      go_simp
      with_reducible rfl
     rotate_left
     ·simp only [SX]
      rfl
     refine pu 26 83 ?_ (ms 38 122421247) rfl rfl HT_ (by kernel_rfl) (fun _ _ _ h => h) (by rfl) ?_ ?_ ?_ ?_
     rotate_left
     ·intro w'
      go_simp
      with_reducible rfl
     rotate_left
     ·simp only [SX]
      rfl
     refine pu 28 85 ?_ (ms 38 390856703) rfl rfl HT_ (by kernel_rfl) (fun _ _ _ h => h) (by rfl) ?_ ?_ ?_ ?_
     rotate_left
     ·intro w'
      go_simp
      with_reducible rfl
     rotate_left
     ·simp only [SX]
      rfl
     refine pu 32 89 ?_ (ms 38 4685823999) rfl rfl HT_ (by kernel_rfl) (fun _ _ _ h => h) (by rfl) ?_ ?_ ?_ ?_
     rotate_left
     ·intro w'
      go_simp
      with_reducible rfl
     rotate_left
     ·simp only [SX]
      rfl
     refine pu 33 90 ?_ (ms 38 13275758591) rfl rfl HT_ (by kernel_rfl) (fun _ _ _ h => h) (by rfl) ?_ ?_ ?_ ?_
     rotate_left
     ·intro w'
      go_simp
      with_reducible rfl
     rotate_left
     ·simp only [SX]
      rfl
     refine pu 34 91 ?_ (ms 38 30455627775) rfl rfl HT_ (by kernel_rfl) (fun _ _ _ h => h) (by rfl) ?_ ?_ ?_ ?_
     rotate_left
     ·intro w'
      go_simp
      with_reducible rfl
     rotate_left
     ·simp only [SX]
      rfl
     refine tk 18 75 ?_ (ms 38 30455889919) rfl rfl HT_ HW_ (by kernel_rfl) (fun _ _ _ h => h) (by rfl) ?_ hHeld ?_ ?_ ?_
     rotate_left
     ·rintro w' ⟨s0, s1, s2, s3, s4, s5, s6⟩
      go_simp
      with_reducible rfl
     rotate_left
     ·simp only [SX]
      rfl
     refine pu 20 77 ?_ (ms 38 30456938495) rfl rfl HT_ (by kernel_rfl) (fun _ _ _ h => h) (by rfl) ?_ ?_ ?_ ?_
     rotate_left
     ·intro w'
      go_simp
      with_reducible rfl
     rotate_left
     ·simp only [SX]
      rfl
     refine tk 21 78 ?_ (ms 38 30459035647) rfl rfl HT_ HW_ (by kernel_rfl) (fun _ _ _ h => h) (by rfl) ?_ hHeld ?_ ?_ ?_
     rotate_left
     ·rintro w' ⟨s0, s1, s2, s3, s4, s5, s6⟩
      go_simp
      with_reducible rfl
     rotate_left
     ·simp only [SX]
      rfl
     refine pu 23 80 ?_ (ms 38 30467424255) rfl rfl HT_ (by kernel_rfl) (fun _ _ _ h => h) (by rfl) ?_ ?_ ?_ ?_
     rotate_left
     ·intro w'
      go_simp
      with_reducible rfl
     rotate_left
     ·simp only [SX]
      rfl
     refine tk 27 84 ?_ (ms 38 30601641983) rfl rfl HT_ HW_ (by kernel_rfl) (fun _ _ _ h => h) (by rfl) ?_ hHeld ?_ ?_ ?_
     rotate_left
     ·rintro w' ⟨s0, s1, s2, s3, s4, s5, s6⟩
      go_simp
      with_reducible rfl
     rotate_left
     ·simp only [SX]
      rfl
     refine pu 29 86 ?_ (ms 38 31138512895) rfl rfl HT_ (by kernel_rfl) (fun _ _ _ h => h) (by rfl) ?_ ?_ ?_ ?_
     rotate_left
     ·intro w'
      go_simp
      with_reducible rfl
     rotate_left
     ·simp only [SX]
      rfl
     refine tk 30 87 ?_ (ms 38 32212254719) rfl rfl HT_ HW_ (by kernel_rfl) (fun _ _ _ h => h) (by rfl) ?_ hHeld ?_ ?_ ?_
     rotate_left
     ·rintro w' ⟨s0, s1, s2, s3, s4, s5, s6⟩
      go_simp
      with_reducible rfl
     rotate_left
     ·simp only [SX]
      rfl
     refine pu 31 88 ?_ (ms 38 34359738367) rfl rfl HT_ (by kernel_rfl) (fun _ _ _ h => h) (by rfl) ?_ ?_ ?_ ?_
     rotate_left
     ·intro w'
      go_simp
      with_reducible rfl
     rotate_left
     ·simp only [SX]
      rfl
     refine tk 35 92 ?_ (ms 38 68719476735) rfl rfl HT_ HW_ (by kernel_rfl) (fun _ _ _ h => h) (by rfl) ?_ hHeld ?_ ?_ ?_
     rotate_left
     ·rintro w' ⟨s0, s1, s2, s3, s4, s5, s6⟩
      go_simp
      with_reducible rfl
     rotate_left
     ·simp only [SX]
      rfl
     refine pu 36 93 ?_ (ms 38 137438953471) rfl rfl HT_ (by kernel_rfl) (fun _ _ _ h => h) (by rfl) ?_ ?_ ?_ ?_
     rotate_left
     ·intro w'
      go_simp
      with_reducible rfl
     rotate_left
     ·simp only [SX]
      rfl
     refine pu 37 94 ?_ (ms 38 274877906943) rfl rfl HT_ (by kernel_rfl) (fun _ _ _ h => h) (by rfl) ?_ ?_ ?_ ?_
     rotate_left
     ·intro w'
      go_simp
      with_reducible rfl
     rotate_left
     ·simp only [SX]
      rfl
     refine done_ (done_of HT_.out (by kernel_rfl)) ?_
     try go_wp2
     (try simp only [← hl9_3])
     go_roundg k3
     case measure => have := HK1.out; have := HK2.out; have := HK3.out; omega
     case rel => exact ⟨(x9_3), (x10_3), (wrap64 (x12_3 + 1)), (by rfl), H', ⟨by have := HK1.out; have := HK2.out; have := HK3.out; omega⟩, ⟨by (try simp only [hl9_3]); exact Kd.N_mono HO_6.out (fun _ hk => ⟨hk.1.1, ⟨hk.1.2.1, ⟨hk.1.2.2.1, ⟨hk.1.2.2.2.1, hk.1.2.2.2.2⟩⟩⟩⟩)⟩, ⟨by (try simp only [hl9_3]); exact Kd.N_mono HO_7.out (fun _ hk => ⟨hk.1.1, ⟨hk.1.2.1, ⟨hk.1.2.2.1, ⟨hk.1.2.2.2.1, hk.1.2.2.2.2⟩⟩⟩⟩)⟩, ⟨by (try simp only [hl9_3]); exact Kd.R_mono HO_9.out (fun _ hk => ⟨hk.1.1, hk.1.2⟩)⟩, ⟨by (try simp only [hl9_3]); exact Kd.R_mono HO_10.out (fun _ hk => ⟨hk.1.1, hk.1.2⟩)⟩, ⟨by (try simp only [hl9_3]); exact BK303.out⟩, ⟨bl1 HB GE303⟩⟩
    rw [if_pos c51] at H
    have c51b0 : decide ((wrap64 ((wrap64 ((rd (rd_L3 x6_1 (ji41)) x12_3) + (rd t333 x11_2))) + (rd (rd_L3 l1 x8_1) x11_2))) < (rd x9_3 x11_2)) = true := decide_eq_true c51
    clear c51
    obtain ⟨y348, hy348⟩ : ∃ y_ : List Int, y_ = (x9_3.set (x11_2 : Int).toNat (wrap64 ((wrap64 ((rd (rd_L3 x6_1 (ji41)) x12_3) + (rd t333 x11_2))) + (rd (rd_L3 l1 x8_1) x11_2)))) := ⟨_, rfl⟩
    replace H : (if x11_2 < (x10_3.length : Int) then (spec_l15Rows.l2 k3 l1 x6_1 x7_1 x8_1 y348 (x10_3.set (x11_2 : Int).toNat x12_3) x11_2 (wrap64 (x12_3 + 1)) a0_0 l0_1) else (none)) = some (r1, r2) := by (rw [hy348]; with_reducible exact H)
    have Ny348 := ak hy348
    clear hy348
    by_cases c53 : x11_2 < (x10_3.length : Int)
    rotate_left
    ·rw [if_neg c53] at H
     exact absurd H (by simp)
    rw [if_pos c53] at H
    have c53b0 : decide (x11_2 < (x10_3.length : Int)) = true := decide_eq_true c53
    clear c53
    obtain ⟨y349, hy349⟩ : ∃ y_ : List Int, y_ = (x10_3.set (x11_2 : Int).toNat x12_3) := ⟨_, rfl⟩
    replace H : (spec_l15Rows.l2 k3 l1 x6_1 x7_1 x8_1 y348 y349 x11_2 (wrap64 (x12_3 + 1)) a0_0 l0_1) = some (r1, r2) := by (rw [hy349]; with_reducible exact H)
    have Ny349 := ak hy349
    clear hy349
    have H' := ak H
    clear H
    have hcz55_0 := bc wr BK303 0 (.int .i64 a0_0) rfl
    have hcz55_1 := bc wr BK303 1 (.slice A0_1 l0_1.length c0_1) rfl
    have hfz55_0 := fz BK303 0
    have hfz55_1 := fz BK303 1
    try go_wp2_with (((with_reducible refine gate_callee (f := 76) rfl ?_); refine goesL_ (some 53) rfl rfl Try.func76 (by kernel_rfl) rfl #[.agg #[.int .i64 a0_0, .slice A0_1 l0_1.length c0_1], .int .i64 x12_3] rfl (by (try simp only [List.map_toArray, List.map_cons, List.map_nil]); rfl) ?_; (with_reducible refine (spec_l3All.calls k3 a0_0 _ _ l0_1 x12_3 t333 _ ?side1 ?side2 A37.out).mono ?_); (case side1 => repeat (exact (Kd.C_below HR0_1.out HB.out))); (case side2 => exact HC0_1.out); rintro e w56 ⟨v334, rfl, ho0, hb⟩; refine ⟨_, rfl, ?_⟩; replace HO_6 := ak (Kd.N_elder' (by exact HO_6.out) (Kd.R_base ho0) hb); replace HO_7 := ak (Kd.N_elder' (by exact HO_7.out) (Kd.R_base ho0) hb); have HO335 := ak (Kd.R_lower (Kd.R_new' (Kd.R_new' (Kd.R_newM (M := fun k_ => (w.heap.size ≤ k_)) ho0 (below_size (bl1 HB GE303)) (fun k_ h_ => h_)) (Kd.R_lt (rk HO_9))) (Kd.R_lt (rk HO_10))) (below_size (bl1 HB GE303))); replace HO_9 := ak (Kd.R_elder' (rk HO_9) (Kd.R_base ho0) hb); replace HO_10 := ak (Kd.R_elder' (rk HO_10) (Kd.R_base ho0) hb); replace BK303 := ak (blk_below (bk BK303) hb); replace HB := ak (below_step (bl1 HB GE303) hb); (try clear hb); (try clear hb2); (try clear hk); (try clear hi); (try clear ho0); obtain ⟨Ao57, co57, eo57⟩ := Kd.R_slice HO335.out; subst eo57; have p336 : 0 ≤ (x11_2 : Int) := oT (by (with_reducible assumption)); have q336 : x11_2 < (t333.length : Int) := oT (by (with_reducible assumption)); obtain ⟨ad336, e336, hx336_0⟩ := Kd.at_int (Kd.R_reads' HO335.out).2.2 x11_2 p336 q336; cases e336; replace p336 := eq_true p336; replace q336 := eq_true q336))
    replace HO_6 := ak (Kd.N_drew HO_6.out)
    replace HO_7 := ak (Kd.N_drew HO_7.out)
    replace HO_9 := ak (Kd.R_drew HO_9.out)
    replace HO_10 := ak (Kd.R_drew HO_10.out)
    replace HO335 := ak (Kd.R_drew HO335.out)
    replace BK303 := ak (blk_drew BK303.out)
    replace HB := ak (below_drew1 HB.out)
    obtain ⟨Ao59, co59, eo59⟩ := Kd.N_slice HO_6.out
    (subst eo59)
    have p337 : 0 ≤ ((ji41) : Int) := oT (by (with_reducible assumption))
    have q337 : (ji41) < (x6_1.length : Int) := oT (by (with_reducible assumption))
    obtain ⟨ad337, A337_0, c337_0, e337, hx337_0, hl337_0, hi337_0⟩ := at_L3 (Kd.N_reads' HO_6.out).2.2 (ji41) p337 q337
    cases e337
    obtain ⟨ce337, hce337, hMe337, hcc337⟩ := Kd.N_get HO_6.out [] (ji41) p337 (by exact q337)
    obtain ⟨ua337_0, uc337_0, rfl, ul337_0, ge337_0⟩ := Kd.FK_slice_open hMe337
    have hv337_0 := hcc337 0 _ rfl
    rw [Nat.add_zero, show ((Kd.slice 3 (Kd.int .i64))).sz = 1 from rfl, Nat.mul_one] at hv337_0
    replace hv337_0 := Option.some.inj (hv337_0.symm.trans hx337_0)
    injection hv337_0 with hva_ hvn_ hvc_
    rw [hva_] at ge337_0
    rw [hvc_] at ul337_0
    have HL337_0 := ak (show Kd.V (Kd.int .i64) 3 _ w.heap.size _ _ (rd_L3 x6_1 (ji41)) from Kd.V_mk ul337_0 ge337_0)
    clear hva_ hvn_ hvc_ ge337_0 ul337_0
    clear hcc337 hce337
    have HR337_0 := ak hi337_0
    have HC337_0 := ak hl337_0
    clear hi337_0 hl337_0
    replace p337 := eq_true p337
    replace q337 := eq_true q337
    have p338 : 0 ≤ (x12_3 : Int) := oT (by (with_reducible assumption))
    have q338 : x12_3 < ((rd_L3 x6_1 (ji41)).length : Int) := oT (by (with_reducible assumption))
    obtain ⟨ad338, e338, hx338_0⟩ := Kd.at_int (by repeat ((with_reducible exact HR337_0.out))) x12_3 p338 q338
    cases e338
    replace p338 := eq_true p338
    replace q338 := eq_true q338
    have p339 : 0 ≤ ((ji41) : Int) := oT (by (with_reducible assumption))
    have q339 : (ji41) < (x6_1.length : Int) := oT (by (with_reducible assumption))
    obtain ⟨ad339, A339_0, c339_0, e339, hx339_0, hl339_0, hi339_0⟩ := at_L3 (Kd.N_reads' HO_6.out).2.2 (ji41) p339 q339
    obtain rfl : ad337 = ad339 := (by injection e339)
    obtain ⟨ce339, hce339, hMe339, hcc339⟩ := Kd.N_get HO_6.out [] (ji41) p339 (by exact q339)
    obtain ⟨ua339_0, uc339_0, rfl, ul339_0, ge339_0⟩ := Kd.FK_slice_open hMe339
    have hv339_0 := hcc339 0 _ rfl
    rw [Nat.add_zero, show ((Kd.slice 3 (Kd.int .i64))).sz = 1 from rfl, Nat.mul_one] at hv339_0
    replace hv339_0 := Option.some.inj (hv339_0.symm.trans hx339_0)
    injection hv339_0 with hva_ hvn_ hvc_
    rw [hva_] at ge339_0
    rw [hvc_] at ul339_0
    have HL339_0 := ak (show Kd.V (Kd.int .i64) 3 _ w.heap.size _ _ (rd_L3 x6_1 (ji41)) from Kd.V_mk ul339_0 ge339_0)
    clear hva_ hvn_ hvc_ ge339_0 ul339_0
    clear hcc339 hce339
    have HR339_0 := ak hi339_0
    have HC339_0 := ak hl339_0
    clear hi339_0 hl339_0
    replace p339 := eq_true p339
    replace q339 := eq_true q339
    have ea_ := Option.some.inj (hx337_0.symm.trans hx339_0)
    injection ea_ with ea_ en_ ec_
    subst ea_
    subst ec_
    clear en_
    have p340 : 0 ≤ (x12_3 : Int) := oT (by (with_reducible assumption))
    have q340 : x12_3 < ((rd_L3 x6_1 (ji41)).length : Int) := oT (by (with_reducible assumption))
    obtain ⟨ad340, e340, hx340_0⟩ := Kd.at_int (by repeat ((with_reducible exact HR339_0.out))) x12_3 p340 q340
    cases e340
    replace p340 := eq_true p340
    replace q340 := eq_true q340
    have p341 : 0 ≤ (x8_1 : Int) := oT (by (with_reducible assumption))
    have q341 : x8_1 < (l1.length : Int) := oT (by (with_reducible assumption))
    obtain ⟨ad341, A341_0, c341_0, e341, hx341_0, hl341_0, hi341_0⟩ := at_L3 HR1.out x8_1 p341 q341
    have hw341_0 := hx341_0
    obtain rfl : ad307 = ad341 := (by injection e341)
    replace hx341_0 := hcb HB.out hx341_0
    have HR341_0 := ak hi341_0
    have HC341_0 := ak hl341_0
    clear hi341_0 hl341_0
    replace p341 := eq_true p341
    replace q341 := eq_true q341
    have p342 : 0 ≤ (x11_2 : Int) := oT (by (with_reducible assumption))
    have q342 : x11_2 < ((rd_L3 l1 x8_1).length : Int) := oT (by (with_reducible assumption))
    obtain ⟨ad342, e342, hx342_0⟩ := Kd.at_int HR341_0.out x11_2 p342 q342
    have hw342_0 := hx342_0
    cases e342
    replace hx342_0 := hcb HB.out hx342_0
    replace p342 := eq_true p342
    replace q342 := eq_true q342
    have p343 : 0 ≤ (x11_2 : Int) := oT (by (with_reducible assumption))
    have q343 : x11_2 < (x9_3.length : Int) := oT (by (with_reducible assumption))
    obtain ⟨ad343, e343, hx343_0⟩ := Kd.at_int (Kd.R_reads' HO_9.out).2.2 x11_2 p343 q343
    obtain rfl : (⟨go32, 0, none⟩ : Addr) = ad343 := (by injection e343)
    (simp only [add_plain] at hx343_0)
    replace p343 := eq_true p343
    replace q343 := eq_true q343
    refine start_ (n := 38) (S := fun w' => w'.cell? (ad337.add ((ji41)).toNat) = some (.slice (some ad338) (rd_L3 x6_1 (ji41)).length c337_0) ∧ w'.cell? (ad338.add (x12_3).toNat) = some (.int .i64 (rd (rd_L3 x6_1 (ji41)) x12_3)) ∧ w'.cell? (ad337.add ((ji41)).toNat) = some (.slice (some ad338) (rd_L3 x6_1 (ji41)).length c337_0) ∧ w'.cell? (ad338.add (x12_3).toNat) = some (.int .i64 (rd (rd_L3 x6_1 (ji41)) x12_3)) ∧ w'.cell? (ad307.add (x8_1).toNat) = some (.slice (some ad342) (rd_L3 l1 x8_1).length c341_0) ∧ w'.cell? (ad342.add (x11_2).toNat) = some (.int .i64 (rd (rd_L3 l1 x8_1) x11_2)) ∧ w'.cell? ⟨go32, (x11_2).toNat, none⟩ = some (.int .i64 (rd x9_3 x11_2))) (ds := []) (ms 38 0) (by kernel_rfl) rfl (by kernel_rfl) ⟨hx337_0, hx338_0, hx339_0, hx340_0, ((HB.out.cell (World.block_lt_of_cell? w _ hw341_0)).trans hw341_0), ((HB.out.cell (World.block_lt_of_cell? w _ hw342_0)).trans hw342_0), hx343_0⟩ (fun hHeld => ?_); refine with_tabW spec_l15Rows.tab16 spec_l15Rows.bits16 (fun HT_ HW_ => ?_)
    generalize w56.drew = w58 at HO_6 HO_7 HO_9 HO_10 HO335 BK303 HB HL337_0 HL339_0 HR337_0 HR339_0 HR341_0 hx337_0 hx338_0 hx339_0 hx340_0 hx341_0 hx342_0 hx343_0 hHeld ⊢
    refine pu 0 57 ?_ (ms 38 1) rfl rfl HT_ (by kernel_rfl) (fun _ _ _ h => h) (by rfl) ?_ ?_ ?_ ?_
    rotate_left
    ·intro w'
     go_simp
     with_reducible rfl
    rotate_left
    ·simp only [SX]
     rfl
    refine pu 1 58 ?_ (ms 38 3) rfl rfl HT_ (by kernel_rfl) (fun _ _ _ h => h) (by rfl) ?_ ?_ ?_ ?_
    rotate_left
    ·intro w'
     go_simp
     with_reducible rfl
    rotate_left
    ·simp only [SX]
     rfl
    refine pu 2 59 ?_ (ms 38 7) rfl rfl HT_ (by kernel_rfl) (fun _ _ _ h => h) (by rfl) ?_ ?_ ?_ ?_
    rotate_left
    ·intro w'
     go_simp
     with_reducible rfl
    rotate_left
    ·simp only [SX]
     rfl
    refine pu 3 60 ?_ (ms 38 15) rfl rfl HT_ (by kernel_rfl) (fun _ _ _ h => h) (by rfl) ?_ ?_ ?_ ?_
    rotate_left
    ·intro w'
     go_simp
     with_reducible rfl
    rotate_left
    ·simp only [SX]
     rfl
    refine pu 4 61 ?_ (ms 38 31) rfl rfl HT_ (by kernel_rfl) (fun _ _ _ h => h) (by rfl) ?_ ?_ ?_ ?_
    rotate_left
    ·intro w'
     go_simp
     with_reducible rfl
    rotate_left
    ·simp only [SX]
     rfl
    refine pu 5 62 ?_ (ms 38 63) rfl rfl HT_ (by kernel_rfl) (fun _ _ _ h => h) (by rfl) ?_ ?_ ?_ ?_
    rotate_left
    ·intro w'
     go_simp
     with_reducible rfl
    rotate_left
    ·simp only [SX]
     rfl
    refine pu 6 63 ?_ (ms 38 127) rfl rfl HT_ (by kernel_rfl) (fun _ _ _ h => h) (by rfl) ?_ ?_ ?_ ?_
    rotate_left
    ·intro w'
     go_simp
     with_reducible rfl
    rotate_left
    ·simp only [SX]
     rfl
    refine pu 8 65 ?_ (ms 38 383) rfl rfl HT_ (by kernel_rfl) (fun _ _ _ h => h) (by rfl) ?_ ?_ ?_ ?_
    rotate_left
    ·intro w'
     go_simp
     with_reducible rfl
    rotate_left
    ·simp only [SX]
     rfl
    refine tk 7 64 ?_ (ms 38 511) rfl rfl HT_ HW_ (by kernel_rfl) (fun _ _ _ h => h) (by rfl) ?_ hHeld ?_ ?_ ?_
    rotate_left
    ·rintro w' ⟨s0, s1, s2, s3, s4, s5, s6⟩
     go_simp
     with_reducible rfl
    rotate_left
    ·simp only [SX]
     rfl
    refine pu 9 66 ?_ (ms 38 1023) rfl rfl HT_ (by kernel_rfl) (fun _ _ _ h => h) (by rfl) ?_ ?_ ?_ ?_
    rotate_left
    ·intro w'
     go_simp
     with_reducible rfl
    rotate_left
    ·simp only [SX]
     rfl
    refine tk 10 67 ?_ (ms 38 2047) rfl rfl HT_ HW_ (by kernel_rfl) (fun _ _ _ h => h) (by rfl) ?_ hHeld ?_ ?_ ?_
    rotate_left
    ·rintro w' ⟨s0, s1, s2, s3, s4, s5, s6⟩
     go_simp
     with_reducible rfl
    rotate_left
    ·simp only [SX]
     rfl
    refine pu 11 68 ?_ (ms 38 4095) rfl rfl HT_ (by kernel_rfl) (fun _ _ _ h => h) (by rfl) ?_ ?_ ?_ ?_
    rotate_left
    ·intro w'
     go_simp
     with_reducible rfl
    rotate_left
    ·simp only [SX]
     rfl
    refine pu 12 69 ?_ (ms 38 8191) rfl rfl HT_ (by kernel_rfl) (fun _ _ _ h => h) (by rfl) ?_ ?_ ?_ ?_
    rotate_left
    ·intro w'
     go_simp
     with_reducible rfl
    rotate_left
    ·simp only [SX]
     rfl
    refine pu 13 70 ?_ (ms 38 16383) rfl rfl HT_ (by kernel_rfl) (fun _ _ _ h => h) (by rfl) ?_ ?_ ?_ ?_
    rotate_left
    ·intro w'
     go_simp
     with_reducible rfl
    rotate_left
    ·simp only [SX]
     rfl
    refine pu 14 71 ?_ (ms 38 32767) rfl rfl HT_ (by kernel_rfl) (fun _ _ _ h => h) (by rfl) ?_ ?_ ?_ ?_
    rotate_left
    ·intro w'
     go_simp
     with_reducible rfl
    rotate_left
    ·simp only [SX]
     rfl
    refine pu 15 72 ?_ (ms 38 65535) rfl rfl HT_ (by kernel_rfl) (fun _ _ _ h => h) (by rfl) ?_ ?_ ?_ ?_
    rotate_left
    ·intro w'
     go_simp
     with_reducible rfl
    rotate_left
    ·simp only [SX]
     rfl
    refine pu 16 73 ?_ (ms 38 131071) rfl rfl HT_ (by kernel_rfl) (fun _ _ _ h => h) (by rfl) ?_ ?_ ?_ ?_
    rotate_left
    ·intro w'
     go_simp
     with_reducible rfl
    rotate_left
    ·simp only [SX]
     rfl
    refine pu 17 74 ?_ (ms 38 262143) rfl rfl HT_ (by kernel_rfl) (fun _ _ _ h => h) (by rfl) ?_ ?_ ?_ ?_
    rotate_left
    ·intro w'
     go_simp
     with_reducible rfl
    rotate_left
    ·simp only [SX]
     rfl
    refine pu 19 76 ?_ (ms 38 786431) rfl rfl HT_ (by kernel_rfl) (fun _ _ _ h => h) (by rfl) ?_ ?_ ?_ ?_
    rotate_left
    ·intro w'
     go_simp
     with_reducible rfl
    rotate_left
    ·simp only [SX]
     rfl
    refine pu 22 79 ?_ (ms 38 4980735) rfl rfl HT_ (by kernel_rfl) (fun _ _ _ h => h) (by rfl) ?_ ?_ ?_ ?_
    rotate_left
    ·intro w'
     go_simp
     with_reducible rfl
    rotate_left
    ·simp only [SX]
     rfl
    refine pu 24 81 ?_ (ms 38 21757951) rfl rfl HT_ (by kernel_rfl) (fun _ _ _ h => h) (by rfl) ?_ ?_ ?_ ?_
    rotate_left
    ·intro w'
     go_simp
     with_reducible rfl
    rotate_left
    ·simp only [SX]
     rfl
    refine pu 25 82 ?_ (ms 38 55312383) rfl rfl HT_ (by kernel_rfl) (fun _ _ _ h => h) (by rfl) ?_ ?_ ?_ ?_
    rotate_left
    ·intro w'
     go_simp
     with_reducible rfl
    rotate_left
    ·simp only [SX]
     rfl
    refine pu 26 83 ?_ (ms 38 122421247) rfl rfl HT_ (by kernel_rfl) (fun _ _ _ h => h) (by rfl) ?_ ?_ ?_ ?_
    rotate_left
    ·intro w'
     go_simp
     with_reducible rfl
    rotate_left
    ·simp only [SX]
     rfl
    refine pu 28 85 ?_ (ms 38 390856703) rfl rfl HT_ (by kernel_rfl) (fun _ _ _ h => h) (by rfl) ?_ ?_ ?_ ?_
    rotate_left
    ·intro w'
     go_simp
     with_reducible rfl
    rotate_left
    ·simp only [SX]
     rfl
    refine pu 32 89 ?_ (ms 38 4685823999) rfl rfl HT_ (by kernel_rfl) (fun _ _ _ h => h) (by rfl) ?_ ?_ ?_ ?_
    rotate_left
    ·intro w'
     go_simp
     with_reducible rfl
    rotate_left
    ·simp only [SX]
     rfl
    refine pu 33 90 ?_ (ms 38 13275758591) rfl rfl HT_ (by kernel_rfl) (fun _ _ _ h => h) (by rfl) ?_ ?_ ?_ ?_
    rotate_left
    ·intro w'
     go_simp
     with_reducible rfl
    rotate_left
    ·simp only [SX]
     rfl
    refine pu 34 91 ?_ (ms 38 30455627775) rfl rfl HT_ (by kernel_rfl) (fun _ _ _ h => h) (by rfl) ?_ ?_ ?_ ?_
    rotate_left
    ·intro w'
     go_simp
     with_reducible rfl
    rotate_left
    ·simp only [SX]
     rfl
    refine tk 18 75 ?_ (ms 38 30455889919) rfl rfl HT_ HW_ (by kernel_rfl) (fun _ _ _ h => h) (by rfl) ?_ hHeld ?_ ?_ ?_
    rotate_left
    ·rintro w' ⟨s0, s1, s2, s3, s4, s5, s6⟩
     go_simp
     with_reducible rfl
    rotate_left
    ·simp only [SX]
     rfl
    refine pu 20 77 ?_ (ms 38 30456938495) rfl rfl HT_ (by kernel_rfl) (fun _ _ _ h => h) (by rfl) ?_ ?_ ?_ ?_
    rotate_left
    ·intro w'
     go_simp
     with_reducible rfl
    rotate_left
    ·simp only [SX]
     rfl
    refine tk 21 78 ?_ (ms 38 30459035647) rfl rfl HT_ HW_ (by kernel_rfl) (fun _ _ _ h => h) (by rfl) ?_ hHeld ?_ ?_ ?_
    rotate_left
    ·rintro w' ⟨s0, s1, s2, s3, s4, s5, s6⟩
     go_simp
     with_reducible rfl
    rotate_left
    ·simp only [SX]
     rfl
    refine pu 23 80 ?_ (ms 38 30467424255) rfl rfl HT_ (by kernel_rfl) (fun _ _ _ h => h) (by rfl) ?_ ?_ ?_ ?_
    rotate_left
    ·intro w'
     go_simp
     with_reducible rfl
    rotate_left
    ·simp only [SX]
     rfl
    refine tk 27 84 ?_ (ms 38 30601641983) rfl rfl HT_ HW_ (by kernel_rfl) (fun _ _ _ h => h) (by rfl) ?_ hHeld ?_ ?_ ?_
    rotate_left
    ·rintro w' ⟨s0, s1, s2, s3, s4, s5, s6⟩
     go_simp
     with_reducible rfl
    rotate_left
    ·simp only [SX]
     rfl
    refine pu 29 86 ?_ (ms 38 31138512895) rfl rfl HT_ (by kernel_rfl) (fun _ _ _ h => h) (by rfl) ?_ ?_ ?_ ?_
    rotate_left
    ·intro w'
     go_simp
     with_reducible rfl
    rotate_left
    ·simp only [SX]
     rfl
    refine tk 30 87 ?_ (ms 38 32212254719) rfl rfl HT_ HW_ (by kernel_rfl) (fun _ _ _ h => h) (by rfl) ?_ hHeld ?_ ?_ ?_
    rotate_left
    ·rintro w' ⟨s0, s1, s2, s3, s4, s5, s6⟩
     go_simp
     with_reducible rfl
    rotate_left
    ·simp only [SX]
     rfl
    refine pu 31 88 ?_ (ms 38 34359738367) rfl rfl HT_ (by kernel_rfl) (fun _ _ _ h => h) (by rfl) ?_ ?_ ?_ ?_
    rotate_left
    ·intro w'
     go_simp
     with_reducible rfl
    rotate_left
    ·simp only [SX]
     rfl
    refine tk 35 92 ?_ (ms 38 68719476735) rfl rfl HT_ HW_ (by kernel_rfl) (fun _ _ _ h => h) (by rfl) ?_ hHeld ?_ ?_ ?_
    rotate_left
    ·rintro w' ⟨s0, s1, s2, s3, s4, s5, s6⟩
     go_simp
     with_reducible rfl
    rotate_left
    ·simp only [SX]
     rfl
    refine pu 36 93 ?_ (ms 38 137438953471) rfl rfl HT_ (by kernel_rfl) (fun _ _ _ h => h) (by rfl) ?_ ?_ ?_ ?_
    rotate_left
    ·intro w'
     go_simp
     with_reducible rfl
    rotate_left
    ·simp only [SX]
     rfl
    refine pu 37 94 ?_ (ms 38 274877906943) rfl rfl HT_ (by kernel_rfl) (fun _ _ _ h => h) (by rfl) ?_ ?_ ?_ ?_
    rotate_left
    ·intro w'
     go_simp
     with_reducible rfl
    rotate_left
    ·simp only [SX]
     rfl
    refine done_ (done_of HT_.out (by kernel_rfl)) ?_
    try go_wp2
    replace HO_6 := ak (Kd.N_drew HO_6.out)
    replace HO_7 := ak (Kd.N_drew HO_7.out)
    replace HO_9 := ak (Kd.R_drew HO_9.out)
    replace HO_10 := ak (Kd.R_drew HO_10.out)
    replace HO335 := ak (Kd.R_drew HO335.out)
    replace HL337_0 := ak (Kd.V_drew HL337_0.out)
    replace HL339_0 := ak (Kd.V_drew HL339_0.out)
    replace BK303 := ak (blk_drew BK303.out)
    replace HR337_0 := ak (Kd.C_drew HR337_0.out)
    replace HR339_0 := ak (Kd.C_drew HR339_0.out)
    replace HB := ak (below_drew1 HB.out)
    have p344 : 0 ≤ ((ji41) : Int) := oT (by (with_reducible assumption))
    have q344 : (ji41) < (x6_1.length : Int) := oT (by (with_reducible assumption))
    obtain ⟨ad344, A344_0, c344_0, e344, hx344_0, hl344_0, hi344_0⟩ := at_L3 (Kd.N_reads' HO_6.out).2.2 (ji41) p344 q344
    obtain rfl : ad337 = ad344 := (by injection e344)
    obtain ⟨ce344, hce344, hMe344, hcc344⟩ := Kd.N_get HO_6.out [] (ji41) p344 (by exact q344)
    obtain ⟨ua344_0, uc344_0, rfl, ul344_0, ge344_0⟩ := Kd.FK_slice_open hMe344
    have hv344_0 := hcc344 0 _ rfl
    rw [Nat.add_zero, show ((Kd.slice 3 (Kd.int .i64))).sz = 1 from rfl, Nat.mul_one] at hv344_0
    replace hv344_0 := Option.some.inj (hv344_0.symm.trans hx344_0)
    injection hv344_0 with hva_ hvn_ hvc_
    rw [hva_] at ge344_0
    rw [hvc_] at ul344_0
    have HL344_0 := ak (show Kd.V (Kd.int .i64) 3 _ w.heap.size _ _ (rd_L3 x6_1 (ji41)) from Kd.V_mk ul344_0 ge344_0)
    clear hva_ hvn_ hvc_ ge344_0 ul344_0
    clear hcc344 hce344
    have HR344_0 := ak hi344_0
    have HC344_0 := ak hl344_0
    clear hi344_0 hl344_0
    replace p344 := eq_true p344
    replace q344 := eq_true q344
    have p345 : 0 ≤ (x12_3 : Int) := oT (by (with_reducible assumption))
    have q345 : x12_3 < ((rd_L3 x6_1 (ji41)).length : Int) := oT (by (with_reducible assumption))
    obtain ⟨ad345, e345, hx345_0⟩ := Kd.at_int (by repeat ((with_reducible exact HR344_0.out))) x12_3 p345 q345
    cases e345
    replace p345 := eq_true p345
    replace q345 := eq_true q345
    have p346 : 0 ≤ (x8_1 : Int) := oT (by (with_reducible assumption))
    have q346 : x8_1 < (l1.length : Int) := oT (by (with_reducible assumption))
    obtain ⟨ad346, A346_0, c346_0, e346, hx346_0, hl346_0, hi346_0⟩ := at_L3 HR1.out x8_1 p346 q346
    have hw346_0 := hx346_0
    obtain rfl : ad307 = ad346 := (by injection e346)
    replace hx346_0 := hcb HB.out hx346_0
    have HR346_0 := ak hi346_0
    have HC346_0 := ak hl346_0
    clear hi346_0 hl346_0
    replace p346 := eq_true p346
    replace q346 := eq_true q346
    have p347 : 0 ≤ (x11_2 : Int) := oT (by (with_reducible assumption))
    have q347 : x11_2 < ((rd_L3 l1 x8_1).length : Int) := oT (by (with_reducible assumption))
    obtain ⟨ad347, e347, hx347_0⟩ := Kd.at_int HR346_0.out x11_2 p347 q347
    have hw347_0 := hx347_0
    cases e347
    replace hx347_0 := hcb HB.out hx347_0
    replace p347 := eq_true p347
    replace q347 := eq_true q347
    have p52 : 0 ≤ (x11_2 : Int) := oT (by (with_reducible assumption))
    have q52 : (x11_2 : Int) < ((x9_3.length : Int) : Int) := oT (by (with_reducible assumption))
    obtain ⟨hx52_0, hf52_0⟩ := Kd.R_celln 0 HO_9.out (x11_2 : Int) p52 q52
    replace p52 := eq_true p52
    replace q52 := eq_true q52
    have HP61 := Kd.R_putn HO_9.out (x11_2 : Int) (wrap64 ((wrap64 ((rd (rd_L3 x6_1 (ji41)) x12_3) + (rd t333 x11_2))) + (rd (rd_L3 l1 x8_1) x11_2)))
    rw [← Ny348.out] at HP61
    have HQ61 := ak HP61
    clear HP61
    refine start_ (n := 22) (S := fun w' => w'.cell? (ad337.add ((ji41)).toNat) = some (.slice (some ad345) (rd_L3 x6_1 (ji41)).length c344_0) ∧ w'.cell? (ad345.add (x12_3).toNat) = some (.int .i64 (rd (rd_L3 x6_1 (ji41)) x12_3)) ∧ w'.cell? (ad307.add (x8_1).toNat) = some (.slice (some ad347) (rd_L3 l1 x8_1).length c346_0) ∧ w'.cell? (ad347.add (x11_2).toNat) = some (.int .i64 (rd (rd_L3 l1 x8_1) x11_2))) (ds := [21]) (ms 22 0) (by kernel_rfl) rfl (by kernel_rfl) ⟨hx344_0, hx345_0, ((HB.out.cell (World.block_lt_of_cell? w _ hw346_0)).trans hw346_0), ((HB.out.cell (World.block_lt_of_cell? w _ hw347_0)).trans hw347_0)⟩ (fun hHeld => ?_); refine with_tabW spec_l15Rows.tab17 spec_l15Rows.bits17 (fun HT_ HW_ => ?_)
    generalize w58.drew = w60 at HO_6 HO_7 HO_9 HO_10 HO335 HL337_0 HL339_0 BK303 HR337_0 HR339_0 HB HL344_0 HQ61 HR344_0 HR346_0 hf52_0 hx344_0 hx345_0 hx346_0 hx347_0 hx52_0 hHeld ⊢
    refine pu 0 95 ?_ (ms 22 1) rfl rfl HT_ (by kernel_rfl) (fun _ _ _ h => h) (by rfl) ?_ ?_ ?_ ?_
    rotate_left
    ·intro w'
     go_simp
     with_reducible rfl
    rotate_left
    ·simp only [SX]
     rfl
    refine pu 1 96 ?_ (ms 22 3) rfl rfl HT_ (by kernel_rfl) (fun _ _ _ h => h) (by rfl) ?_ ?_ ?_ ?_
    rotate_left
    ·intro w'
     go_simp
     with_reducible rfl
    rotate_left
    ·simp only [SX]
     rfl
    refine pu 2 97 ?_ (ms 22 7) rfl rfl HT_ (by kernel_rfl) (fun _ _ _ h => h) (by rfl) ?_ ?_ ?_ ?_
    rotate_left
    ·intro w'
     go_simp
     with_reducible rfl
    rotate_left
    ·simp only [SX]
     rfl
    refine pu 3 98 ?_ (ms 22 15) rfl rfl HT_ (by kernel_rfl) (fun _ _ _ h => h) (by rfl) ?_ ?_ ?_ ?_
    rotate_left
    ·intro w'
     go_simp
     with_reducible rfl
    rotate_left
    ·simp only [SX]
     rfl
    refine pu 4 99 ?_ (ms 22 31) rfl rfl HT_ (by kernel_rfl) (fun _ _ _ h => h) (by rfl) ?_ ?_ ?_ ?_
    rotate_left
    ·intro w'
     go_simp
     with_reducible rfl
    rotate_left
    ·simp only [SX]
     rfl
    refine pu 5 100 ?_ (ms 22 63) rfl rfl HT_ (by kernel_rfl) (fun _ _ _ h => h) (by rfl) ?_ ?_ ?_ ?_
    rotate_left
    ·intro w'
     go_simp
     with_reducible rfl
    rotate_left
    ·simp only [SX]
     rfl
    refine pu 7 102 ?_ (ms 22 191) rfl rfl HT_ (by kernel_rfl) (fun _ _ _ h => h) (by rfl) ?_ ?_ ?_ ?_
    rotate_left
    ·intro w'
     go_simp
     with_reducible rfl
    rotate_left
    ·simp only [SX]
     rfl
    refine pu 10 105 ?_ (ms 22 1215) rfl rfl HT_ (by kernel_rfl) (fun _ _ _ h => h) (by rfl) ?_ ?_ ?_ ?_
    rotate_left
    ·intro w'
     go_simp
     with_reducible rfl
    rotate_left
    ·simp only [SX]
     rfl
    refine pu 12 107 ?_ (ms 22 5311) rfl rfl HT_ (by kernel_rfl) (fun _ _ _ h => h) (by rfl) ?_ ?_ ?_ ?_
    rotate_left
    ·intro w'
     go_simp
     with_reducible rfl
    rotate_left
    ·simp only [SX]
     rfl
    refine pu 13 108 ?_ (ms 22 13503) rfl rfl HT_ (by kernel_rfl) (fun _ _ _ h => h) (by rfl) ?_ ?_ ?_ ?_
    rotate_left
    ·intro w'
     go_simp
     with_reducible rfl
    rotate_left
    ·simp only [SX]
     rfl
    refine pu 14 109 ?_ (ms 22 29887) rfl rfl HT_ (by kernel_rfl) (fun _ _ _ h => h) (by rfl) ?_ ?_ ?_ ?_
    rotate_left
    ·intro w'
     go_simp
     with_reducible rfl
    rotate_left
    ·simp only [SX]
     rfl
    refine pu 16 111 ?_ (ms 22 95423) rfl rfl HT_ (by kernel_rfl) (fun _ _ _ h => h) (by rfl) ?_ ?_ ?_ ?_
    rotate_left
    ·intro w'
     go_simp
     with_reducible rfl
    rotate_left
    ·simp only [SX]
     rfl
    refine tk 6 101 ?_ (ms 22 95487) rfl rfl HT_ HW_ (by kernel_rfl) (fun _ _ _ h => h) (by rfl) ?_ hHeld ?_ ?_ ?_
    rotate_left
    ·rintro w' ⟨s0, s1, s2, s3⟩
     go_simp
     with_reducible rfl
    rotate_left
    ·simp only [SX]
     rfl
    refine pu 8 103 ?_ (ms 22 95743) rfl rfl HT_ (by kernel_rfl) (fun _ _ _ h => h) (by rfl) ?_ ?_ ?_ ?_
    rotate_left
    ·intro w'
     go_simp
     with_reducible rfl
    rotate_left
    ·simp only [SX]
     rfl
    refine tk 9 104 ?_ (ms 22 96255) rfl rfl HT_ HW_ (by kernel_rfl) (fun _ _ _ h => h) (by rfl) ?_ hHeld ?_ ?_ ?_
    rotate_left
    ·rintro w' ⟨s0, s1, s2, s3⟩
     go_simp
     with_reducible rfl
    rotate_left
    ·simp only [SX]
     rfl
    refine pu 11 106 ?_ (ms 22 98303) rfl rfl HT_ (by kernel_rfl) (fun _ _ _ h => h) (by rfl) ?_ ?_ ?_ ?_
    rotate_left
    ·intro w'
     go_simp
     with_reducible rfl
    rotate_left
    ·simp only [SX]
     rfl
    refine tk 15 110 ?_ (ms 22 131071) rfl rfl HT_ HW_ (by kernel_rfl) (fun _ _ _ h => h) (by rfl) ?_ hHeld ?_ ?_ ?_
    rotate_left
    ·rintro w' ⟨s0, s1, s2, s3⟩
     go_simp
     with_reducible rfl
    rotate_left
    ·simp only [SX]
     rfl
    refine pu 17 112 ?_ (ms 22 262143) rfl rfl HT_ (by kernel_rfl) (fun _ _ _ h => h) (by rfl) ?_ ?_ ?_ ?_
    rotate_left
    ·intro w'
     go_simp
     with_reducible rfl
    rotate_left
    ·simp only [SX]
     rfl
    refine tk 18 113 ?_ (ms 22 524287) rfl rfl HT_ HW_ (by kernel_rfl) (fun _ _ _ h => h) (by rfl) ?_ hHeld ?_ ?_ ?_
    rotate_left
    ·rintro w' ⟨s0, s1, s2, s3⟩
     go_simp
     with_reducible rfl
    rotate_left
    ·simp only [SX]
     rfl
    refine pu 19 114 ?_ (ms 22 1048575) rfl rfl HT_ (by kernel_rfl) (fun _ _ _ h => h) (by rfl) ?_ ?_ ?_ ?_
    rotate_left
    ·intro w'
     go_simp
     with_reducible rfl
    rotate_left
    ·simp only [SX]
     rfl
    refine pu 20 115 ?_ (ms 22 2097151) rfl rfl HT_ (by kernel_rfl) (fun _ _ _ h => h) (by rfl) ?_ ?_ ?_ ?_
    rotate_left
    ·intro w'
     go_simp
     with_reducible rfl
    rotate_left
    ·simp only [SX]
     rfl
    refine last_ (i := 21) (N := none) (ms 22 4194303) rfl rfl (one_of HT_.out (by kernel_rfl)) (by decide) (fun K hK => ?_)
    refine skip_ (w1 := ?_) (by rfl) rfl ?_ ?_
    rotate_left
    ·go_simp
     rfl
    refine hK.out _ _ ?_
    clear hK K
    refine done_ (done_of HT_.out (by kernel_rfl)) ?_
    have n0_ : Aside0 (Kd.N (Kd.slice 3 (Kd.int .i64)) 26 (w60.setCell ⟨go32, (x11_2 : Int).toNat, none⟩ (.int .i64 (wrap64 ((wrap64 ((rd (rd_L3 x6_1 (ji41)) x12_3) + (rd t333 x11_2))) + (rd (rd_L3 l1 x8_1) x11_2))))) w.heap.size (fun k_ => (w.heap.size ≤ k_) ∧ some k_ ≠ (u7 : Value).ownBlock ∧ some k_ ≠ (.slice (some ⟨go32, 0, none⟩) x9_3.length co32 : Value).ownBlock ∧ some k_ ≠ (v324 : Value).ownBlock ∧ some k_ ≠ (.slice (some ad336) t333.length co57 : Value).ownBlock ∧ k_ ≠ gb303) (.slice (some ad337) x6_1.length co59) x6_1) := ⟨by exact Kd.N_mono (Kd.N_far (p := ⟨go32, (x11_2 : Int).toNat, none⟩) (Kd.N_mono HO_6.out (fun k_ hk => (⟨hk, fun e_ => hk.1.2.2.1 (by rw [e_]; rfl)⟩ : _ ∧ k_ ≠ go32))) (fun _ hk => hk.2) (.int .i64 (wrap64 ((wrap64 ((rd (rd_L3 x6_1 (ji41)) x12_3) + (rd t333 x11_2))) + (rd (rd_L3 l1 x8_1) x11_2))))) (fun _ hk => ⟨hk.1.1.1, ⟨hk.1.1.2.1, ⟨hk.1.1.2.2.1, ⟨hk.1.1.2.2.2.1, ⟨hk.1.2, hk.1.1.2.2.2.2⟩⟩⟩⟩⟩)⟩
    have n1_ : Aside0 (Kd.N (Kd.slice 3 (Kd.int .i64)) 26 (w60.setCell ⟨go32, (x11_2 : Int).toNat, none⟩ (.int .i64 (wrap64 ((wrap64 ((rd (rd_L3 x6_1 (ji41)) x12_3) + (rd t333 x11_2))) + (rd (rd_L3 l1 x8_1) x11_2))))) w.heap.size (fun k_ => (w.heap.size ≤ k_) ∧ some k_ ≠ (.slice (some ad337) x6_1.length co59 : Value).ownBlock ∧ some k_ ≠ (.slice (some ⟨go32, 0, none⟩) x9_3.length co32 : Value).ownBlock ∧ some k_ ≠ (v324 : Value).ownBlock ∧ some k_ ≠ (.slice (some ad336) t333.length co57 : Value).ownBlock ∧ k_ ≠ gb303) u7 x7_1) := ⟨by exact Kd.N_mono (Kd.N_far (p := ⟨go32, (x11_2 : Int).toNat, none⟩) (Kd.N_mono HO_7.out (fun k_ hk => (⟨hk, fun e_ => hk.1.2.2.1 (by rw [e_]; rfl)⟩ : _ ∧ k_ ≠ go32))) (fun _ hk => hk.2) (.int .i64 (wrap64 ((wrap64 ((rd (rd_L3 x6_1 (ji41)) x12_3) + (rd t333 x11_2))) + (rd (rd_L3 l1 x8_1) x11_2))))) (fun _ hk => ⟨hk.1.1.1, ⟨hk.1.1.2.1, ⟨hk.1.1.2.2.1, ⟨hk.1.1.2.2.2.1, ⟨hk.1.2, hk.1.1.2.2.2.2⟩⟩⟩⟩⟩)⟩
    have n2_ : Aside0 (Kd.R (Kd.int .i64) 3 (w60.setCell ⟨go32, (x11_2 : Int).toNat, none⟩ (.int .i64 (wrap64 ((wrap64 ((rd (rd_L3 x6_1 (ji41)) x12_3) + (rd t333 x11_2))) + (rd (rd_L3 l1 x8_1) x11_2))))) w.heap.size (fun k_ => (w.heap.size ≤ k_) ∧ some k_ ≠ (v324 : Value).ownBlock ∧ some k_ ≠ (.slice (some ad336) t333.length co57 : Value).ownBlock) (.slice (some ⟨go32, 0, none⟩) x9_3.length co32) y348) := ⟨by exact Kd.R_mono HQ61.out (fun _ hk => ⟨hk.1.1, ⟨hk.1.2, hk.2⟩⟩)⟩
    have n3_ : Aside0 (Kd.R (Kd.int .i64) 3 (w60.setCell ⟨go32, (x11_2 : Int).toNat, none⟩ (.int .i64 (wrap64 ((wrap64 ((rd (rd_L3 x6_1 (ji41)) x12_3) + (rd t333 x11_2))) + (rd (rd_L3 l1 x8_1) x11_2))))) w.heap.size (fun k_ => (w.heap.size ≤ k_) ∧ some k_ ≠ (.slice (some ⟨go32, 0, none⟩) x9_3.length co32 : Value).ownBlock ∧ some k_ ≠ (.slice (some ad336) t333.length co57 : Value).ownBlock) v324 x10_3) := ⟨by exact Kd.R_mono (Kd.R_far (p := ⟨go32, (x11_2 : Int).toNat, none⟩) (Kd.R_mono HO_10.out (fun k_ hk => (⟨hk, fun e_ => hk.1.2 (by rw [e_]; rfl)⟩ : _ ∧ k_ ≠ go32))) (fun _ hk => hk.2) (.int .i64 (wrap64 ((wrap64 ((rd (rd_L3 x6_1 (ji41)) x12_3) + (rd t333 x11_2))) + (rd (rd_L3 l1 x8_1) x11_2))))) (fun _ hk => ⟨hk.1.1.1, ⟨hk.1.1.2, hk.1.2⟩⟩)⟩
    have n4_ : Aside0 (Kd.R (Kd.int .i64) 3 (w60.setCell ⟨go32, (x11_2 : Int).toNat, none⟩ (.int .i64 (wrap64 ((wrap64 ((rd (rd_L3 x6_1 (ji41)) x12_3) + (rd t333 x11_2))) + (rd (rd_L3 l1 x8_1) x11_2))))) w.heap.size (fun k_ => (w.heap.size ≤ k_) ∧ some k_ ≠ (.slice (some ⟨go32, 0, none⟩) x9_3.length co32 : Value).ownBlock ∧ some k_ ≠ (v324 : Value).ownBlock) (.slice (some ad336) t333.length co57) t333) := ⟨by exact Kd.R_mono (Kd.R_far (p := ⟨go32, (x11_2 : Int).toNat, none⟩) (Kd.R_mono HO335.out (fun k_ hk => (⟨hk, fun e_ => hk.1.2 (by rw [e_]; rfl)⟩ : _ ∧ k_ ≠ go32))) (fun _ hk => hk.2) (.int .i64 (wrap64 ((wrap64 ((rd (rd_L3 x6_1 (ji41)) x12_3) + (rd t333 x11_2))) + (rd (rd_L3 l1 x8_1) x11_2))))) (fun _ hk => ⟨hk.1.1.1.1, ⟨hk.1.1.2, hk.1.2⟩⟩)⟩
    have n5_ : Aside0 (Kd.V (Kd.int .i64) 3 (w60.setCell ⟨go32, (x11_2 : Int).toNat, none⟩ (.int .i64 (wrap64 ((wrap64 ((rd (rd_L3 x6_1 (ji41)) x12_3) + (rd t333 x11_2))) + (rd (rd_L3 l1 x8_1) x11_2))))) w.heap.size (fun k_ => (w.heap.size ≤ k_) ∧ some k_ ≠ (.slice (some ad337) x6_1.length co59 : Value).ownBlock ∧ some k_ ≠ (u7 : Value).ownBlock ∧ some k_ ≠ (.slice (some ⟨go32, 0, none⟩) x9_3.length co32 : Value).ownBlock ∧ some k_ ≠ (v324 : Value).ownBlock ∧ some k_ ≠ (.slice (some ad336) t333.length co57 : Value).ownBlock ∧ k_ ≠ gb303) (.slice (some ad338) (rd_L3 x6_1 (ji41)).length c337_0) (rd_L3 x6_1 (ji41))) := ⟨by exact Kd.V_mono (Kd.V_far (p := ⟨go32, (x11_2 : Int).toNat, none⟩) (Kd.V_mono HL337_0.out (fun k_ hk => (⟨hk, fun e_ => hk.1.1.2.2.1 (by rw [e_]; rfl)⟩ : _ ∧ k_ ≠ go32))) (fun _ hk => hk.2) (.int .i64 (wrap64 ((wrap64 ((rd (rd_L3 x6_1 (ji41)) x12_3) + (rd t333 x11_2))) + (rd (rd_L3 l1 x8_1) x11_2))))) (fun _ hk => ⟨hk.1.1.1.1, ⟨hk.1.2, ⟨hk.1.1.1.2.1, ⟨hk.1.1.1.2.2.1, ⟨hk.1.1.1.2.2.2.1, ⟨hk.1.1.2, hk.1.1.1.2.2.2.2⟩⟩⟩⟩⟩⟩)⟩
    have n6_ : Aside0 (Kd.V (Kd.int .i64) 3 (w60.setCell ⟨go32, (x11_2 : Int).toNat, none⟩ (.int .i64 (wrap64 ((wrap64 ((rd (rd_L3 x6_1 (ji41)) x12_3) + (rd t333 x11_2))) + (rd (rd_L3 l1 x8_1) x11_2))))) w.heap.size (fun k_ => (w.heap.size ≤ k_) ∧ some k_ ≠ (.slice (some ad337) x6_1.length co59 : Value).ownBlock ∧ some k_ ≠ (u7 : Value).ownBlock ∧ some k_ ≠ (.slice (some ⟨go32, 0, none⟩) x9_3.length co32 : Value).ownBlock ∧ some k_ ≠ (v324 : Value).ownBlock ∧ some k_ ≠ (.slice (some ad336) t333.length co57 : Value).ownBlock ∧ k_ ≠ gb303) (.slice (some ad338) (rd_L3 x6_1 (ji41)).length c337_0) (rd_L3 x6_1 (ji41))) := ⟨by exact Kd.V_mono (Kd.V_far (p := ⟨go32, (x11_2 : Int).toNat, none⟩) (Kd.V_mono HL339_0.out (fun k_ hk => (⟨hk, fun e_ => hk.1.1.2.2.1 (by rw [e_]; rfl)⟩ : _ ∧ k_ ≠ go32))) (fun _ hk => hk.2) (.int .i64 (wrap64 ((wrap64 ((rd (rd_L3 x6_1 (ji41)) x12_3) + (rd t333 x11_2))) + (rd (rd_L3 l1 x8_1) x11_2))))) (fun _ hk => ⟨hk.1.1.1.1, ⟨hk.1.2, ⟨hk.1.1.1.2.1, ⟨hk.1.1.1.2.2.1, ⟨hk.1.1.1.2.2.2.1, ⟨hk.1.1.2, hk.1.1.1.2.2.2.2⟩⟩⟩⟩⟩⟩)⟩
    have n7_ : Aside0 (Kd.V (Kd.int .i64) 3 (w60.setCell ⟨go32, (x11_2 : Int).toNat, none⟩ (.int .i64 (wrap64 ((wrap64 ((rd (rd_L3 x6_1 (ji41)) x12_3) + (rd t333 x11_2))) + (rd (rd_L3 l1 x8_1) x11_2))))) w.heap.size (fun k_ => (w.heap.size ≤ k_) ∧ some k_ ≠ (.slice (some ad337) x6_1.length co59 : Value).ownBlock ∧ some k_ ≠ (u7 : Value).ownBlock ∧ some k_ ≠ (.slice (some ⟨go32, 0, none⟩) x9_3.length co32 : Value).ownBlock ∧ some k_ ≠ (v324 : Value).ownBlock ∧ some k_ ≠ (.slice (some ad336) t333.length co57 : Value).ownBlock ∧ k_ ≠ gb303) (.slice (some ad345) (rd_L3 x6_1 (ji41)).length c344_0) (rd_L3 x6_1 (ji41))) := ⟨by exact Kd.V_mono (Kd.V_far (p := ⟨go32, (x11_2 : Int).toNat, none⟩) (Kd.V_mono HL344_0.out (fun k_ hk => (⟨hk, fun e_ => hk.1.1.2.2.1 (by rw [e_]; rfl)⟩ : _ ∧ k_ ≠ go32))) (fun _ hk => hk.2) (.int .i64 (wrap64 ((wrap64 ((rd (rd_L3 x6_1 (ji41)) x12_3) + (rd t333 x11_2))) + (rd (rd_L3 l1 x8_1) x11_2))))) (fun _ hk => ⟨hk.1.1.1.1, ⟨hk.1.2, ⟨hk.1.1.1.2.1, ⟨hk.1.1.1.2.2.1, ⟨hk.1.1.1.2.2.2.1, ⟨hk.1.1.2, hk.1.1.1.2.2.2.2⟩⟩⟩⟩⟩⟩)⟩
    have n8_ : Aside0 ((w60.setCell ⟨go32, (x11_2 : Int).toNat, none⟩ (.int .i64 (wrap64 ((wrap64 ((rd (rd_L3 x6_1 (ji41)) x12_3) + (rd t333 x11_2))) + (rd (rd_L3 l1 x8_1) x11_2))))).heap[gb303]? = some (.cells #[.int .i64 a0_0, .slice A0_1 l0_1.length c0_1] 25 (0, 0))) := ⟨by refine blk_far ?_ (by have h_ := Kd.R_ne HO_9.out BK303.out (by decide); intro e_; exact h_ (by rw [e_]; rfl)) _; exact BK303.out⟩
    have n9_ : Aside0 (Below w.heap.size w (w60.setCell ⟨go32, (x11_2 : Int).toNat, none⟩ (.int .i64 (wrap64 ((wrap64 ((rd (rd_L3 x6_1 (ji41)) x12_3) + (rd t333 x11_2))) + (rd (rd_L3 l1 x8_1) x11_2)))))) := ⟨by repeat ((with_reducible first | exact HB.out | refine below_set ?_ GB32.out))⟩
    (try clear HO_6)
    (try clear HO_7)
    (try clear HO_9)
    (try clear HO_10)
    (try clear HO335)
    (try clear HL337_0)
    (try clear HL339_0)
    (try clear HL344_0)
    (try clear BK303)
    (try clear HB)
    generalize (w60.setCell ⟨go32, (x11_2 : Int).toNat, none⟩ (.int .i64 (wrap64 ((wrap64 ((rd (rd_L3 x6_1 (ji41)) x12_3) + (rd t333 x11_2))) + (rd (rd_L3 l1 x8_1) x11_2))))) = w62 at n0_ n1_ n2_ n3_ n4_ n5_ n6_ n7_ n8_ n9_ ⊢
    have HO_6 := n0_
    have HO_7 := n1_
    have HO_9 := n2_
    have HO_10 := n3_
    have HO335 := n4_
    have HL337_0 := n5_
    have HL339_0 := n6_
    have HL344_0 := n7_
    have BK303 := n8_
    have HB := n9_
    clear n0_ n1_ n2_ n3_ n4_ n5_ n6_ n7_ n8_ n9_
    have p54 : 0 ≤ (x11_2 : Int) := oT (by (with_reducible assumption))
    have q54 : (x11_2 : Int) < ((x10_3.length : Int) : Int) := oT (by (with_reducible assumption))
    obtain ⟨go54, co54, eo54, gb54, gl54, cl54, HG54⟩ := Kd.R_form HO_10.out (by omega)
    (cases eo54)
    have GB54 := ak gb54
    have GG54 := ak HG54
    clear gb54 gl54 HG54
    obtain ⟨hx54_0, hf54_0⟩ := Kd.R_celln 0 HO_10.out (x11_2 : Int) p54 q54
    replace p54 := eq_true p54
    replace q54 := eq_true q54
    obtain ⟨hy63_, hz63_⟩ := Kd.R_celln 0 HO_10.out (x11_2 : Int) (oT (by (with_reducible assumption))) (oT (by (with_reducible assumption)))
    have HP63 := Kd.R_putg HO_10.out (x11_2 : Int) x12_3
    try go_wp2_with (((with_reducible refine gate_store (t := 3) (p := 119) rfl ?_); refine store_event (t := 3) (p := 119) (v := ?vo_w64) (w1 := (w62.setCell ⟨go54, (x11_2 : Int).toNat, none⟩ (.int .i64 x12_3))) ?hg ?ho ?hn ?hr ?_; (case ho => rfl); (case hg => rfl); (case hn => rfl); (case hr => (go_simp; done)); intro w64 hw; have hg : w62.grownBy w64 (some go54) := (by rw [hw]; exact HP63.2); have hp_ : Kd.R (Kd.int .i64) 3 w64 w.heap.size (fun k_ => (w.heap.size ≤ k_) ∧ some k_ ≠ (.slice (some ⟨go32, 0, none⟩) x9_3.length co32 : Value).ownBlock ∧ some k_ ≠ (.slice (some ad336) t333.length co57 : Value).ownBlock) (.slice (some ⟨go54, 0, none⟩) x10_3.length co54) y349 := (by rw [hw, Ny349.out]; exact HP63.1); clear HP63; replace HO_6 := ak (Kd.N_afterv (v := (.slice (some ⟨go54, 0, none⟩) x10_3.length co54)) (v1 := (.slice (some ⟨go54, 0, none⟩) x10_3.length co54)) (ok := (fun k_ => (w.heap.size ≤ k_) ∧ some k_ ≠ (u7 : Value).ownBlock ∧ some k_ ≠ (.slice (some ⟨go32, 0, none⟩) x9_3.length co32 : Value).ownBlock ∧ some k_ ≠ (.slice (some ad336) t333.length co57 : Value).ownBlock ∧ k_ ≠ gb303)) (by exact Kd.N_mono HO_6.out (fun _ hk => ⟨⟨hk.1, ⟨hk.2.1, ⟨hk.2.2.1, ⟨hk.2.2.2.2.1, hk.2.2.2.2.2⟩⟩⟩⟩, hk.2.2.2.1⟩)) hg (.inl rfl)); replace HO_7 := ak (Kd.N_afterv (v := (.slice (some ⟨go54, 0, none⟩) x10_3.length co54)) (v1 := (.slice (some ⟨go54, 0, none⟩) x10_3.length co54)) (ok := (fun k_ => (w.heap.size ≤ k_) ∧ some k_ ≠ (.slice (some ad337) x6_1.length co59 : Value).ownBlock ∧ some k_ ≠ (.slice (some ⟨go32, 0, none⟩) x9_3.length co32 : Value).ownBlock ∧ some k_ ≠ (.slice (some ad336) t333.length co57 : Value).ownBlock ∧ k_ ≠ gb303)) (by exact Kd.N_mono HO_7.out (fun _ hk => ⟨⟨hk.1, ⟨hk.2.1, ⟨hk.2.2.1, ⟨hk.2.2.2.2.1, hk.2.2.2.2.2⟩⟩⟩⟩, hk.2.2.2.1⟩)) hg (.inl rfl)); replace HO_9 := ak (Kd.R_after (v := (.slice (some ⟨go54, 0, none⟩) x10_3.length co54)) (v1 := (.slice (some ⟨go54, 0, none⟩) x10_3.length co54)) (ok := (fun k_ => (w.heap.size ≤ k_) ∧ some k_ ≠ (.slice (some ad336) t333.length co57 : Value).ownBlock)) (by exact Kd.R_mono HO_9.out (fun _ hk => ⟨⟨hk.1, hk.2.2⟩, hk.2.1⟩)) hg (.inl rfl)); replace BK303 := ak (blk_grown (bk BK303) hg (Kd.R_ne HO_10.out BK303.out (by decide))); replace HO_10 := ak (hp_); replace HO335 := ak (Kd.R_after (v := (.slice (some ⟨go54, 0, none⟩) x10_3.length co54)) (v1 := (.slice (some ⟨go54, 0, none⟩) x10_3.length co54)) (ok := (fun k_ => (w.heap.size ≤ k_) ∧ some k_ ≠ (.slice (some ⟨go32, 0, none⟩) x9_3.length co32 : Value).ownBlock)) (by exact Kd.R_mono HO335.out (fun _ hk => ⟨⟨hk.1, hk.2.1⟩, hk.2.2⟩)) hg (.inl rfl)); replace HL337_0 := ak (Kd.V_afterv (v := (.slice (some ⟨go54, 0, none⟩) x10_3.length co54)) (v1 := (.slice (some ⟨go54, 0, none⟩) x10_3.length co54)) (ok := (fun k_ => (w.heap.size ≤ k_) ∧ some k_ ≠ (.slice (some ad337) x6_1.length co59 : Value).ownBlock ∧ some k_ ≠ (u7 : Value).ownBlock ∧ some k_ ≠ (.slice (some ⟨go32, 0, none⟩) x9_3.length co32 : Value).ownBlock ∧ some k_ ≠ (.slice (some ad336) t333.length co57 : Value).ownBlock ∧ k_ ≠ gb303)) (by exact Kd.V_mono HL337_0.out (fun _ hk => ⟨⟨hk.1, ⟨hk.2.1, ⟨hk.2.2.1, ⟨hk.2.2.2.1, ⟨hk.2.2.2.2.2.1, hk.2.2.2.2.2.2⟩⟩⟩⟩⟩, hk.2.2.2.2.1⟩)) hg (.inl rfl)); replace HL339_0 := ak (Kd.V_afterv (v := (.slice (some ⟨go54, 0, none⟩) x10_3.length co54)) (v1 := (.slice (some ⟨go54, 0, none⟩) x10_3.length co54)) (ok := (fun k_ => (w.heap.size ≤ k_) ∧ some k_ ≠ (.slice (some ad337) x6_1.length co59 : Value).ownBlock ∧ some k_ ≠ (u7 : Value).ownBlock ∧ some k_ ≠ (.slice (some ⟨go32, 0, none⟩) x9_3.length co32 : Value).ownBlock ∧ some k_ ≠ (.slice (some ad336) t333.length co57 : Value).ownBlock ∧ k_ ≠ gb303)) (by exact Kd.V_mono HL339_0.out (fun _ hk => ⟨⟨hk.1, ⟨hk.2.1, ⟨hk.2.2.1, ⟨hk.2.2.2.1, ⟨hk.2.2.2.2.2.1, hk.2.2.2.2.2.2⟩⟩⟩⟩⟩, hk.2.2.2.2.1⟩)) hg (.inl rfl)); replace HL344_0 := ak (Kd.V_afterv (v := (.slice (some ⟨go54, 0, none⟩) x10_3.length co54)) (v1 := (.slice (some ⟨go54, 0, none⟩) x10_3.length co54)) (ok := (fun k_ => (w.heap.size ≤ k_) ∧ some k_ ≠ (.slice (some ad337) x6_1.length co59 : Value).ownBlock ∧ some k_ ≠ (u7 : Value).ownBlock ∧ some k_ ≠ (.slice (some ⟨go32, 0, none⟩) x9_3.length co32 : Value).ownBlock ∧ some k_ ≠ (.slice (some ad336) t333.length co57 : Value).ownBlock ∧ k_ ≠ gb303)) (by exact Kd.V_mono HL344_0.out (fun _ hk => ⟨⟨hk.1, ⟨hk.2.1, ⟨hk.2.2.1, ⟨hk.2.2.2.1, ⟨hk.2.2.2.2.2.1, hk.2.2.2.2.2.2⟩⟩⟩⟩⟩, hk.2.2.2.2.1⟩)) hg (.inl rfl)); replace HB := ak ((by rw [hw]; exact below_set (HB.out) GB54.out : Below w.heap.size w w64)); clear hg hw hp_))
    (try simp only [← hl9_3])
    go_roundg k3
    case measure => have := HK1.out; have := HK2.out; have := HK3.out; omega
    case rel => exact ⟨(y348), (y349), (wrap64 (x12_3 + 1)), (by rfl), H', ⟨by have := HK1.out; have := HK2.out; have := HK3.out; omega⟩, ⟨by (try simp only [hl9_3]); exact Kd.N_mono HO_6.out (fun _ hk => ⟨hk.1.1, ⟨hk.1.2.1, ⟨hk.1.2.2.1, ⟨hk.2, hk.1.2.2.2.2⟩⟩⟩⟩)⟩, ⟨by (try simp only [hl9_3]); exact Kd.N_mono HO_7.out (fun _ hk => ⟨hk.1.1, ⟨hk.1.2.1, ⟨hk.1.2.2.1, ⟨hk.2, hk.1.2.2.2.2⟩⟩⟩⟩)⟩, ⟨by (try simp only [hl9_3]); exact Kd.R_mono HO_9.out (fun _ hk => ⟨hk.1.1, hk.2⟩)⟩, ⟨by (try simp only [hl9_3]); exact Kd.R_mono HO_10.out (fun _ hk => ⟨hk.1, hk.2.1⟩)⟩, ⟨by (try simp only [hl9_3]); exact BK303.out⟩, ⟨bl1 HB GE303⟩⟩

end Go.Proofs.Ytgickejeakmenaa.F
