-- Printed by wip/px/px.py of this claim's repository (the kit's printer, extended there). Lean checks it.
import Derived.Test.YtlgolgfcolnddaaFKinds
import Derived.Test.YtlgolgfcolnddaaFspecl3All
import Derived.Test.YtlgolgfcolnddaaFspecl1Back
namespace Go.Proofs.Ytlgolgfcolnddaa.F
open Go.RowKit Go.Proofs.YtlgolgfcolnddaaW.PrintWords Go.Proofs.YtlgolgfcolnddaaW.PrintLast Go.Proofs.YtlgolgfcolnddaaW.PrintMore
attribute [local go_sem] max2_int min2_int max_two min_two max_three min_three max_four min_four   -- for this text's walks alone
set_option linter.unusedVariables false
set_option linter.unusedSimpArgs false

/-! ### spec_l3Steps: function 109 -/
mutual
def spec_l3Steps.l0 : Nat → Int → List Int → List Int → Int → Int → List (S58) → Option (List Int)
 | 0, _, _, _, _, _, _ => none
 | k + 1, x1, x5, x6, x7, x675000, x675001 => if x7 < x675000 then (if 0 ≤ x7 then (if x7 < (x6.length : Int) then (spec_l3Steps.l0 k x1 x5 (x6.set (x7 : Int).toNat 99999) (wrap64 (x7 + 1)) x675000 x675001) else (none)) else (none)) else (if 0 ≤ x1 then (if x1 < (x6.length : Int) then (spec_l3Steps.l1 k x5 (x6.set (x1 : Int).toNat 0) 0 x675000 x675001) else (none)) else (none))
def spec_l3Steps.l1 : Nat → List Int → List Int → Int → Int → List (S58) → Option (List Int)
 | 0, _, _, _, _, _ => none
 | k + 1, x5, x6, x8, x675000, x675001 => if x8 < x675000 then (spec_l3Steps.l2 k x5 x6 x8 0 x675000 x675001) else (some x6)
def spec_l3Steps.l2 : Nat → List Int → List Int → Int → Int → Int → List (S58) → Option (List Int)
 | 0, _, _, _, _, _, _ => none
 | k + 1, x5, x6, x8, x9, x675000, x675001 => if x9 < (x675001.length : Int) then (if 0 ≤ x9 then (if 0 ≤ ((rd_T58 x675001 x9).f1) then (if ((rd_T58 x675001 x9).f1) < (x5.length : Int) then (if (rd x5 ((rd_T58 x675001 x9).f1)) < 99999 then (if 0 ≤ ((rd_T58 x675001 x9).f0) then (if ((rd_T58 x675001 x9).f0) < (x5.length : Int) then (if (rd x5 ((rd_T58 x675001 x9).f0)) = (wrap64 (((rd_T58 x675001 x9).f2) + (rd x5 ((rd_T58 x675001 x9).f1)))) then (if ((rd_T58 x675001 x9).f1) < (x6.length : Int) then (if ((rd_T58 x675001 x9).f0) < (x6.length : Int) then (if (wrap64 ((rd x6 ((rd_T58 x675001 x9).f1)) + 1)) < (rd x6 ((rd_T58 x675001 x9).f0)) then (spec_l3Steps.l2 k x5 (x6.set (((rd_T58 x675001 x9).f0) : Int).toNat (wrap64 ((rd x6 ((rd_T58 x675001 x9).f1)) + 1))) x8 (wrap64 (x9 + 1)) x675000 x675001) else (spec_l3Steps.l2 k x5 x6 x8 (wrap64 (x9 + 1)) x675000 x675001)) else (none)) else (none)) else (spec_l3Steps.l2 k x5 x6 x8 (wrap64 (x9 + 1)) x675000 x675001)) else (none)) else (none)) else (spec_l3Steps.l2 k x5 x6 x8 (wrap64 (x9 + 1)) x675000 x675001)) else (none)) else (none)) else (none)) else (spec_l3Steps.l1 k x5 x6 (wrap64 (x8 + 1)) x675000 x675001)
end
def spec_l3Steps.f (k : Nat) (a0_0 : Int) (l0_1 : List (S58)) (a1 : Int) : Option (List Int) := (spec_l1Back.f k a0_0 l0_1).bind fun bt675 => ((spec_l3All.f k bt675.1 bt675.2 a1).bind fun t679 => (if 0 ≤ a0_0 then (if (a0_0 : Int).toNat ≤ 35184372088832 then (spec_l3Steps.l0 k a1 t679 (List.replicate (a0_0 : Int).toNat 0) 0 a0_0 l0_1) else (none)) else (none)))
theorem spec_l3Steps.mono_l : ∀ k, (∀ y0 y1 y2 y3 y4 y5, LeO (spec_l3Steps.l0 k y0 y1 y2 y3 y4 y5) (spec_l3Steps.l0 (k + 1) y0 y1 y2 y3 y4 y5)) ∧ (∀ y0 y1 y2 y3 y4, LeO (spec_l3Steps.l1 k y0 y1 y2 y3 y4) (spec_l3Steps.l1 (k + 1) y0 y1 y2 y3 y4)) ∧ (∀ y0 y1 y2 y3 y4 y5, LeO (spec_l3Steps.l2 k y0 y1 y2 y3 y4 y5) (spec_l3Steps.l2 (k + 1) y0 y1 y2 y3 y4 y5))
 | 0 => ⟨fun _ _ _ _ _ _ r h => by simp [spec_l3Steps.l0] at h, fun _ _ _ _ _ r h => by simp [spec_l3Steps.l1] at h, fun _ _ _ _ _ _ r h => by simp [spec_l3Steps.l2] at h⟩
 | k + 1 => by
  obtain ⟨ih0, ih1, ih2⟩ := spec_l3Steps.mono_l k
  refine ⟨?_, ?_, ?_⟩
  ·intro y0 y1 y2 y3 y4 y5
   unfold spec_l3Steps.l0
   repeat' first
   | (with_reducible exact ih0 _ _ _ _ _ _)
   | (with_reducible exact ih1 _ _ _ _ _)
   | (with_reducible exact ih2 _ _ _ _ _ _)
   | (with_reducible exact spec_l1Back.mono _ _ _)
   | (with_reducible exact spec_l3All.mono _ _ _ _)
   | (with_reducible exact LeO.refl _)
   | (with_reducible exact LeO.none _)
   | (with_reducible refine LeO.ite ?_ ?_)
   | (with_reducible refine LeO.bind ?_ (fun _ => ?_))
   | exact ih0 _ _ _ _ _ _
   | exact ih1 _ _ _ _ _
   | exact ih2 _ _ _ _ _ _
   | exact spec_l1Back.mono _ _ _
   | exact spec_l3All.mono _ _ _ _
   | exact LeO.none _
   | refine LeO.ite ?_ ?_
   | refine LeO.bind ?_ (fun _ => ?_)
  ·intro y0 y1 y2 y3 y4
   unfold spec_l3Steps.l1
   repeat' first
   | (with_reducible exact ih0 _ _ _ _ _ _)
   | (with_reducible exact ih1 _ _ _ _ _)
   | (with_reducible exact ih2 _ _ _ _ _ _)
   | (with_reducible exact spec_l1Back.mono _ _ _)
   | (with_reducible exact spec_l3All.mono _ _ _ _)
   | (with_reducible exact LeO.refl _)
   | (with_reducible exact LeO.none _)
   | (with_reducible refine LeO.ite ?_ ?_)
   | (with_reducible refine LeO.bind ?_ (fun _ => ?_))
   | exact ih0 _ _ _ _ _ _
   | exact ih1 _ _ _ _ _
   | exact ih2 _ _ _ _ _ _
   | exact spec_l1Back.mono _ _ _
   | exact spec_l3All.mono _ _ _ _
   | exact LeO.none _
   | refine LeO.ite ?_ ?_
   | refine LeO.bind ?_ (fun _ => ?_)
  ·intro y0 y1 y2 y3 y4 y5
   unfold spec_l3Steps.l2
   repeat' first
   | (with_reducible exact ih0 _ _ _ _ _ _)
   | (with_reducible exact ih1 _ _ _ _ _)
   | (with_reducible exact ih2 _ _ _ _ _ _)
   | (with_reducible exact spec_l1Back.mono _ _ _)
   | (with_reducible exact spec_l3All.mono _ _ _ _)
   | (with_reducible exact LeO.refl _)
   | (with_reducible exact LeO.none _)
   | (with_reducible refine LeO.ite ?_ ?_)
   | (with_reducible refine LeO.bind ?_ (fun _ => ?_))
   | exact ih0 _ _ _ _ _ _
   | exact ih1 _ _ _ _ _
   | exact ih2 _ _ _ _ _ _
   | exact spec_l1Back.mono _ _ _
   | exact spec_l3All.mono _ _ _ _
   | exact LeO.none _
   | refine LeO.ite ?_ ?_
   | refine LeO.bind ?_ (fun _ => ?_)
theorem spec_l3Steps.mono : ∀ a0 a1 a2 k, LeO (spec_l3Steps.f k a0 a1 a2) (spec_l3Steps.f (k + 1) a0 a1 a2) := by
 intro a0 a1 a2 k
 obtain ⟨ih0, ih1, ih2⟩ := spec_l3Steps.mono_l k
 unfold spec_l3Steps.f
 repeat' first
   | (with_reducible exact ih0 _ _ _ _ _ _)
   | (with_reducible exact ih1 _ _ _ _ _)
   | (with_reducible exact ih2 _ _ _ _ _ _)
   | (with_reducible exact spec_l1Back.mono _ _ _)
   | (with_reducible exact spec_l3All.mono _ _ _ _)
   | (with_reducible exact LeO.refl _)
   | (with_reducible exact LeO.none _)
   | (with_reducible refine LeO.ite ?_ ?_)
   | (with_reducible refine LeO.bind ?_ (fun _ => ?_))
   | exact ih0 _ _ _ _ _ _
   | exact ih1 _ _ _ _ _
   | exact ih2 _ _ _ _ _ _
   | exact spec_l1Back.mono _ _ _
   | exact spec_l3All.mono _ _ _ _
   | exact LeO.none _
   | refine LeO.ite ?_ ?_
   | refine LeO.bind ?_ (fun _ => ?_)
def spec_l3Steps.T15 : Bool × List (List Nat × List Nat) := (true, [([], []), ([], []), ([1], [1]), ([0, 2], [0, 2]), ([3], [3]), ([4], [4]), ([5], [5]), ([6], [6]), ([6], [6]), ([8, 6], [6, 8]), ([7, 9, 6], [6, 7, 9]), ([10, 6], [6, 10]), ([6], [6]), ([12, 6], [6, 12]), ([6], [6]), ([6], [6]), ([15, 6], [6, 15]), ([14, 16, 6], [6, 14, 16]), ([17, 6], [6, 17]), ([13, 18, 6], [6, 13, 18]), ([11, 19, 6], [6, 11, 19]), ([6, 20], [6, 20]), ([21, 6], [21]), ([22], [22]), ([22], [22]), ([24, 22], [22, 24]), ([23, 25, 22], [22, 23, 25]), ([26, 22], [22, 26]), ([27, 22], [22, 27]), ([22], [22]), ([22], [22]), ([30, 22], [22, 30]), ([29, 31, 22], [22, 29, 31]), ([32, 22], [22, 32]), ([28, 33, 22], [22, 28, 33]), ([22, 34], [22, 34])])
def spec_l3Steps.B15 : List Nat := [0, 0, 2, 7, 15, 31, 63, 127, 127, 383, 1023, 2047, 127, 4223, 127, 127, 32895, 114815, 245887, 520319, 1048575, 2097151, 4194303, 8388607, 8388607, 25165823, 67108863, 134217727, 268435455, 8388607, 8388607, 1082130431, 3766484991, 8061452287, 17179869183, 34359738367]
theorem spec_l3Steps.tab15 : rtab .any (opsOf Try.f109 15) = spec_l3Steps.T15 := by kernel_rfl
theorem spec_l3Steps.bits15 : waitsOk spec_l3Steps.T15.2 spec_l3Steps.B15 = true := by kernel_rfl
def spec_l3Steps.T16 : Bool × List (List Nat × List Nat) := (true, [([], []), ([], []), ([1], [1]), ([], []), ([], []), ([4], [4]), ([3, 5], [3, 5]), ([6], [6]), ([7], [7]), ([0, 2, 0, 1, 2, 3, 4, 5, 6, 7, 8], [0, 2]), ([9, 8, 0, 1, 2, 3, 4, 5, 6, 7, 8], [8, 9])])
def spec_l3Steps.B16 : List Nat := [0, 0, 2, 0, 0, 16, 56, 120, 248, 511, 1023]
theorem spec_l3Steps.tab16 : rtab .any (opsOf Try.f109 16) = spec_l3Steps.T16 := by kernel_rfl
theorem spec_l3Steps.bits16 : waitsOk spec_l3Steps.T16.2 spec_l3Steps.B16 = true := by kernel_rfl
set_option maxHeartbeats 8000000 in
set_option maxRecDepth 100000 in
theorem spec_l3Steps.calls (k : Nat) (a0_0 : Int) (A0_1 : Option Addr) (c0_1 : Nat) (l0_1 : List (S58)) (a1 : Int) (r : List Int) (w : World) (hr0_1 : Kd.C k58 w A0_1 l0_1.length l0_1) (hc0_1 : l0_1.length ≤ c0_1) (h : spec_l3Steps.f k a0_0 l0_1 a1 = some r) :
  Calls Try.prog 109 #[.agg #[.int .i64 a0_0, .slice A0_1 l0_1.length c0_1], .int .i64 a1] w fun e w' => ∃ v0_ : Value, e = .returned (v0_) ∧ Kd.R (Kd.int .i64) 3 w' w.heap.size (fun _ => True) v0_ r ∧ Below w.heap.size w w' := by
 have hu25 := Try.underlying25
 have hu58 := Try.underlying58
 have HR0_1 := ak hr0_1
 have HC0_1 := ak hc0_1
 clear hr0_1 hc0_1
 have HB := ak (Below.refl w.heap.size w)
 have H : ((spec_l1Back.f k a0_0 l0_1).bind fun bt675 => ((spec_l3All.f k bt675.1 bt675.2 a1).bind fun t679 => (if 0 ≤ a0_0 then (if (a0_0 : Int).toNat ≤ 35184372088832 then (spec_l3Steps.l0 k a1 t679 (List.replicate (a0_0 : Int).toNat 0) 0 a0_0 l0_1) else (none)) else (none)))) = some r := h
 clear h
 replace H := Option.bind_eq_some_iff.mp H
 obtain ⟨⟨t675, t676⟩, A30, H⟩ := H
 have A3 := ak A30
 clear A30
 replace H := Option.bind_eq_some_iff.mp H
 obtain ⟨t679, A40, H⟩ := H
 have A4 := ak A40
 clear A40
 by_cases c5 : 0 ≤ a0_0
 rotate_left
 ·rw [if_neg c5] at H
  exact absurd H (by simp)
 rw [if_pos c5] at H
 have c5b0 := eq_true c5
 have c5b1 : decide (0 ≤ a0_0) = true := decide_eq_true c5
 clear c5
 by_cases c6 : (a0_0 : Int).toNat ≤ 35184372088832
 rotate_left
 ·rw [if_neg c6] at H
  exact absurd H (by simp)
 rw [if_pos c6] at H
 have c6b0 := eq_true c6
 have c6b1 : decide ((a0_0 : Int).toNat ≤ 35184372088832) = true := decide_eq_true c6
 clear c6
 obtain ⟨y682, hy682⟩ : ∃ y_ : List Int, y_ = (List.replicate (a0_0 : Int).toNat 0) := ⟨_, rfl⟩
 replace H : (spec_l3Steps.l0 k a1 t679 y682 0 a0_0 l0_1) = some r := by first | (rw [hy682]; with_reducible exact H) | (have H2_ := (Option.bind_some _ _).symm.trans H; rw [hy682]; with_reducible exact H2_) | (have H2_ := (Option.bind_some _ _).symm.trans H; with_reducible exact H2_) | with_reducible exact H | (rw [hy682]; exact H) | exact H
 have Ny682 := ak hy682
 clear hy682
 have H' := ak H
 clear H
 go_enter Try.func109, Try.ntmps109
 go_wp2_with (first | ((with_reducible refine gate_dst (N := 2) rfl ?_); refine box_event ?hg (N := 2) ?hd (cs := #[.int .i64 a0_0, .slice A0_1 l0_1.length c0_1]) (t := 25) ?hr ?_; (case hd => rfl); (case hg => rfl); (case hr => first | (go_simp; done) | (go_simp; rfl)); intro gb674 hg w7 hbox hb; have BK674 := ak (hbox); have GW674 := ak ((by rw [hg]; exact (below_size (bl HB)) : w.heap.size ≤ gb674)); have GE674 := ak ((by rw [hg]; exact (below_size (bl HB)) : w.heap.size ≤ gb674)); replace HB := ak (below_step (bl HB) hb); clear hb hbox hg; have hcz8_0 := bc w7 BK674 0 (.int .i64 a0_0) rfl; have hcz8_1 := bc w7 BK674 1 (.slice A0_1 l0_1.length c0_1) rfl; have hfz8_0 := fz BK674 0; have hfz8_1 := fz BK674 1) | ((with_reducible refine gate_callee (f := 108) rfl ?_); refine goesL_ (some 12) rfl rfl Try.func108 (by kernel_rfl) rfl #[.agg #[.int .i64 a0_0, .slice A0_1 l0_1.length c0_1]] rfl (by (try simp only [List.map_toArray, List.map_cons, List.map_nil]); first | done | rfl | (simp only [List.length_drop, List.length_take]; rfl)) ?_; (with_reducible refine (spec_l1Back.calls k a0_0 _ _ l0_1 t675 t676 _ ?side1 ?side2 A3.out).mono ?_); (case side1 => repeat (first | exact (Kd.C_below HR0_1.out HB.out) | (with_reducible refine Kd.C_alloc ?_ _) | (with_reducible refine Kd.C_drewN ?_ _) | (with_reducible refine Kd.C_drew ?_))); (case side2 => exact HC0_1.out); rintro e w9 ⟨v677, rfl, ho0, hb⟩; refine ⟨_, rfl, ?_⟩; have HO678 := ak (Kd.R_lower ho0 (below_size (bl1 HB GE674))); replace BK674 := ak (blk_below (bk BK674) hb); replace HB := ak (below_step (bl1 HB GE674) hb); (try clear hb); (try clear hb2); (try clear hk); (try clear hi); (try clear ho0); obtain ⟨Ao10, co10, eo10⟩ := Kd.R_slice HO678.out; subst eo10) | ((with_reducible refine gate_callee (f := 107) rfl ?_); refine goesL_ (some 14) rfl rfl Try.func107 (by kernel_rfl) rfl #[.agg #[.int .i64 t675, .slice Ao10 t676.length co10], .int .i64 a1] rfl (by (try simp only [List.map_toArray, List.map_cons, List.map_nil]); first | done | rfl | (simp only [List.length_drop, List.length_take]; rfl)) ?_; (with_reducible refine (spec_l3All.calls k t675 _ _ t676 a1 t679 _ ?side1 ?side2 A4.out).mono ?_); (case side1 => repeat (first | exact (Kd.R_reads' HO678.out).2.2 | (with_reducible refine Kd.C_alloc ?_ _) | (with_reducible refine Kd.C_drewN ?_ _) | (with_reducible refine Kd.C_drew ?_))); (case side2 => exact (Kd.R_reads' HO678.out).2.1); rintro e w11 ⟨v680, rfl, ho0, hb⟩; refine ⟨_, rfl, ?_⟩; replace HO678 := ak (Kd.R_below (rk HO678) hb); have HO681 := ak (Kd.R_lower ho0 (below_size (bl1 HB GE674))); replace BK674 := ak (blk_below (bk BK674) hb); replace HB := ak (below_step (bl1 HB GE674) hb); (try clear hb); (try clear hb2); (try clear hk); (try clear hi); (try clear ho0); have hcz12_0 := bc w11 BK674 0 (.int .i64 a0_0) rfl; have hcz12_1 := bc w11 BK674 1 (.slice A0_1 l0_1.length c0_1) rfl; have hfz12_0 := fz BK674 0; have hfz12_1 := fz BK674 1) | ((with_reducible refine gate_dst (N := 17) rfl ?_); refine Kd.R_make (Kd.int .i64) _ 3 rfl (N := 17) rfl 33 _ _ rfl a0_0 rfl rfl Try.underlying33 (.int .i64 0) 8 info3 rfl (by decide) (by omega) 0 (ok := fun _ => True) (okp := fun _ => True) rfl (fun _ hk => hk) trivial (oT (by first | (with_reducible assumption) | assumption)) (Nat.le_trans (Nat.mul_le_mul_right _ (oT (by first | (with_reducible assumption) | assumption) : a0_0.toNat ≤ 35184372088832)) (by omega)) (Below.refl _ _) (Nat.le_refl _) ?_; intro v683 w13 ho14 hb hg_ hnew_; clear hg_ hnew_; (first | rw [← Ny682.out] at ho14 | (simp only [Int.reduceToNat] at ho14; rw [← Ny682.out] at ho14)); replace HO678 := ak (Kd.R_below (rk HO678) hb); have HO684 := ak (Kd.R_lower (Kd.R_new' ho14 (Kd.R_lt (rk HO681))) (below_size (bl1 HB GE674))); replace HO681 := ak (Kd.R_elder' (rk HO681) (Kd.R_base ho14) hb); replace BK674 := ak (blk_below (bk BK674) hb); replace HB := ak (below_step (bl1 HB GE674) hb); clear hb ho14))
 go_loopg [7] k (fun kq v7 w' => ∃ (x6_1 : List Int) (x7_1 : Int), v7 = .int .i64 x7_1 ∧ Aside0 (spec_l3Steps.l0 kq a1 t679 x6_1 x7_1 a0_0 l0_1 = some r) ∧ Aside0 (kq ≤ k) ∧ Aside0 (Kd.R (Kd.int .i64) 3 w' w.heap.size (fun k_ => some k_ ≠ (v683 : Value).ownBlock) v680 t679) ∧ Aside0 (Kd.R (Kd.int .i64) 3 w' w.heap.size (fun k_ => some k_ ≠ (v680 : Value).ownBlock) v683 x6_1) ∧ Aside0 (w'.heap[gb674]? = some (.cells #[.int .i64 a0_0, (.slice A0_1 l0_1.length c0_1)] 25 (0, 0))) ∧ Aside0 (Below w.heap.size w w'))
 case atStart => exact ⟨(y682), (0), (by first | rfl | (simp; done) | (simp [*]; done)), H', ⟨Nat.le_refl _⟩, ⟨by (with_reducible repeat (first | apply Kd.R_alloc | apply Kd.R_drewN | apply Kd.R_drew)); exact Kd.R_mono HO681.out (fun _ hk => hk.2)⟩, ⟨by (with_reducible repeat (first | apply Kd.R_alloc | apply Kd.R_drewN | apply Kd.R_drew)); exact Kd.R_mono HO684.out (fun _ hk => hk.2)⟩, ⟨bk BK674⟩, ⟨bl1 HB GE674⟩⟩
 clear H'
 try clear c1
 try clear p2
 try clear c5
 try clear c5b0
 try clear c5b1
 try clear c6
 try clear c6b0
 try clear c6b1
 try clear c10
 try clear hcz12_0
 try clear hcz12_1
 try clear hcz8_0
 try clear hcz8_1
 try clear hfz12_0
 try clear hfz12_1
 try clear hfz8_0
 try clear hfz8_1
 obtain ⟨x6_1, x7_1, rfl, HA, HK1, HO_5, HO_6, BK674, HB⟩ := hrel
 cases gk with
 | zero => exact absurd HA.out (by simp [spec_l3Steps.l0])
 | succ k1 =>
  have H := HA.out
  clear HA
  simp only [spec_l3Steps.l0] at H
  by_cases c15 : x7_1 < a0_0
  ·rw [if_pos c15] at H
   have c15b0 : decide (x7_1 < a0_0) = true := decide_eq_true c15
   clear c15
   by_cases c16 : 0 ≤ x7_1
   rotate_left
   ·rw [if_neg c16] at H
    exact absurd H (by simp)
   rw [if_pos c16] at H
   have c16b0 : decide (0 ≤ x7_1) = true := decide_eq_true c16
   clear c16
   by_cases c17 : x7_1 < (x6_1.length : Int)
   rotate_left
   ·rw [if_neg c17] at H
    exact absurd H (by simp)
   rw [if_pos c17] at H
   have c17b0 : decide (x7_1 < (x6_1.length : Int)) = true := decide_eq_true c17
   clear c17
   obtain ⟨y685, hy685⟩ : ∃ y_ : List Int, y_ = (x6_1.set (x7_1 : Int).toNat 99999) := ⟨_, rfl⟩
   replace H : (spec_l3Steps.l0 k1 a1 t679 y685 (wrap64 (x7_1 + 1)) a0_0 l0_1) = some r := by first | (rw [hy685]; with_reducible exact H) | (have H2_ := (Option.bind_some _ _).symm.trans H; rw [hy685]; with_reducible exact H2_) | (have H2_ := (Option.bind_some _ _).symm.trans H; with_reducible exact H2_) | with_reducible exact H | (rw [hy685]; exact H) | exact H
   have Ny685 := ak hy685
   clear hy685
   have H' := ak H
   clear H
   have hcz19_0 := bc wr BK674 0 (.int .i64 a0_0) rfl
   have hcz19_1 := bc wr BK674 1 (.slice A0_1 l0_1.length c0_1) rfl
   have hfz19_0 := fz BK674 0
   have hfz19_1 := fz BK674 1
   have p18 : 0 ≤ (x7_1 : Int) := oT (by first | (with_reducible assumption) | assumption)
   have q18 : (x7_1 : Int) < ((x6_1.length : Int) : Int) := oT (by first | (with_reducible assumption) | assumption)
   obtain ⟨go18, co18, eo18, gb18, gl18, cl18, HG18⟩ := Kd.R_form HO_6.out (by omega)
   (first | cases eo18 | (injection eo18 with ea_ en_ ec_; (first | subst ea_ | (injection ea_ with ea_; subst ea_)); subst ec_; clear en_))
   have GB18 := ak gb18
   have GG18 := ak HG18
   clear gb18 gl18 HG18
   obtain ⟨hx18_0, hf18_0⟩ := Kd.R_celln 0 HO_6.out (x7_1 : Int) p18 q18
   replace p18 := eq_true p18
   replace q18 := eq_true q18
   have HP20 := Kd.R_putg HO_6.out (x7_1 : Int) 99999
   go_wp2_with (first | ((with_reducible refine gate_store (t := 3) (p := 26) rfl ?_); refine store_event (t := 3) (p := 26) (v := ?vo_w21) (w1 := (wr.setCell ⟨go18, (x7_1 : Int).toNat, none⟩ (.int .i64 99999))) ?hg ?ho ?hn ?hr ?_; (case ho => rfl); (case hg => rfl); (case hn => rfl); (case hr => first | (go_simp; done) | (go_simp; rfl)); intro w21 hw; have hg : wr.grownBy w21 (some go18) := (by rw [hw]; exact HP20.2); have hp_ : Kd.R (Kd.int .i64) 3 w21 w.heap.size (fun k_ => some k_ ≠ (v680 : Value).ownBlock) (.slice (some ⟨go18, 0, none⟩) x6_1.length co18) y685 := (by rw [hw, Ny685.out]; exact HP20.1); clear HP20; replace HO_5 := ak (Kd.R_after (v := (.slice (some ⟨go18, 0, none⟩) x6_1.length co18)) (v1 := (.slice (some ⟨go18, 0, none⟩) x6_1.length co18)) (ok := (fun _ => True)) (by (with_reducible repeat (first | apply Kd.R_alloc | apply Kd.R_drewN | apply Kd.R_drew)); exact Kd.R_mono HO_5.out (fun _ hk => ⟨trivial, hk⟩)) hg (.inl rfl)); replace BK674 := ak (blk_grown (bk BK674) hg (Kd.R_ne HO_6.out BK674.out (by decide))); replace HO_6 := ak (hp_); replace HB := ak ((by rw [hw]; exact below_set (HB.out) GB18.out : Below w.heap.size w w21)); clear hg hw hp_))
   go_roundg k1
   case measure => have := HK1.out; omega
   case rel => exact ⟨(y685), (wrap64 (x7_1 + 1)), (by first | rfl | (simp; done) | (simp [*]; done)), H', ⟨by have := HK1.out; omega⟩, ⟨by (with_reducible repeat (first | apply Kd.R_alloc | apply Kd.R_drewN | apply Kd.R_drew)); exact Kd.R_mono HO_5.out (fun _ hk => hk.2)⟩, ⟨rk HO_6⟩, ⟨bk BK674⟩, ⟨bl1 HB GE674⟩⟩
  rw [if_neg c15] at H
  have c15b0 : decide (x7_1 < a0_0) = false := decide_eq_false c15
  clear c15
  by_cases c22 : 0 ≤ a1
  rotate_left
  ·rw [if_neg c22] at H
   exact absurd H (by simp)
  rw [if_pos c22] at H
  have c22b0 : decide (0 ≤ a1) = true := decide_eq_true c22
  clear c22
  by_cases c23 : a1 < (x6_1.length : Int)
  rotate_left
  ·rw [if_neg c23] at H
   exact absurd H (by simp)
  rw [if_pos c23] at H
  have c23b0 : decide (a1 < (x6_1.length : Int)) = true := decide_eq_true c23
  clear c23
  obtain ⟨y686, hy686⟩ : ∃ y_ : List Int, y_ = (x6_1.set (a1 : Int).toNat 0) := ⟨_, rfl⟩
  replace H : (spec_l3Steps.l1 k1 t679 y686 0 a0_0 l0_1) = some r := by first | (rw [hy686]; with_reducible exact H) | (have H2_ := (Option.bind_some _ _).symm.trans H; rw [hy686]; with_reducible exact H2_) | (have H2_ := (Option.bind_some _ _).symm.trans H; with_reducible exact H2_) | with_reducible exact H | (rw [hy686]; exact H) | exact H
  have Ny686 := ak hy686
  clear hy686
  have H' := ak H
  clear H
  have hcz25_0 := bc wr BK674 0 (.int .i64 a0_0) rfl
  have hcz25_1 := bc wr BK674 1 (.slice A0_1 l0_1.length c0_1) rfl
  have hfz25_0 := fz BK674 0
  have hfz25_1 := fz BK674 1
  have p24 : 0 ≤ (a1 : Int) := oT (by first | (with_reducible assumption) | assumption)
  have q24 : (a1 : Int) < ((x6_1.length : Int) : Int) := oT (by first | (with_reducible assumption) | assumption)
  obtain ⟨go24, co24, eo24, gb24, gl24, cl24, HG24⟩ := Kd.R_form HO_6.out (by omega)
  (first | cases eo24 | (injection eo24 with ea_ en_ ec_; (first | subst ea_ | (injection ea_ with ea_; subst ea_)); subst ec_; clear en_))
  have GB24 := ak gb24
  have GG24 := ak HG24
  clear gb24 gl24 HG24
  obtain ⟨hx24_0, hf24_0⟩ := Kd.R_celln 0 HO_6.out (a1 : Int) p24 q24
  replace p24 := eq_true p24
  replace q24 := eq_true q24
  have HP26 := Kd.R_putg HO_6.out (a1 : Int) 0
  go_wp2_with (first | ((with_reducible refine gate_store (t := 3) (p := 29) rfl ?_); refine store_event (t := 3) (p := 29) (v := ?vo_w27) (w1 := (wr.setCell ⟨go24, (a1 : Int).toNat, none⟩ (.int .i64 0))) ?hg ?ho ?hn ?hr ?_; (case ho => rfl); (case hg => rfl); (case hn => rfl); (case hr => first | (go_simp; done) | (go_simp; rfl)); intro w27 hw; have hg : wr.grownBy w27 (some go24) := (by rw [hw]; exact HP26.2); have hp_ : Kd.R (Kd.int .i64) 3 w27 w.heap.size (fun k_ => some k_ ≠ (v680 : Value).ownBlock) (.slice (some ⟨go24, 0, none⟩) x6_1.length co24) y686 := (by rw [hw, Ny686.out]; exact HP26.1); clear HP26; replace HO_5 := ak (Kd.R_after (v := (.slice (some ⟨go24, 0, none⟩) x6_1.length co24)) (v1 := (.slice (some ⟨go24, 0, none⟩) x6_1.length co24)) (ok := (fun _ => True)) (by (with_reducible repeat (first | apply Kd.R_alloc | apply Kd.R_drewN | apply Kd.R_drew)); exact Kd.R_mono HO_5.out (fun _ hk => ⟨trivial, hk⟩)) hg (.inl rfl)); replace BK674 := ak (blk_grown (bk BK674) hg (Kd.R_ne HO_6.out BK674.out (by decide))); replace HO_6 := ak (hp_); replace HB := ak ((by rw [hw]; exact below_set (HB.out) GB24.out : Below w.heap.size w w27)); clear hg hw hp_))
  go_loopg [8] k1 (fun kq v8 w' => ∃ (x6_2 : List Int) (x8_2 : Int), v8 = .int .i64 x8_2 ∧ Aside0 (spec_l3Steps.l1 kq t679 x6_2 x8_2 a0_0 l0_1 = some r) ∧ Aside0 (kq ≤ k1) ∧ Aside0 (Kd.R (Kd.int .i64) 3 w' w.heap.size (fun k_ => some k_ ≠ ((.slice (some ⟨go24, 0, none⟩) x6_1.length co24) : Value).ownBlock) v680 t679) ∧ Aside0 (Kd.R (Kd.int .i64) 3 w' w.heap.size (fun k_ => some k_ ≠ (v680 : Value).ownBlock) (.slice (some ⟨go24, 0, none⟩) x6_1.length co24) x6_2) ∧ Aside0 (w'.heap[gb674]? = some (.cells #[.int .i64 a0_0, (.slice A0_1 l0_1.length c0_1)] 25 (0, 0))) ∧ Aside0 (Below w.heap.size w w'))
  case atStart => exact ⟨(y686), (0), (by first | rfl | (simp; done) | (simp [*]; done)), H', ⟨Nat.le_refl _⟩, ⟨by (with_reducible repeat (first | apply Kd.R_alloc | apply Kd.R_drewN | apply Kd.R_drew)); exact Kd.R_mono HO_5.out (fun _ hk => hk.2)⟩, ⟨rk HO_6⟩, ⟨bk BK674⟩, ⟨bl1 HB GE674⟩⟩
  clear H'
  try clear c1
  try clear p1
  try clear q1
  try clear hx1
  try clear c2
  try clear p2
  try clear q2
  try clear hx2
  try clear hf2
  try clear c5
  try clear c5b0
  try clear c5b1
  try clear c6
  try clear c6b0
  try clear c6b1
  try clear p6
  try clear c10
  try clear c15
  try clear c15b0
  try clear c16
  try clear c16b0
  try clear c17
  try clear c17b0
  try clear p18
  try clear q18
  try clear hx18
  try clear hf18
  try clear c22
  try clear c22b0
  try clear c23
  try clear c23b0
  try clear p24
  try clear q24
  try clear hx24
  try clear hf24
  try clear hcz12_0
  try clear hcz12_1
  try clear hcz19_0
  try clear hcz19_1
  try clear hcz25_0
  try clear hcz25_1
  try clear hcz8_0
  try clear hcz8_1
  try clear hfz12_0
  try clear hfz12_1
  try clear hfz19_0
  try clear hfz19_1
  try clear hfz25_0
  try clear hfz25_1
  try clear hfz8_0
  try clear hfz8_1
  try clear hx18_0
  try clear hx24_0
  try clear p18
  try clear p2
  try clear p24
  try clear q18
  try clear q24
  obtain ⟨x6_2, x8_2, rfl, HA, HK2, HO_5, HO_6, BK674, HB⟩ := hrel
  have hl6_2 := (Kd.R_reads' HO_6.out).1
  rw [hl6_2] at HO_6
  (try simp only [hl6_2])
  (try simp only [hl6_2] at BK674)
  (try simp only [hl6_2] at HO_5)
  cases gk with
  | zero => exact absurd HA.out (by simp [spec_l3Steps.l1])
  | succ k2 =>
   have H := HA.out
   clear HA
   simp only [spec_l3Steps.l1] at H
   by_cases c28 : x8_2 < a0_0
   rotate_left
   ·rw [if_neg c28] at H
    have c28b0 : decide (x8_2 < a0_0) = false := decide_eq_false c28
    clear c28
    obtain rfl := Option.some.inj H
    have hcz73_0 := bc wr BK674 0 (.int .i64 a0_0) rfl
    have hcz73_1 := bc wr BK674 1 (.slice A0_1 l0_1.length c0_1) rfl
    have hfz73_0 := fz BK674 0
    have hfz73_1 := fz BK674 1
    go_wp2
    go_ret
    exact ⟨_, by first | rfl | (simp [errW_none, errW_some] <;> rfl) | (simp [*, errW_none, errW_some] <;> rfl), by (with_reducible repeat (first | apply Kd.R_alloc | apply Kd.R_drewN | apply Kd.R_drew)); exact Kd.R_mono HO_6.out (fun _ hk => trivial), bl1 HB GE674⟩
   rw [if_pos c28] at H
   have c28b0 : decide (x8_2 < a0_0) = true := decide_eq_true c28
   clear c28
   have H' := ak H
   clear H
   have hcz29_0 := bc wr BK674 0 (.int .i64 a0_0) rfl
   have hcz29_1 := bc wr BK674 1 (.slice A0_1 l0_1.length c0_1) rfl
   have hfz29_0 := fz BK674 0
   have hfz29_1 := fz BK674 1
   go_wp2
   go_loopg [9] k2 (fun kq v9 w' => ∃ (x6_3 : List Int) (x9_3 : Int), v9 = .int .i64 x9_3 ∧ Aside0 (spec_l3Steps.l2 kq t679 x6_3 x8_2 x9_3 a0_0 l0_1 = some r) ∧ Aside0 (kq ≤ k2) ∧ Aside0 (Kd.R (Kd.int .i64) 3 w' w.heap.size (fun k_ => some k_ ≠ ((.slice (some ⟨go24, 0, none⟩) x6_2.length co24) : Value).ownBlock) v680 t679) ∧ Aside0 (Kd.R (Kd.int .i64) 3 w' w.heap.size (fun k_ => some k_ ≠ (v680 : Value).ownBlock) (.slice (some ⟨go24, 0, none⟩) x6_2.length co24) x6_3) ∧ Aside0 (w'.heap[gb674]? = some (.cells #[.int .i64 a0_0, (.slice A0_1 l0_1.length c0_1)] 25 (0, 0))) ∧ Aside0 (Below w.heap.size w w'))
   case atStart => exact ⟨(x6_2), (0), (by first | rfl | (simp; done) | (simp [*]; done)), H', ⟨Nat.le_refl _⟩, ⟨by (try simp only [hl6_2]); (with_reducible repeat (first | apply Kd.R_alloc | apply Kd.R_drewN | apply Kd.R_drew)); exact HO_5.out⟩, ⟨by (try simp only [hl6_2]); (with_reducible repeat (first | apply Kd.R_alloc | apply Kd.R_drewN | apply Kd.R_drew)); exact HO_6.out⟩, ⟨by (try simp only [hl6_2]); (with_reducible repeat (first | refine blk_drewN ?_ _ | refine blk_drew ?_ | refine blk_alloc ?_ _)); exact BK674.out⟩, ⟨bl1 HB GE674⟩⟩
   clear H'
   try clear c1
   try clear p1
   try clear q1
   try clear hx1
   try clear c2
   try clear p2
   try clear q2
   try clear hx2
   try clear hf2
   try clear c5
   try clear c5b0
   try clear c5b1
   try clear c6
   try clear c6b0
   try clear c6b1
   try clear p6
   try clear c10
   try clear c15
   try clear c15b0
   try clear c16
   try clear c16b0
   try clear c17
   try clear c17b0
   try clear p18
   try clear q18
   try clear hx18
   try clear hf18
   try clear c22
   try clear c22b0
   try clear c23
   try clear c23b0
   try clear p24
   try clear q24
   try clear hx24
   try clear hf24
   try clear c28
   try clear c28b0
   try clear hcz12_0
   try clear hcz12_1
   try clear hcz19_0
   try clear hcz19_1
   try clear hcz25_0
   try clear hcz25_1
   try clear hcz29_0
   try clear hcz29_1
   try clear hcz8_0
   try clear hcz8_1
   try clear hfz12_0
   try clear hfz12_1
   try clear hfz19_0
   try clear hfz19_1
   try clear hfz25_0
   try clear hfz25_1
   try clear hfz29_0
   try clear hfz29_1
   try clear hfz8_0
   try clear hfz8_1
   try clear hx18_0
   try clear hx24_0
   try clear p1
   try clear p18
   try clear p2
   try clear p24
   try clear p6
   try clear q1
   try clear q18
   try clear q2
   try clear q24
   obtain ⟨x6_3, x9_3, rfl, HA, HK3, HO_5, HO_6, BK674, HB⟩ := hrel
   have hl6_3 := (Kd.R_reads' HO_6.out).1
   rw [hl6_3] at HO_6
   (try simp only [hl6_3])
   (try simp only [hl6_3] at BK674)
   (try simp only [hl6_3] at HO_5)
   cases gk with
   | zero => exact absurd HA.out (by simp [spec_l3Steps.l2])
   | succ k3 =>
    have H := HA.out
    clear HA
    simp only [spec_l3Steps.l2] at H
    by_cases c30 : x9_3 < (l0_1.length : Int)
    rotate_left
    ·rw [if_neg c30] at H
     have c30b0 : decide (x9_3 < (l0_1.length : Int)) = false := decide_eq_false c30
     clear c30
     have H' := ak H
     clear H
     have hcz72_0 := bc wr BK674 0 (.int .i64 a0_0) rfl
     have hcz72_1 := bc wr BK674 1 (.slice A0_1 l0_1.length c0_1) rfl
     have hfz72_0 := fz BK674 0
     have hfz72_1 := fz BK674 1
     go_wp2
     (try simp only [← hl6_2, ← hl6_3])
     go_roundg k3
     case measure => have := HK1.out; have := HK2.out; have := HK3.out; omega
     case rel => exact ⟨(x6_3), (wrap64 (x8_2 + 1)), (by first | rfl | (simp; done) | (simp [*]; done)), H', ⟨by have := HK1.out; have := HK2.out; have := HK3.out; omega⟩, ⟨by (try simp only [hl6_2]); (try simp only [hl6_3]); (with_reducible repeat (first | apply Kd.R_alloc | apply Kd.R_drewN | apply Kd.R_drew)); exact HO_5.out⟩, ⟨by (try simp only [hl6_2]); (try simp only [hl6_3]); (with_reducible repeat (first | apply Kd.R_alloc | apply Kd.R_drewN | apply Kd.R_drew)); exact HO_6.out⟩, ⟨by (try simp only [hl6_2]); (try simp only [hl6_3]); (with_reducible repeat (first | refine blk_drewN ?_ _ | refine blk_drew ?_ | refine blk_alloc ?_ _)); exact BK674.out⟩, ⟨bl1 HB GE674⟩⟩
    rw [if_pos c30] at H
    have c30b0 : decide (x9_3 < (l0_1.length : Int)) = true := decide_eq_true c30
    clear c30
    by_cases c31 : 0 ≤ x9_3
    rotate_left
    ·rw [if_neg c31] at H
     exact absurd H (by simp)
    rw [if_pos c31] at H
    have c31b0 : decide (0 ≤ x9_3) = true := decide_eq_true c31
    clear c31
    by_cases c32 : 0 ≤ ((rd_T58 l0_1 x9_3).f1)
    rotate_left
    ·rw [if_neg c32] at H
     exact absurd H (by simp)
    rw [if_pos c32] at H
    have c32b0 : decide (0 ≤ ((rd_T58 l0_1 x9_3).f1)) = true := decide_eq_true c32
    clear c32
    by_cases c33 : ((rd_T58 l0_1 x9_3).f1) < (t679.length : Int)
    rotate_left
    ·rw [if_neg c33] at H
     exact absurd H (by simp)
    rw [if_pos c33] at H
    have c33b0 : decide (((rd_T58 l0_1 x9_3).f1) < (t679.length : Int)) = true := decide_eq_true c33
    clear c33
    by_cases c34 : (rd t679 ((rd_T58 l0_1 x9_3).f1)) < 99999
    rotate_left
    ·rw [if_neg c34] at H
     have c34b0 : decide ((rd t679 ((rd_T58 l0_1 x9_3).f1)) < 99999) = false := decide_eq_false c34
     clear c34
     have H' := ak H
     clear H
     have hcz65_0 := bc wr BK674 0 (.int .i64 a0_0) rfl
     have hcz65_1 := bc wr BK674 1 (.slice A0_1 l0_1.length c0_1) rfl
     have hfz65_0 := fz BK674 0
     have hfz65_1 := fz BK674 1
     have p687 : 0 ≤ (x9_3 : Int) := oT (by first | (with_reducible assumption) | assumption)
     have q687 : x9_3 < (l0_1.length : Int) := oT (by first | (with_reducible assumption) | assumption)
     obtain ⟨ad687, e687, hx687_0, hx687_1, hx687_2, hx687_3, hx687_4⟩ := at_T58 HR0_1.out x9_3 p687 q687
     cases e687
     replace hx687_0 := hcb HB.out hx687_0
     replace hx687_1 := hcb HB.out hx687_1
     replace hx687_2 := hcb HB.out hx687_2
     replace hx687_3 := hcb HB.out hx687_3
     replace hx687_4 := hcb HB.out hx687_4
     replace p687 := eq_true p687
     replace q687 := eq_true q687
     try go_wp2_with (first | ((with_reducible refine gate_dst (N := 10) rfl ?_); refine box_event ?hg (N := 10) ?hd (cs := #[.int .i64 0, .int .i64 0, .int .i64 0, .int .i64 0, .int .i64 0]) (t := 58) ?hr ?_; (case hd => rfl); (case hg => rfl); (case hr => first | (go_simp; done) | (go_simp; rfl)); intro gb688 hg w66 hbox hb; replace HO_5 := ak (Kd.R_below (rk HO_5) hb); replace HO_6 := ak (Kd.R_below (rk HO_6) hb); have BK688 := ak (hbox); have GW688 := ak ((by rw [hg]; exact (below_size (bl1 HB GE674)) : w.heap.size ≤ gb688)); have GE688 := ak ((by rw [hg]; exact (below_size (bl1 HB GE674)) : w.heap.size ≤ gb688)); replace HB := ak (below_step (bl1 HB GE674) hb); have NB674_688 := ak ((by rw [hg]; exact Nat.ne_of_lt (blk_lt (bk BK674)) : gb674 ≠ gb688)); have NB688_674 := ak ((by rw [hg]; exact Nat.ne_of_gt (blk_lt (bk BK674)) : gb688 ≠ gb674)); replace BK674 := ak (blk_below (bk BK674) hb); clear hb hbox hg; have hnb67 := NB688_674.out; have hnc67 := NB674_688.out; have hcz68_0 := bc w66 BK688 0 (.int .i64 0) rfl; have hcz68_1 := bc w66 BK688 1 (.int .i64 0) rfl; have hcz68_2 := bc w66 BK688 2 (.int .i64 0) rfl; have hcz68_3 := bc w66 BK688 3 (.int .i64 0) rfl; have hcz68_4 := bc w66 BK688 4 (.int .i64 0) rfl; have hfz68_0 := fz BK688 0; have hfz68_1 := fz BK688 1; have hfz68_2 := fz BK688 2; have hfz68_3 := fz BK688 3; have hfz68_4 := fz BK688 4))
     have n0_ : Aside0 (Kd.R (Kd.int .i64) 3 (((((w66.setCell ⟨gb688, 0, none⟩ (.int .i64 ((rd_T58 l0_1 x9_3).f0))).setCell ⟨gb688, 1, none⟩ (.int .i64 ((rd_T58 l0_1 x9_3).f1))).setCell ⟨gb688, 2, none⟩ (.int .i64 ((rd_T58 l0_1 x9_3).f2))).setCell ⟨gb688, 3, none⟩ (.int .i64 ((rd_T58 l0_1 x9_3).f3))).setCell ⟨gb688, 4, none⟩ (.int .i64 ((rd_T58 l0_1 x9_3).f4))) w.heap.size (fun k_ => some k_ ≠ (.slice (some ⟨go24, 0, none⟩) x6_3.length co24 : Value).ownBlock) v680 t679) := ⟨by (with_reducible repeat (first | apply Kd.R_alloc | apply Kd.R_drewN | apply Kd.R_drew)); exact Kd.R_mono (Kd.R_far (p := ⟨gb688, 4, none⟩) (Kd.R_far (p := ⟨gb688, 3, none⟩) (Kd.R_far (p := ⟨gb688, 2, none⟩) (Kd.R_far (p := ⟨gb688, 1, none⟩) (Kd.R_far (p := ⟨gb688, 0, none⟩) (Kd.R_types HO_5.out BK688.out (by decide)) (fun _ hk => hk.2) (.int .i64 ((rd_T58 l0_1 x9_3).f0))) (fun _ hk => hk.2) (.int .i64 ((rd_T58 l0_1 x9_3).f1))) (fun _ hk => hk.2) (.int .i64 ((rd_T58 l0_1 x9_3).f2))) (fun _ hk => hk.2) (.int .i64 ((rd_T58 l0_1 x9_3).f3))) (fun _ hk => hk.2) (.int .i64 ((rd_T58 l0_1 x9_3).f4))) (fun _ hk => hk.1)⟩
     have n1_ : Aside0 (Kd.R (Kd.int .i64) 3 (((((w66.setCell ⟨gb688, 0, none⟩ (.int .i64 ((rd_T58 l0_1 x9_3).f0))).setCell ⟨gb688, 1, none⟩ (.int .i64 ((rd_T58 l0_1 x9_3).f1))).setCell ⟨gb688, 2, none⟩ (.int .i64 ((rd_T58 l0_1 x9_3).f2))).setCell ⟨gb688, 3, none⟩ (.int .i64 ((rd_T58 l0_1 x9_3).f3))).setCell ⟨gb688, 4, none⟩ (.int .i64 ((rd_T58 l0_1 x9_3).f4))) w.heap.size (fun k_ => some k_ ≠ (v680 : Value).ownBlock) (.slice (some ⟨go24, 0, none⟩) x6_3.length co24) x6_3) := ⟨by (with_reducible repeat (first | apply Kd.R_alloc | apply Kd.R_drewN | apply Kd.R_drew)); exact Kd.R_mono (Kd.R_far (p := ⟨gb688, 4, none⟩) (Kd.R_far (p := ⟨gb688, 3, none⟩) (Kd.R_far (p := ⟨gb688, 2, none⟩) (Kd.R_far (p := ⟨gb688, 1, none⟩) (Kd.R_far (p := ⟨gb688, 0, none⟩) (Kd.R_types HO_6.out BK688.out (by decide)) (fun _ hk => hk.2) (.int .i64 ((rd_T58 l0_1 x9_3).f0))) (fun _ hk => hk.2) (.int .i64 ((rd_T58 l0_1 x9_3).f1))) (fun _ hk => hk.2) (.int .i64 ((rd_T58 l0_1 x9_3).f2))) (fun _ hk => hk.2) (.int .i64 ((rd_T58 l0_1 x9_3).f3))) (fun _ hk => hk.2) (.int .i64 ((rd_T58 l0_1 x9_3).f4))) (fun _ hk => hk.1)⟩
     have n2_ : Aside0 ((((((w66.setCell ⟨gb688, 0, none⟩ (.int .i64 ((rd_T58 l0_1 x9_3).f0))).setCell ⟨gb688, 1, none⟩ (.int .i64 ((rd_T58 l0_1 x9_3).f1))).setCell ⟨gb688, 2, none⟩ (.int .i64 ((rd_T58 l0_1 x9_3).f2))).setCell ⟨gb688, 3, none⟩ (.int .i64 ((rd_T58 l0_1 x9_3).f3))).setCell ⟨gb688, 4, none⟩ (.int .i64 ((rd_T58 l0_1 x9_3).f4))).heap[gb674]? = some (.cells #[.int .i64 a0_0, .slice (some ad687) l0_1.length c0_1] 25 (0, 0))) := ⟨by (with_reducible repeat (first | refine blk_drewN ?_ _ | refine blk_drew ?_ | refine blk_alloc ?_ _)); refine blk_far ?_ NB674_688.out _; refine blk_far ?_ NB674_688.out _; refine blk_far ?_ NB674_688.out _; refine blk_far ?_ NB674_688.out _; refine blk_far ?_ NB674_688.out _; (with_reducible repeat (first | refine blk_drewN ?_ _ | refine blk_drew ?_ | refine blk_alloc ?_ _)); exact BK674.out⟩
     have n3_ : Aside0 ((((((w66.setCell ⟨gb688, 0, none⟩ (.int .i64 ((rd_T58 l0_1 x9_3).f0))).setCell ⟨gb688, 1, none⟩ (.int .i64 ((rd_T58 l0_1 x9_3).f1))).setCell ⟨gb688, 2, none⟩ (.int .i64 ((rd_T58 l0_1 x9_3).f2))).setCell ⟨gb688, 3, none⟩ (.int .i64 ((rd_T58 l0_1 x9_3).f3))).setCell ⟨gb688, 4, none⟩ (.int .i64 ((rd_T58 l0_1 x9_3).f4))).heap[gb688]? = some (.cells #[.int .i64 ((rd_T58 l0_1 x9_3).f0), .int .i64 ((rd_T58 l0_1 x9_3).f1), .int .i64 ((rd_T58 l0_1 x9_3).f2), .int .i64 ((rd_T58 l0_1 x9_3).f3), .int .i64 ((rd_T58 l0_1 x9_3).f4)] 58 (0, 0))) := ⟨by (with_reducible repeat (first | refine blk_drewN ?_ _ | refine blk_drew ?_ | refine blk_alloc ?_ _)); refine blk_put (cs := #[.int .i64 ((rd_T58 l0_1 x9_3).f0), .int .i64 ((rd_T58 l0_1 x9_3).f1), .int .i64 ((rd_T58 l0_1 x9_3).f2), .int .i64 ((rd_T58 l0_1 x9_3).f3), .int .i64 0]) ?_ 4 _ rfl; refine blk_put (cs := #[.int .i64 ((rd_T58 l0_1 x9_3).f0), .int .i64 ((rd_T58 l0_1 x9_3).f1), .int .i64 ((rd_T58 l0_1 x9_3).f2), .int .i64 0, .int .i64 0]) ?_ 3 _ rfl; refine blk_put (cs := #[.int .i64 ((rd_T58 l0_1 x9_3).f0), .int .i64 ((rd_T58 l0_1 x9_3).f1), .int .i64 0, .int .i64 0, .int .i64 0]) ?_ 2 _ rfl; refine blk_put (cs := #[.int .i64 ((rd_T58 l0_1 x9_3).f0), .int .i64 0, .int .i64 0, .int .i64 0, .int .i64 0]) ?_ 1 _ rfl; refine blk_put (cs := #[.int .i64 0, .int .i64 0, .int .i64 0, .int .i64 0, .int .i64 0]) ?_ 0 _ rfl; (with_reducible repeat (first | refine blk_drewN ?_ _ | refine blk_drew ?_ | refine blk_alloc ?_ _)); exact BK688.out⟩
     have n4_ : Aside0 (Below w.heap.size w (((((w66.setCell ⟨gb688, 0, none⟩ (.int .i64 ((rd_T58 l0_1 x9_3).f0))).setCell ⟨gb688, 1, none⟩ (.int .i64 ((rd_T58 l0_1 x9_3).f1))).setCell ⟨gb688, 2, none⟩ (.int .i64 ((rd_T58 l0_1 x9_3).f2))).setCell ⟨gb688, 3, none⟩ (.int .i64 ((rd_T58 l0_1 x9_3).f3))).setCell ⟨gb688, 4, none⟩ (.int .i64 ((rd_T58 l0_1 x9_3).f4)))) := ⟨bl2 HB GE674 GE688⟩
     (try clear HO_5)
     (try clear HO_6)
     (try clear BK674)
     (try clear BK688)
     (try clear HB)
     generalize (((((w66.setCell ⟨gb688, 0, none⟩ (.int .i64 ((rd_T58 l0_1 x9_3).f0))).setCell ⟨gb688, 1, none⟩ (.int .i64 ((rd_T58 l0_1 x9_3).f1))).setCell ⟨gb688, 2, none⟩ (.int .i64 ((rd_T58 l0_1 x9_3).f2))).setCell ⟨gb688, 3, none⟩ (.int .i64 ((rd_T58 l0_1 x9_3).f3))).setCell ⟨gb688, 4, none⟩ (.int .i64 ((rd_T58 l0_1 x9_3).f4))) = w69 at n0_ n1_ n2_ n3_ n4_ ⊢
     have HO_5 := n0_
     have HO_6 := n1_
     have BK674 := n2_
     have BK688 := n3_
     have HB := n4_
     clear n0_ n1_ n2_ n3_ n4_
     replace HO_5 := ak (Kd.R_drew HO_5.out)
     replace HO_6 := ak (Kd.R_drew HO_6.out)
     replace BK674 := ak (blk_drew BK674.out)
     replace BK688 := ak (blk_drew BK688.out)
     replace HB := ak (below_drew1 HB.out)
     obtain ⟨Ao71, co71, eo71⟩ := Kd.R_slice HO_5.out
     (first | subst eo71 | (injection eo71 with f1_ f2_ f3_; have f4_ := f1_.symm; have f5_ := f3_.symm; clear f1_ f2_ f3_; subst f4_; subst f5_))
     have p689 : 0 ≤ (((rd_T58 l0_1 x9_3).f1) : Int) := oT (by first | (with_reducible assumption) | assumption)
     have q689 : ((rd_T58 l0_1 x9_3).f1) < (t679.length : Int) := oT (by first | (with_reducible assumption) | assumption)
     obtain ⟨ad689, e689, hx689_0⟩ := Kd.at_int (Kd.R_reads' HO_5.out).2.2 ((rd_T58 l0_1 x9_3).f1) p689 q689
     cases e689
     replace p689 := eq_true p689
     replace q689 := eq_true q689
     refine start_ (n := 36) (S := fun w' => w'.cell? ⟨gb688, 0, none⟩ = some (.int .i64 ((rd_T58 l0_1 x9_3).f0)) ∧ w'.cell? ⟨gb688, 1, none⟩ = some (.int .i64 ((rd_T58 l0_1 x9_3).f1)) ∧ w'.cell? ⟨gb688, 2, none⟩ = some (.int .i64 ((rd_T58 l0_1 x9_3).f2)) ∧ w'.cell? ⟨gb688, 3, none⟩ = some (.int .i64 ((rd_T58 l0_1 x9_3).f3)) ∧ w'.cell? ⟨gb688, 4, none⟩ = some (.int .i64 ((rd_T58 l0_1 x9_3).f4)) ∧ w'.cell? (ad689.add (((rd_T58 l0_1 x9_3).f1)).toNat) = some (.int .i64 (rd t679 ((rd_T58 l0_1 x9_3).f1)))) (ds := []) (ms 36 0) (by kernel_rfl) rfl (by kernel_rfl) ⟨(blk_cell BK688.out 0).trans rfl, (blk_cell BK688.out 1).trans rfl, (blk_cell BK688.out 2).trans rfl, (blk_cell BK688.out 3).trans rfl, (blk_cell BK688.out 4).trans rfl, hx689_0⟩ (fun hHeld => ?_); refine with_tabW spec_l3Steps.tab15 spec_l3Steps.bits15 (fun HT_ HW_ => ?_)
     generalize w69.drew = w70 at HO_5 HO_6 BK674 BK688 HB hx689_0 hHeld ⊢
     refine pu 0 48 ?_ (ms 36 1) rfl rfl HT_ (by kernel_rfl) (fun _ _ _ h => h) (by rfl) ?_ ?_ ?_ ?_
     rotate_left
     ·intro w'
      go_simp
      with_reducible rfl
     rotate_left
     ·simp only [SX]
      rfl
     refine pu 1 49 ?_ (ms 36 3) rfl rfl HT_ (by kernel_rfl) (fun _ _ _ h => h) (by rfl) ?_ ?_ ?_ ?_
     rotate_left
     ·intro w'
      go_simp
      with_reducible rfl
     rotate_left
     ·simp only [SX]
      rfl
     refine tk 2 50 ?_ (ms 36 7) rfl rfl HT_ HW_ (by kernel_rfl) (fun _ _ _ h => h) (by rfl) ?_ hHeld ?_ ?_ ?_
     rotate_left
     ·rintro w' ⟨s0, s1, s2, s3, s4, s5⟩
      go_simp
      with_reducible rfl
     rotate_left
     ·simp only [SX]
      rfl
     refine pu 3 51 ?_ (ms 36 15) rfl rfl HT_ (by kernel_rfl) (fun _ _ _ h => h) (by rfl) ?_ ?_ ?_ ?_
     rotate_left
     ·intro w'
      go_simp
      with_reducible rfl
     rotate_left
     ·simp only [SX]
      rfl
     refine tk 4 52 ?_ (ms 36 31) rfl rfl HT_ HW_ (by kernel_rfl) (fun _ _ _ h => h) (by rfl) ?_ hHeld ?_ ?_ ?_
     rotate_left
     ·rintro w' ⟨s0, s1, s2, s3, s4, s5⟩
      go_simp
      with_reducible rfl
     rotate_left
     ·simp only [SX]
      rfl
     refine pu 5 53 ?_ (ms 36 63) rfl rfl HT_ (by kernel_rfl) (fun _ _ _ h => h) (by rfl) ?_ ?_ ?_ ?_
     rotate_left
     ·intro w'
      go_simp
      with_reducible rfl
     rotate_left
     ·simp only [SX]
      rfl
     refine pu 6 54 ?_ (ms 36 127) rfl rfl HT_ (by kernel_rfl) (fun _ _ _ h => h) (by rfl) ?_ ?_ ?_ ?_
     rotate_left
     ·intro w'
      go_simp
      with_reducible rfl
     rotate_left
     ·simp only [SX]
      rfl
     refine pure_ (i := 7) (N := some 55) (v := undef) (a' := ?_) (ms 36 255) rfl rfl (any_of HT_.out (by kernel_rfl)) (fun _ _ _ h => h) (Or.inr ⟨by rfl, rfl⟩) ?_ ?_
     rotate_left
     ·simp only [SX]
      rfl
     refine pure_ (i := 8) (N := some 56) (v := undef) (a' := ?_) (ms 36 511) rfl rfl (any_of HT_.out (by kernel_rfl)) (fun _ _ _ h => h) (Or.inr ⟨by rfl, rfl⟩) ?_ ?_
     rotate_left
     ·simp only [SX]
      rfl
     refine pure_ (i := 9) (N := some 57) (v := undef) (a' := ?_) (ms 36 1023) rfl rfl (any_of HT_.out (by kernel_rfl)) (fun _ _ _ h => h) (Or.inr ⟨by rfl, rfl⟩) ?_ ?_
     rotate_left
     ·simp only [SX]
      rfl
     refine pure_ (i := 10) (N := some 58) (v := undef) (a' := ?_) (ms 36 2047) rfl rfl (any_of HT_.out (by kernel_rfl)) (fun _ _ _ h => h) (Or.inr ⟨by rfl, rfl⟩) ?_ ?_
     rotate_left
     ·simp only [SX]
      rfl
     refine pure_ (i := 11) (N := some 59) (v := undef) (a' := ?_) (ms 36 4095) rfl rfl (any_of HT_.out (by kernel_rfl)) (fun _ _ _ h => h) (Or.inr ⟨by rfl, rfl⟩) ?_ ?_
     rotate_left
     ·simp only [SX]
      rfl
     refine pure_ (i := 12) (N := some 60) (v := undef) (a' := ?_) (ms 36 8191) rfl rfl (any_of HT_.out (by kernel_rfl)) (fun _ _ _ h => h) (Or.inr ⟨by rfl, rfl⟩) ?_ ?_
     rotate_left
     ·simp only [SX]
      rfl
     refine pure_ (i := 13) (N := some 61) (v := undef) (a' := ?_) (ms 36 16383) rfl rfl (any_of HT_.out (by kernel_rfl)) (fun _ _ _ h => h) (Or.inr ⟨by rfl, rfl⟩) ?_ ?_
     rotate_left
     ·simp only [SX]
      rfl
     refine pure_ (i := 14) (N := some 62) (v := undef) (a' := ?_) (ms 36 32767) rfl rfl (any_of HT_.out (by kernel_rfl)) (fun _ _ _ h => h) (Or.inr ⟨by rfl, rfl⟩) ?_ ?_
     rotate_left
     ·simp only [SX]
      rfl
     refine pure_ (i := 15) (N := some 63) (v := undef) (a' := ?_) (ms 36 65535) rfl rfl (any_of HT_.out (by kernel_rfl)) (fun _ _ _ h => h) (Or.inr ⟨by rfl, rfl⟩) ?_ ?_
     rotate_left
     ·simp only [SX]
      rfl
     refine pure_ (i := 16) (N := some 64) (v := undef) (a' := ?_) (ms 36 131071) rfl rfl (any_of HT_.out (by kernel_rfl)) (fun _ _ _ h => h) (Or.inr ⟨by rfl, rfl⟩) ?_ ?_
     rotate_left
     ·simp only [SX]
      rfl
     refine pure_ (i := 17) (N := some 65) (v := undef) (a' := ?_) (ms 36 262143) rfl rfl (any_of HT_.out (by kernel_rfl)) (fun _ _ _ h => h) (Or.inr ⟨by rfl, rfl⟩) ?_ ?_
     rotate_left
     ·simp only [SX]
      rfl
     refine pure_ (i := 18) (N := some 66) (v := undef) (a' := ?_) (ms 36 524287) rfl rfl (any_of HT_.out (by kernel_rfl)) (fun _ _ _ h => h) (Or.inr ⟨by rfl, rfl⟩) ?_ ?_
     rotate_left
     ·simp only [SX]
      rfl
     refine pure_ (i := 19) (N := some 67) (v := undef) (a' := ?_) (ms 36 1048575) rfl rfl (any_of HT_.out (by kernel_rfl)) (fun _ _ _ h => h) (Or.inr ⟨by rfl, rfl⟩) ?_ ?_
     rotate_left
     ·simp only [SX]
      rfl
     refine pure_ (i := 20) (N := some 68) (v := undef) (a' := ?_) (ms 36 2097151) rfl rfl (any_of HT_.out (by kernel_rfl)) (fun _ _ _ h => h) (Or.inr ⟨by rfl, rfl⟩) ?_ ?_
     rotate_left
     ·simp only [SX]
      rfl
     refine pu 21 69 ?_ (ms 36 4194303) rfl rfl HT_ (by kernel_rfl) (fun _ _ _ h => h) (by rfl) ?_ ?_ ?_ ?_
     rotate_left
     ·intro w'
      go_simp
      with_reducible rfl
     rotate_left
     ·simp only [SX]
      rfl
     refine pu 22 70 ?_ (ms 36 8388607) rfl rfl HT_ (by kernel_rfl) (fun _ _ _ h => h) (by rfl) ?_ ?_ ?_ ?_
     rotate_left
     ·intro w'
      go_simp
      with_reducible rfl
     rotate_left
     ·simp only [SX]
      rfl
     refine pure_ (i := 23) (N := some 71) (v := undef) (a' := ?_) (ms 36 16777215) rfl rfl (any_of HT_.out (by kernel_rfl)) (fun _ _ _ h => h) (Or.inr ⟨by rfl, rfl⟩) ?_ ?_
     rotate_left
     ·simp only [SX]
      rfl
     refine pure_ (i := 24) (N := some 72) (v := undef) (a' := ?_) (ms 36 33554431) rfl rfl (any_of HT_.out (by kernel_rfl)) (fun _ _ _ h => h) (Or.inr ⟨by rfl, rfl⟩) ?_ ?_
     rotate_left
     ·simp only [SX]
      rfl
     refine pure_ (i := 25) (N := some 73) (v := undef) (a' := ?_) (ms 36 67108863) rfl rfl (any_of HT_.out (by kernel_rfl)) (fun _ _ _ h => h) (Or.inr ⟨by rfl, rfl⟩) ?_ ?_
     rotate_left
     ·simp only [SX]
      rfl
     refine pure_ (i := 26) (N := some 74) (v := undef) (a' := ?_) (ms 36 134217727) rfl rfl (any_of HT_.out (by kernel_rfl)) (fun _ _ _ h => h) (Or.inr ⟨by rfl, rfl⟩) ?_ ?_
     rotate_left
     ·simp only [SX]
      rfl
     refine pure_ (i := 27) (N := some 75) (v := undef) (a' := ?_) (ms 36 268435455) rfl rfl (any_of HT_.out (by kernel_rfl)) (fun _ _ _ h => h) (Or.inr ⟨by rfl, rfl⟩) ?_ ?_
     rotate_left
     ·simp only [SX]
      rfl
     refine pure_ (i := 28) (N := some 76) (v := undef) (a' := ?_) (ms 36 536870911) rfl rfl (any_of HT_.out (by kernel_rfl)) (fun _ _ _ h => h) (Or.inr ⟨by rfl, rfl⟩) ?_ ?_
     rotate_left
     ·simp only [SX]
      rfl
     refine pure_ (i := 29) (N := some 77) (v := undef) (a' := ?_) (ms 36 1073741823) rfl rfl (any_of HT_.out (by kernel_rfl)) (fun _ _ _ h => h) (Or.inr ⟨by rfl, rfl⟩) ?_ ?_
     rotate_left
     ·simp only [SX]
      rfl
     refine pure_ (i := 30) (N := some 78) (v := undef) (a' := ?_) (ms 36 2147483647) rfl rfl (any_of HT_.out (by kernel_rfl)) (fun _ _ _ h => h) (Or.inr ⟨by rfl, rfl⟩) ?_ ?_
     rotate_left
     ·simp only [SX]
      rfl
     refine pure_ (i := 31) (N := some 79) (v := undef) (a' := ?_) (ms 36 4294967295) rfl rfl (any_of HT_.out (by kernel_rfl)) (fun _ _ _ h => h) (Or.inr ⟨by rfl, rfl⟩) ?_ ?_
     rotate_left
     ·simp only [SX]
      rfl
     refine pure_ (i := 32) (N := some 80) (v := undef) (a' := ?_) (ms 36 8589934591) rfl rfl (any_of HT_.out (by kernel_rfl)) (fun _ _ _ h => h) (Or.inr ⟨by rfl, rfl⟩) ?_ ?_
     rotate_left
     ·simp only [SX]
      rfl
     refine pure_ (i := 33) (N := some 81) (v := undef) (a' := ?_) (ms 36 17179869183) rfl rfl (any_of HT_.out (by kernel_rfl)) (fun _ _ _ h => h) (Or.inr ⟨by rfl, rfl⟩) ?_ ?_
     rotate_left
     ·simp only [SX]
      rfl
     refine pure_ (i := 34) (N := some 82) (v := undef) (a' := ?_) (ms 36 34359738367) rfl rfl (any_of HT_.out (by kernel_rfl)) (fun _ _ _ h => h) (Or.inr ⟨by rfl, rfl⟩) ?_ ?_
     rotate_left
     ·simp only [SX]
      rfl
     refine pu 35 83 ?_ (ms 36 68719476735) rfl rfl HT_ (by kernel_rfl) (fun _ _ _ h => h) (by rfl) ?_ ?_ ?_ ?_
     rotate_left
     ·intro w'
      go_simp
      with_reducible rfl
     rotate_left
     ·simp only [SX]
      rfl
     refine done_ (done_of HT_.out (by kernel_rfl)) ?_
     try go_wp2
     (try simp only [← hl6_3])
     go_roundg k3
     case measure => have := HK1.out; have := HK2.out; have := HK3.out; omega
     case rel => exact ⟨(x6_3), (wrap64 (x9_3 + 1)), (by first | rfl | (simp; done) | (simp [*]; done)), H', ⟨by have := HK1.out; have := HK2.out; have := HK3.out; omega⟩, ⟨by (try simp only [hl6_2]); (try simp only [hl6_3]); (with_reducible repeat (first | apply Kd.R_alloc | apply Kd.R_drewN | apply Kd.R_drew)); exact HO_5.out⟩, ⟨by (try simp only [hl6_2]); (try simp only [hl6_3]); (with_reducible repeat (first | apply Kd.R_alloc | apply Kd.R_drewN | apply Kd.R_drew)); exact HO_6.out⟩, ⟨by (try simp only [hl6_2]); (try simp only [hl6_3]); (with_reducible repeat (first | refine blk_drewN ?_ _ | refine blk_drew ?_ | refine blk_alloc ?_ _)); exact BK674.out⟩, ⟨bl2 HB GE674 GE688⟩⟩
    rw [if_pos c34] at H
    have c34b0 : decide ((rd t679 ((rd_T58 l0_1 x9_3).f1)) < 99999) = true := decide_eq_true c34
    clear c34
    by_cases c35 : 0 ≤ ((rd_T58 l0_1 x9_3).f0)
    rotate_left
    ·rw [if_neg c35] at H
     exact absurd H (by simp)
    rw [if_pos c35] at H
    have c35b0 : decide (0 ≤ ((rd_T58 l0_1 x9_3).f0)) = true := decide_eq_true c35
    clear c35
    by_cases c36 : ((rd_T58 l0_1 x9_3).f0) < (t679.length : Int)
    rotate_left
    ·rw [if_neg c36] at H
     exact absurd H (by simp)
    rw [if_pos c36] at H
    have c36b0 : decide (((rd_T58 l0_1 x9_3).f0) < (t679.length : Int)) = true := decide_eq_true c36
    clear c36
    by_cases c37 : (rd t679 ((rd_T58 l0_1 x9_3).f0)) = (wrap64 (((rd_T58 l0_1 x9_3).f2) + (rd t679 ((rd_T58 l0_1 x9_3).f1))))
    rotate_left
    ·rw [if_neg c37] at H
     have c37b0 : ((rd t679 ((rd_T58 l0_1 x9_3).f0)) == (wrap64 (((rd_T58 l0_1 x9_3).f2) + (rd t679 ((rd_T58 l0_1 x9_3).f1))))) = false := beq_eq_false_iff_ne.mpr c37
     have c37b1 : ((rd t679 ((rd_T58 l0_1 x9_3).f0)) != (wrap64 (((rd_T58 l0_1 x9_3).f2) + (rd t679 ((rd_T58 l0_1 x9_3).f1))))) = true := bne_iff_ne.mpr c37
     have H' := ak H
     clear H
     have hcz58_0 := bc wr BK674 0 (.int .i64 a0_0) rfl
     have hcz58_1 := bc wr BK674 1 (.slice A0_1 l0_1.length c0_1) rfl
     have hfz58_0 := fz BK674 0
     have hfz58_1 := fz BK674 1
     have p687 : 0 ≤ (x9_3 : Int) := oT (by first | (with_reducible assumption) | assumption)
     have q687 : x9_3 < (l0_1.length : Int) := oT (by first | (with_reducible assumption) | assumption)
     obtain ⟨ad687, e687, hx687_0, hx687_1, hx687_2, hx687_3, hx687_4⟩ := at_T58 HR0_1.out x9_3 p687 q687
     cases e687
     replace hx687_0 := hcb HB.out hx687_0
     replace hx687_1 := hcb HB.out hx687_1
     replace hx687_2 := hcb HB.out hx687_2
     replace hx687_3 := hcb HB.out hx687_3
     replace hx687_4 := hcb HB.out hx687_4
     replace p687 := eq_true p687
     replace q687 := eq_true q687
     try go_wp2_with (first | ((with_reducible refine gate_dst (N := 10) rfl ?_); refine box_event ?hg (N := 10) ?hd (cs := #[.int .i64 0, .int .i64 0, .int .i64 0, .int .i64 0, .int .i64 0]) (t := 58) ?hr ?_; (case hd => rfl); (case hg => rfl); (case hr => first | (go_simp; done) | (go_simp; rfl)); intro gb688 hg w59 hbox hb; replace HO_5 := ak (Kd.R_below (rk HO_5) hb); replace HO_6 := ak (Kd.R_below (rk HO_6) hb); have BK688 := ak (hbox); have GW688 := ak ((by rw [hg]; exact (below_size (bl1 HB GE674)) : w.heap.size ≤ gb688)); have GE688 := ak ((by rw [hg]; exact (below_size (bl1 HB GE674)) : w.heap.size ≤ gb688)); replace HB := ak (below_step (bl1 HB GE674) hb); have NB674_688 := ak ((by rw [hg]; exact Nat.ne_of_lt (blk_lt (bk BK674)) : gb674 ≠ gb688)); have NB688_674 := ak ((by rw [hg]; exact Nat.ne_of_gt (blk_lt (bk BK674)) : gb688 ≠ gb674)); replace BK674 := ak (blk_below (bk BK674) hb); clear hb hbox hg; have hnb60 := NB688_674.out; have hnc60 := NB674_688.out; have hcz61_0 := bc w59 BK688 0 (.int .i64 0) rfl; have hcz61_1 := bc w59 BK688 1 (.int .i64 0) rfl; have hcz61_2 := bc w59 BK688 2 (.int .i64 0) rfl; have hcz61_3 := bc w59 BK688 3 (.int .i64 0) rfl; have hcz61_4 := bc w59 BK688 4 (.int .i64 0) rfl; have hfz61_0 := fz BK688 0; have hfz61_1 := fz BK688 1; have hfz61_2 := fz BK688 2; have hfz61_3 := fz BK688 3; have hfz61_4 := fz BK688 4))
     have n0_ : Aside0 (Kd.R (Kd.int .i64) 3 (((((w59.setCell ⟨gb688, 0, none⟩ (.int .i64 ((rd_T58 l0_1 x9_3).f0))).setCell ⟨gb688, 1, none⟩ (.int .i64 ((rd_T58 l0_1 x9_3).f1))).setCell ⟨gb688, 2, none⟩ (.int .i64 ((rd_T58 l0_1 x9_3).f2))).setCell ⟨gb688, 3, none⟩ (.int .i64 ((rd_T58 l0_1 x9_3).f3))).setCell ⟨gb688, 4, none⟩ (.int .i64 ((rd_T58 l0_1 x9_3).f4))) w.heap.size (fun k_ => some k_ ≠ (.slice (some ⟨go24, 0, none⟩) x6_3.length co24 : Value).ownBlock) v680 t679) := ⟨by (with_reducible repeat (first | apply Kd.R_alloc | apply Kd.R_drewN | apply Kd.R_drew)); exact Kd.R_mono (Kd.R_far (p := ⟨gb688, 4, none⟩) (Kd.R_far (p := ⟨gb688, 3, none⟩) (Kd.R_far (p := ⟨gb688, 2, none⟩) (Kd.R_far (p := ⟨gb688, 1, none⟩) (Kd.R_far (p := ⟨gb688, 0, none⟩) (Kd.R_types HO_5.out BK688.out (by decide)) (fun _ hk => hk.2) (.int .i64 ((rd_T58 l0_1 x9_3).f0))) (fun _ hk => hk.2) (.int .i64 ((rd_T58 l0_1 x9_3).f1))) (fun _ hk => hk.2) (.int .i64 ((rd_T58 l0_1 x9_3).f2))) (fun _ hk => hk.2) (.int .i64 ((rd_T58 l0_1 x9_3).f3))) (fun _ hk => hk.2) (.int .i64 ((rd_T58 l0_1 x9_3).f4))) (fun _ hk => hk.1)⟩
     have n1_ : Aside0 (Kd.R (Kd.int .i64) 3 (((((w59.setCell ⟨gb688, 0, none⟩ (.int .i64 ((rd_T58 l0_1 x9_3).f0))).setCell ⟨gb688, 1, none⟩ (.int .i64 ((rd_T58 l0_1 x9_3).f1))).setCell ⟨gb688, 2, none⟩ (.int .i64 ((rd_T58 l0_1 x9_3).f2))).setCell ⟨gb688, 3, none⟩ (.int .i64 ((rd_T58 l0_1 x9_3).f3))).setCell ⟨gb688, 4, none⟩ (.int .i64 ((rd_T58 l0_1 x9_3).f4))) w.heap.size (fun k_ => some k_ ≠ (v680 : Value).ownBlock) (.slice (some ⟨go24, 0, none⟩) x6_3.length co24) x6_3) := ⟨by (with_reducible repeat (first | apply Kd.R_alloc | apply Kd.R_drewN | apply Kd.R_drew)); exact Kd.R_mono (Kd.R_far (p := ⟨gb688, 4, none⟩) (Kd.R_far (p := ⟨gb688, 3, none⟩) (Kd.R_far (p := ⟨gb688, 2, none⟩) (Kd.R_far (p := ⟨gb688, 1, none⟩) (Kd.R_far (p := ⟨gb688, 0, none⟩) (Kd.R_types HO_6.out BK688.out (by decide)) (fun _ hk => hk.2) (.int .i64 ((rd_T58 l0_1 x9_3).f0))) (fun _ hk => hk.2) (.int .i64 ((rd_T58 l0_1 x9_3).f1))) (fun _ hk => hk.2) (.int .i64 ((rd_T58 l0_1 x9_3).f2))) (fun _ hk => hk.2) (.int .i64 ((rd_T58 l0_1 x9_3).f3))) (fun _ hk => hk.2) (.int .i64 ((rd_T58 l0_1 x9_3).f4))) (fun _ hk => hk.1)⟩
     have n2_ : Aside0 ((((((w59.setCell ⟨gb688, 0, none⟩ (.int .i64 ((rd_T58 l0_1 x9_3).f0))).setCell ⟨gb688, 1, none⟩ (.int .i64 ((rd_T58 l0_1 x9_3).f1))).setCell ⟨gb688, 2, none⟩ (.int .i64 ((rd_T58 l0_1 x9_3).f2))).setCell ⟨gb688, 3, none⟩ (.int .i64 ((rd_T58 l0_1 x9_3).f3))).setCell ⟨gb688, 4, none⟩ (.int .i64 ((rd_T58 l0_1 x9_3).f4))).heap[gb674]? = some (.cells #[.int .i64 a0_0, .slice (some ad687) l0_1.length c0_1] 25 (0, 0))) := ⟨by (with_reducible repeat (first | refine blk_drewN ?_ _ | refine blk_drew ?_ | refine blk_alloc ?_ _)); refine blk_far ?_ NB674_688.out _; refine blk_far ?_ NB674_688.out _; refine blk_far ?_ NB674_688.out _; refine blk_far ?_ NB674_688.out _; refine blk_far ?_ NB674_688.out _; (with_reducible repeat (first | refine blk_drewN ?_ _ | refine blk_drew ?_ | refine blk_alloc ?_ _)); exact BK674.out⟩
     have n3_ : Aside0 ((((((w59.setCell ⟨gb688, 0, none⟩ (.int .i64 ((rd_T58 l0_1 x9_3).f0))).setCell ⟨gb688, 1, none⟩ (.int .i64 ((rd_T58 l0_1 x9_3).f1))).setCell ⟨gb688, 2, none⟩ (.int .i64 ((rd_T58 l0_1 x9_3).f2))).setCell ⟨gb688, 3, none⟩ (.int .i64 ((rd_T58 l0_1 x9_3).f3))).setCell ⟨gb688, 4, none⟩ (.int .i64 ((rd_T58 l0_1 x9_3).f4))).heap[gb688]? = some (.cells #[.int .i64 ((rd_T58 l0_1 x9_3).f0), .int .i64 ((rd_T58 l0_1 x9_3).f1), .int .i64 ((rd_T58 l0_1 x9_3).f2), .int .i64 ((rd_T58 l0_1 x9_3).f3), .int .i64 ((rd_T58 l0_1 x9_3).f4)] 58 (0, 0))) := ⟨by (with_reducible repeat (first | refine blk_drewN ?_ _ | refine blk_drew ?_ | refine blk_alloc ?_ _)); refine blk_put (cs := #[.int .i64 ((rd_T58 l0_1 x9_3).f0), .int .i64 ((rd_T58 l0_1 x9_3).f1), .int .i64 ((rd_T58 l0_1 x9_3).f2), .int .i64 ((rd_T58 l0_1 x9_3).f3), .int .i64 0]) ?_ 4 _ rfl; refine blk_put (cs := #[.int .i64 ((rd_T58 l0_1 x9_3).f0), .int .i64 ((rd_T58 l0_1 x9_3).f1), .int .i64 ((rd_T58 l0_1 x9_3).f2), .int .i64 0, .int .i64 0]) ?_ 3 _ rfl; refine blk_put (cs := #[.int .i64 ((rd_T58 l0_1 x9_3).f0), .int .i64 ((rd_T58 l0_1 x9_3).f1), .int .i64 0, .int .i64 0, .int .i64 0]) ?_ 2 _ rfl; refine blk_put (cs := #[.int .i64 ((rd_T58 l0_1 x9_3).f0), .int .i64 0, .int .i64 0, .int .i64 0, .int .i64 0]) ?_ 1 _ rfl; refine blk_put (cs := #[.int .i64 0, .int .i64 0, .int .i64 0, .int .i64 0, .int .i64 0]) ?_ 0 _ rfl; (with_reducible repeat (first | refine blk_drewN ?_ _ | refine blk_drew ?_ | refine blk_alloc ?_ _)); exact BK688.out⟩
     have n4_ : Aside0 (Below w.heap.size w (((((w59.setCell ⟨gb688, 0, none⟩ (.int .i64 ((rd_T58 l0_1 x9_3).f0))).setCell ⟨gb688, 1, none⟩ (.int .i64 ((rd_T58 l0_1 x9_3).f1))).setCell ⟨gb688, 2, none⟩ (.int .i64 ((rd_T58 l0_1 x9_3).f2))).setCell ⟨gb688, 3, none⟩ (.int .i64 ((rd_T58 l0_1 x9_3).f3))).setCell ⟨gb688, 4, none⟩ (.int .i64 ((rd_T58 l0_1 x9_3).f4)))) := ⟨bl2 HB GE674 GE688⟩
     (try clear HO_5)
     (try clear HO_6)
     (try clear BK674)
     (try clear BK688)
     (try clear HB)
     generalize (((((w59.setCell ⟨gb688, 0, none⟩ (.int .i64 ((rd_T58 l0_1 x9_3).f0))).setCell ⟨gb688, 1, none⟩ (.int .i64 ((rd_T58 l0_1 x9_3).f1))).setCell ⟨gb688, 2, none⟩ (.int .i64 ((rd_T58 l0_1 x9_3).f2))).setCell ⟨gb688, 3, none⟩ (.int .i64 ((rd_T58 l0_1 x9_3).f3))).setCell ⟨gb688, 4, none⟩ (.int .i64 ((rd_T58 l0_1 x9_3).f4))) = w62 at n0_ n1_ n2_ n3_ n4_ ⊢
     have HO_5 := n0_
     have HO_6 := n1_
     have BK674 := n2_
     have BK688 := n3_
     have HB := n4_
     clear n0_ n1_ n2_ n3_ n4_
     replace HO_5 := ak (Kd.R_drew HO_5.out)
     replace HO_6 := ak (Kd.R_drew HO_6.out)
     replace BK674 := ak (blk_drew BK674.out)
     replace BK688 := ak (blk_drew BK688.out)
     replace HB := ak (below_drew1 HB.out)
     obtain ⟨Ao64, co64, eo64⟩ := Kd.R_slice HO_5.out
     (first | subst eo64 | (injection eo64 with f1_ f2_ f3_; have f4_ := f1_.symm; have f5_ := f3_.symm; clear f1_ f2_ f3_; subst f4_; subst f5_))
     have p689 : 0 ≤ (((rd_T58 l0_1 x9_3).f1) : Int) := oT (by first | (with_reducible assumption) | assumption)
     have q689 : ((rd_T58 l0_1 x9_3).f1) < (t679.length : Int) := oT (by first | (with_reducible assumption) | assumption)
     obtain ⟨ad689, e689, hx689_0⟩ := Kd.at_int (Kd.R_reads' HO_5.out).2.2 ((rd_T58 l0_1 x9_3).f1) p689 q689
     cases e689
     replace p689 := eq_true p689
     replace q689 := eq_true q689
     have p690 : 0 ≤ (((rd_T58 l0_1 x9_3).f0) : Int) := oT (by first | (with_reducible assumption) | assumption)
     have q690 : ((rd_T58 l0_1 x9_3).f0) < (t679.length : Int) := oT (by first | (with_reducible assumption) | assumption)
     obtain ⟨ad690, e690, hx690_0⟩ := Kd.at_int (Kd.R_reads' HO_5.out).2.2 ((rd_T58 l0_1 x9_3).f0) p690 q690
     obtain rfl : ad689 = ad690 := (by injection e690)
     replace p690 := eq_true p690
     replace q690 := eq_true q690
     have p691 : 0 ≤ (((rd_T58 l0_1 x9_3).f1) : Int) := oT (by first | (with_reducible assumption) | assumption)
     have q691 : ((rd_T58 l0_1 x9_3).f1) < (t679.length : Int) := oT (by first | (with_reducible assumption) | assumption)
     obtain ⟨ad691, e691, hx691_0⟩ := Kd.at_int (Kd.R_reads' HO_5.out).2.2 ((rd_T58 l0_1 x9_3).f1) p691 q691
     obtain rfl : ad689 = ad691 := (by injection e691)
     replace p691 := eq_true p691
     replace q691 := eq_true q691
     refine start_ (n := 36) (S := fun w' => w'.cell? ⟨gb688, 0, none⟩ = some (.int .i64 ((rd_T58 l0_1 x9_3).f0)) ∧ w'.cell? ⟨gb688, 1, none⟩ = some (.int .i64 ((rd_T58 l0_1 x9_3).f1)) ∧ w'.cell? ⟨gb688, 2, none⟩ = some (.int .i64 ((rd_T58 l0_1 x9_3).f2)) ∧ w'.cell? ⟨gb688, 3, none⟩ = some (.int .i64 ((rd_T58 l0_1 x9_3).f3)) ∧ w'.cell? ⟨gb688, 4, none⟩ = some (.int .i64 ((rd_T58 l0_1 x9_3).f4)) ∧ w'.cell? (ad689.add (((rd_T58 l0_1 x9_3).f1)).toNat) = some (.int .i64 (rd t679 ((rd_T58 l0_1 x9_3).f1))) ∧ w'.cell? (ad689.add (((rd_T58 l0_1 x9_3).f0)).toNat) = some (.int .i64 (rd t679 ((rd_T58 l0_1 x9_3).f0))) ∧ w'.cell? (ad689.add (((rd_T58 l0_1 x9_3).f1)).toNat) = some (.int .i64 (rd t679 ((rd_T58 l0_1 x9_3).f1)))) (ds := []) (ms 36 0) (by kernel_rfl) rfl (by kernel_rfl) ⟨(blk_cell BK688.out 0).trans rfl, (blk_cell BK688.out 1).trans rfl, (blk_cell BK688.out 2).trans rfl, (blk_cell BK688.out 3).trans rfl, (blk_cell BK688.out 4).trans rfl, hx689_0, hx690_0, hx691_0⟩ (fun hHeld => ?_); refine with_tabW spec_l3Steps.tab15 spec_l3Steps.bits15 (fun HT_ HW_ => ?_)
     generalize w62.drew = w63 at HO_5 HO_6 BK674 BK688 HB hx689_0 hx690_0 hx691_0 hHeld ⊢
     refine pu 0 48 ?_ (ms 36 1) rfl rfl HT_ (by kernel_rfl) (fun _ _ _ h => h) (by rfl) ?_ ?_ ?_ ?_
     rotate_left
     ·intro w'
      go_simp
      with_reducible rfl
     rotate_left
     ·simp only [SX]
      rfl
     refine pu 1 49 ?_ (ms 36 3) rfl rfl HT_ (by kernel_rfl) (fun _ _ _ h => h) (by rfl) ?_ ?_ ?_ ?_
     rotate_left
     ·intro w'
      go_simp
      with_reducible rfl
     rotate_left
     ·simp only [SX]
      rfl
     refine tk 2 50 ?_ (ms 36 7) rfl rfl HT_ HW_ (by kernel_rfl) (fun _ _ _ h => h) (by rfl) ?_ hHeld ?_ ?_ ?_
     rotate_left
     ·rintro w' ⟨s0, s1, s2, s3, s4, s5, s6, s7⟩
      go_simp
      with_reducible rfl
     rotate_left
     ·simp only [SX]
      rfl
     refine pu 3 51 ?_ (ms 36 15) rfl rfl HT_ (by kernel_rfl) (fun _ _ _ h => h) (by rfl) ?_ ?_ ?_ ?_
     rotate_left
     ·intro w'
      go_simp
      with_reducible rfl
     rotate_left
     ·simp only [SX]
      rfl
     refine tk 4 52 ?_ (ms 36 31) rfl rfl HT_ HW_ (by kernel_rfl) (fun _ _ _ h => h) (by rfl) ?_ hHeld ?_ ?_ ?_
     rotate_left
     ·rintro w' ⟨s0, s1, s2, s3, s4, s5, s6, s7⟩
      go_simp
      with_reducible rfl
     rotate_left
     ·simp only [SX]
      rfl
     refine pu 5 53 ?_ (ms 36 63) rfl rfl HT_ (by kernel_rfl) (fun _ _ _ h => h) (by rfl) ?_ ?_ ?_ ?_
     rotate_left
     ·intro w'
      go_simp
      with_reducible rfl
     rotate_left
     ·simp only [SX]
      rfl
     refine pu 6 54 ?_ (ms 36 127) rfl rfl HT_ (by kernel_rfl) (fun _ _ _ h => h) (by rfl) ?_ ?_ ?_ ?_
     rotate_left
     ·intro w'
      go_simp
      with_reducible rfl
     rotate_left
     ·simp only [SX]
      rfl
     refine pu 7 55 ?_ (ms 36 255) rfl rfl HT_ (by kernel_rfl) (fun _ _ _ h => h) (by rfl) ?_ ?_ ?_ ?_
     rotate_left
     ·intro w'
      go_simp
      with_reducible rfl
     rotate_left
     ·simp only [SX]
      rfl
     refine pu 8 56 ?_ (ms 36 511) rfl rfl HT_ (by kernel_rfl) (fun _ _ _ h => h) (by rfl) ?_ ?_ ?_ ?_
     rotate_left
     ·intro w'
      go_simp
      with_reducible rfl
     rotate_left
     ·simp only [SX]
      rfl
     refine pu 12 60 ?_ (ms 36 4607) rfl rfl HT_ (by kernel_rfl) (fun _ _ _ h => h) (by rfl) ?_ ?_ ?_ ?_
     rotate_left
     ·intro w'
      go_simp
      with_reducible rfl
     rotate_left
     ·simp only [SX]
      rfl
     refine pu 14 62 ?_ (ms 36 20991) rfl rfl HT_ (by kernel_rfl) (fun _ _ _ h => h) (by rfl) ?_ ?_ ?_ ?_
     rotate_left
     ·intro w'
      go_simp
      with_reducible rfl
     rotate_left
     ·simp only [SX]
      rfl
     refine pu 15 63 ?_ (ms 36 53759) rfl rfl HT_ (by kernel_rfl) (fun _ _ _ h => h) (by rfl) ?_ ?_ ?_ ?_
     rotate_left
     ·intro w'
      go_simp
      with_reducible rfl
     rotate_left
     ·simp only [SX]
      rfl
     refine tk 9 57 ?_ (ms 36 54271) rfl rfl HT_ HW_ (by kernel_rfl) (fun _ _ _ h => h) (by rfl) ?_ hHeld ?_ ?_ ?_
     rotate_left
     ·rintro w' ⟨s0, s1, s2, s3, s4, s5, s6, s7⟩
      go_simp
      with_reducible rfl
     rotate_left
     ·simp only [SX]
      rfl
     refine pu 10 58 ?_ (ms 36 55295) rfl rfl HT_ (by kernel_rfl) (fun _ _ _ h => h) (by rfl) ?_ ?_ ?_ ?_
     rotate_left
     ·intro w'
      go_simp
      with_reducible rfl
     rotate_left
     ·simp only [SX]
      rfl
     refine tk 11 59 ?_ (ms 36 57343) rfl rfl HT_ HW_ (by kernel_rfl) (fun _ _ _ h => h) (by rfl) ?_ hHeld ?_ ?_ ?_
     rotate_left
     ·rintro w' ⟨s0, s1, s2, s3, s4, s5, s6, s7⟩
      go_simp
      with_reducible rfl
     rotate_left
     ·simp only [SX]
      rfl
     refine tk 13 61 ?_ (ms 36 65535) rfl rfl HT_ HW_ (by kernel_rfl) (fun _ _ _ h => h) (by rfl) ?_ hHeld ?_ ?_ ?_
     rotate_left
     ·rintro w' ⟨s0, s1, s2, s3, s4, s5, s6, s7⟩
      go_simp
      with_reducible rfl
     rotate_left
     ·simp only [SX]
      rfl
     refine tk 16 64 ?_ (ms 36 131071) rfl rfl HT_ HW_ (by kernel_rfl) (fun _ _ _ h => h) (by rfl) ?_ hHeld ?_ ?_ ?_
     rotate_left
     ·rintro w' ⟨s0, s1, s2, s3, s4, s5, s6, s7⟩
      go_simp
      with_reducible rfl
     rotate_left
     ·simp only [SX]
      rfl
     refine pu 17 65 ?_ (ms 36 262143) rfl rfl HT_ (by kernel_rfl) (fun _ _ _ h => h) (by rfl) ?_ ?_ ?_ ?_
     rotate_left
     ·intro w'
      go_simp
      with_reducible rfl
     rotate_left
     ·simp only [SX]
      rfl
     refine tk 18 66 ?_ (ms 36 524287) rfl rfl HT_ HW_ (by kernel_rfl) (fun _ _ _ h => h) (by rfl) ?_ hHeld ?_ ?_ ?_
     rotate_left
     ·rintro w' ⟨s0, s1, s2, s3, s4, s5, s6, s7⟩
      go_simp
      with_reducible rfl
     rotate_left
     ·simp only [SX]
      rfl
     refine pu 19 67 ?_ (ms 36 1048575) rfl rfl HT_ (by kernel_rfl) (fun _ _ _ h => h) (by rfl) ?_ ?_ ?_ ?_
     rotate_left
     ·intro w'
      go_simp
      with_reducible rfl
     rotate_left
     ·simp only [SX]
      rfl
     refine pu 20 68 ?_ (ms 36 2097151) rfl rfl HT_ (by kernel_rfl) (fun _ _ _ h => h) (by rfl) ?_ ?_ ?_ ?_
     rotate_left
     ·intro w'
      go_simp
      with_reducible rfl
     rotate_left
     ·simp only [SX]
      rfl
     refine pu 21 69 ?_ (ms 36 4194303) rfl rfl HT_ (by kernel_rfl) (fun _ _ _ h => h) (by rfl) ?_ ?_ ?_ ?_
     rotate_left
     ·intro w'
      go_simp
      with_reducible rfl
     rotate_left
     ·simp only [SX]
      rfl
     refine pu 22 70 ?_ (ms 36 8388607) rfl rfl HT_ (by kernel_rfl) (fun _ _ _ h => h) (by rfl) ?_ ?_ ?_ ?_
     rotate_left
     ·intro w'
      go_simp
      with_reducible rfl
     rotate_left
     ·simp only [SX]
      rfl
     refine pure_ (i := 23) (N := some 71) (v := undef) (a' := ?_) (ms 36 16777215) rfl rfl (any_of HT_.out (by kernel_rfl)) (fun _ _ _ h => h) (Or.inr ⟨by rfl, rfl⟩) ?_ ?_
     rotate_left
     ·simp only [SX]
      rfl
     refine pure_ (i := 24) (N := some 72) (v := undef) (a' := ?_) (ms 36 33554431) rfl rfl (any_of HT_.out (by kernel_rfl)) (fun _ _ _ h => h) (Or.inr ⟨by rfl, rfl⟩) ?_ ?_
     rotate_left
     ·simp only [SX]
      rfl
     refine pure_ (i := 25) (N := some 73) (v := undef) (a' := ?_) (ms 36 67108863) rfl rfl (any_of HT_.out (by kernel_rfl)) (fun _ _ _ h => h) (Or.inr ⟨by rfl, rfl⟩) ?_ ?_
     rotate_left
     ·simp only [SX]
      rfl
     refine pure_ (i := 26) (N := some 74) (v := undef) (a' := ?_) (ms 36 134217727) rfl rfl (any_of HT_.out (by kernel_rfl)) (fun _ _ _ h => h) (Or.inr ⟨by rfl, rfl⟩) ?_ ?_
     rotate_left
     ·simp only [SX]
      rfl
     refine pure_ (i := 27) (N := some 75) (v := undef) (a' := ?_) (ms 36 268435455) rfl rfl (any_of HT_.out (by kernel_rfl)) (fun _ _ _ h => h) (Or.inr ⟨by rfl, rfl⟩) ?_ ?_
     rotate_left
     ·simp only [SX]
      rfl
     refine pure_ (i := 28) (N := some 76) (v := undef) (a' := ?_) (ms 36 536870911) rfl rfl (any_of HT_.out (by kernel_rfl)) (fun _ _ _ h => h) (Or.inr ⟨by rfl, rfl⟩) ?_ ?_
     rotate_left
     ·simp only [SX]
      rfl
     refine pure_ (i := 29) (N := some 77) (v := undef) (a' := ?_) (ms 36 1073741823) rfl rfl (any_of HT_.out (by kernel_rfl)) (fun _ _ _ h => h) (Or.inr ⟨by rfl, rfl⟩) ?_ ?_
     rotate_left
     ·simp only [SX]
      rfl
     refine pure_ (i := 30) (N := some 78) (v := undef) (a' := ?_) (ms 36 2147483647) rfl rfl (any_of HT_.out (by kernel_rfl)) (fun _ _ _ h => h) (Or.inr ⟨by rfl, rfl⟩) ?_ ?_
     rotate_left
     ·simp only [SX]
      rfl
     refine pure_ (i := 31) (N := some 79) (v := undef) (a' := ?_) (ms 36 4294967295) rfl rfl (any_of HT_.out (by kernel_rfl)) (fun _ _ _ h => h) (Or.inr ⟨by rfl, rfl⟩) ?_ ?_
     rotate_left
     ·simp only [SX]
      rfl
     refine pure_ (i := 32) (N := some 80) (v := undef) (a' := ?_) (ms 36 8589934591) rfl rfl (any_of HT_.out (by kernel_rfl)) (fun _ _ _ h => h) (Or.inr ⟨by rfl, rfl⟩) ?_ ?_
     rotate_left
     ·simp only [SX]
      rfl
     refine pure_ (i := 33) (N := some 81) (v := undef) (a' := ?_) (ms 36 17179869183) rfl rfl (any_of HT_.out (by kernel_rfl)) (fun _ _ _ h => h) (Or.inr ⟨by rfl, rfl⟩) ?_ ?_
     rotate_left
     ·simp only [SX]
      rfl
     refine pure_ (i := 34) (N := some 82) (v := undef) (a' := ?_) (ms 36 34359738367) rfl rfl (any_of HT_.out (by kernel_rfl)) (fun _ _ _ h => h) (Or.inr ⟨by rfl, rfl⟩) ?_ ?_
     rotate_left
     ·simp only [SX]
      rfl
     refine pu 35 83 ?_ (ms 36 68719476735) rfl rfl HT_ (by kernel_rfl) (fun _ _ _ h => h) (by rfl) ?_ ?_ ?_ ?_
     rotate_left
     ·intro w'
      go_simp
      with_reducible rfl
     rotate_left
     ·simp only [SX]
      rfl
     refine done_ (done_of HT_.out (by kernel_rfl)) ?_
     try go_wp2
     (try simp only [← hl6_3])
     go_roundg k3
     case measure => have := HK1.out; have := HK2.out; have := HK3.out; omega
     case rel => exact ⟨(x6_3), (wrap64 (x9_3 + 1)), (by first | rfl | (simp; done) | (simp [*]; done)), H', ⟨by have := HK1.out; have := HK2.out; have := HK3.out; omega⟩, ⟨by (try simp only [hl6_2]); (try simp only [hl6_3]); (with_reducible repeat (first | apply Kd.R_alloc | apply Kd.R_drewN | apply Kd.R_drew)); exact HO_5.out⟩, ⟨by (try simp only [hl6_2]); (try simp only [hl6_3]); (with_reducible repeat (first | apply Kd.R_alloc | apply Kd.R_drewN | apply Kd.R_drew)); exact HO_6.out⟩, ⟨by (try simp only [hl6_2]); (try simp only [hl6_3]); (with_reducible repeat (first | refine blk_drewN ?_ _ | refine blk_drew ?_ | refine blk_alloc ?_ _)); exact BK674.out⟩, ⟨bl2 HB GE674 GE688⟩⟩
    rw [if_pos c37] at H
    have c37b0 : ((rd t679 ((rd_T58 l0_1 x9_3).f0)) == (wrap64 (((rd_T58 l0_1 x9_3).f2) + (rd t679 ((rd_T58 l0_1 x9_3).f1))))) = true := beq_iff_eq.mpr c37
    have c37b1 : ((rd t679 ((rd_T58 l0_1 x9_3).f0)) != (wrap64 (((rd_T58 l0_1 x9_3).f2) + (rd t679 ((rd_T58 l0_1 x9_3).f1))))) = false := bne_eq_false_iff_eq.mpr c37
    clear c37
    by_cases c38 : ((rd_T58 l0_1 x9_3).f1) < (x6_3.length : Int)
    rotate_left
    ·rw [if_neg c38] at H
     exact absurd H (by simp)
    rw [if_pos c38] at H
    have c38b0 : decide (((rd_T58 l0_1 x9_3).f1) < (x6_3.length : Int)) = true := decide_eq_true c38
    clear c38
    by_cases c39 : ((rd_T58 l0_1 x9_3).f0) < (x6_3.length : Int)
    rotate_left
    ·rw [if_neg c39] at H
     exact absurd H (by simp)
    rw [if_pos c39] at H
    have c39b0 : decide (((rd_T58 l0_1 x9_3).f0) < (x6_3.length : Int)) = true := decide_eq_true c39
    clear c39
    by_cases c40 : (wrap64 ((rd x6_3 ((rd_T58 l0_1 x9_3).f1)) + 1)) < (rd x6_3 ((rd_T58 l0_1 x9_3).f0))
    rotate_left
    ·rw [if_neg c40] at H
     have c40b0 : decide ((wrap64 ((rd x6_3 ((rd_T58 l0_1 x9_3).f1)) + 1)) < (rd x6_3 ((rd_T58 l0_1 x9_3).f0))) = false := decide_eq_false c40
     clear c40
     have H' := ak H
     clear H
     have hcz51_0 := bc wr BK674 0 (.int .i64 a0_0) rfl
     have hcz51_1 := bc wr BK674 1 (.slice A0_1 l0_1.length c0_1) rfl
     have hfz51_0 := fz BK674 0
     have hfz51_1 := fz BK674 1
     have p687 : 0 ≤ (x9_3 : Int) := oT (by first | (with_reducible assumption) | assumption)
     have q687 : x9_3 < (l0_1.length : Int) := oT (by first | (with_reducible assumption) | assumption)
     obtain ⟨ad687, e687, hx687_0, hx687_1, hx687_2, hx687_3, hx687_4⟩ := at_T58 HR0_1.out x9_3 p687 q687
     cases e687
     replace hx687_0 := hcb HB.out hx687_0
     replace hx687_1 := hcb HB.out hx687_1
     replace hx687_2 := hcb HB.out hx687_2
     replace hx687_3 := hcb HB.out hx687_3
     replace hx687_4 := hcb HB.out hx687_4
     replace p687 := eq_true p687
     replace q687 := eq_true q687
     try go_wp2_with (first | ((with_reducible refine gate_dst (N := 10) rfl ?_); refine box_event ?hg (N := 10) ?hd (cs := #[.int .i64 0, .int .i64 0, .int .i64 0, .int .i64 0, .int .i64 0]) (t := 58) ?hr ?_; (case hd => rfl); (case hg => rfl); (case hr => first | (go_simp; done) | (go_simp; rfl)); intro gb688 hg w52 hbox hb; replace HO_5 := ak (Kd.R_below (rk HO_5) hb); replace HO_6 := ak (Kd.R_below (rk HO_6) hb); have BK688 := ak (hbox); have GW688 := ak ((by rw [hg]; exact (below_size (bl1 HB GE674)) : w.heap.size ≤ gb688)); have GE688 := ak ((by rw [hg]; exact (below_size (bl1 HB GE674)) : w.heap.size ≤ gb688)); replace HB := ak (below_step (bl1 HB GE674) hb); have NB674_688 := ak ((by rw [hg]; exact Nat.ne_of_lt (blk_lt (bk BK674)) : gb674 ≠ gb688)); have NB688_674 := ak ((by rw [hg]; exact Nat.ne_of_gt (blk_lt (bk BK674)) : gb688 ≠ gb674)); replace BK674 := ak (blk_below (bk BK674) hb); clear hb hbox hg; have hnb53 := NB688_674.out; have hnc53 := NB674_688.out; have hcz54_0 := bc w52 BK688 0 (.int .i64 0) rfl; have hcz54_1 := bc w52 BK688 1 (.int .i64 0) rfl; have hcz54_2 := bc w52 BK688 2 (.int .i64 0) rfl; have hcz54_3 := bc w52 BK688 3 (.int .i64 0) rfl; have hcz54_4 := bc w52 BK688 4 (.int .i64 0) rfl; have hfz54_0 := fz BK688 0; have hfz54_1 := fz BK688 1; have hfz54_2 := fz BK688 2; have hfz54_3 := fz BK688 3; have hfz54_4 := fz BK688 4))
     have n0_ : Aside0 (Kd.R (Kd.int .i64) 3 (((((w52.setCell ⟨gb688, 0, none⟩ (.int .i64 ((rd_T58 l0_1 x9_3).f0))).setCell ⟨gb688, 1, none⟩ (.int .i64 ((rd_T58 l0_1 x9_3).f1))).setCell ⟨gb688, 2, none⟩ (.int .i64 ((rd_T58 l0_1 x9_3).f2))).setCell ⟨gb688, 3, none⟩ (.int .i64 ((rd_T58 l0_1 x9_3).f3))).setCell ⟨gb688, 4, none⟩ (.int .i64 ((rd_T58 l0_1 x9_3).f4))) w.heap.size (fun k_ => some k_ ≠ (.slice (some ⟨go24, 0, none⟩) x6_3.length co24 : Value).ownBlock) v680 t679) := ⟨by (with_reducible repeat (first | apply Kd.R_alloc | apply Kd.R_drewN | apply Kd.R_drew)); exact Kd.R_mono (Kd.R_far (p := ⟨gb688, 4, none⟩) (Kd.R_far (p := ⟨gb688, 3, none⟩) (Kd.R_far (p := ⟨gb688, 2, none⟩) (Kd.R_far (p := ⟨gb688, 1, none⟩) (Kd.R_far (p := ⟨gb688, 0, none⟩) (Kd.R_types HO_5.out BK688.out (by decide)) (fun _ hk => hk.2) (.int .i64 ((rd_T58 l0_1 x9_3).f0))) (fun _ hk => hk.2) (.int .i64 ((rd_T58 l0_1 x9_3).f1))) (fun _ hk => hk.2) (.int .i64 ((rd_T58 l0_1 x9_3).f2))) (fun _ hk => hk.2) (.int .i64 ((rd_T58 l0_1 x9_3).f3))) (fun _ hk => hk.2) (.int .i64 ((rd_T58 l0_1 x9_3).f4))) (fun _ hk => hk.1)⟩
     have n1_ : Aside0 (Kd.R (Kd.int .i64) 3 (((((w52.setCell ⟨gb688, 0, none⟩ (.int .i64 ((rd_T58 l0_1 x9_3).f0))).setCell ⟨gb688, 1, none⟩ (.int .i64 ((rd_T58 l0_1 x9_3).f1))).setCell ⟨gb688, 2, none⟩ (.int .i64 ((rd_T58 l0_1 x9_3).f2))).setCell ⟨gb688, 3, none⟩ (.int .i64 ((rd_T58 l0_1 x9_3).f3))).setCell ⟨gb688, 4, none⟩ (.int .i64 ((rd_T58 l0_1 x9_3).f4))) w.heap.size (fun k_ => some k_ ≠ (v680 : Value).ownBlock) (.slice (some ⟨go24, 0, none⟩) x6_3.length co24) x6_3) := ⟨by (with_reducible repeat (first | apply Kd.R_alloc | apply Kd.R_drewN | apply Kd.R_drew)); exact Kd.R_mono (Kd.R_far (p := ⟨gb688, 4, none⟩) (Kd.R_far (p := ⟨gb688, 3, none⟩) (Kd.R_far (p := ⟨gb688, 2, none⟩) (Kd.R_far (p := ⟨gb688, 1, none⟩) (Kd.R_far (p := ⟨gb688, 0, none⟩) (Kd.R_types HO_6.out BK688.out (by decide)) (fun _ hk => hk.2) (.int .i64 ((rd_T58 l0_1 x9_3).f0))) (fun _ hk => hk.2) (.int .i64 ((rd_T58 l0_1 x9_3).f1))) (fun _ hk => hk.2) (.int .i64 ((rd_T58 l0_1 x9_3).f2))) (fun _ hk => hk.2) (.int .i64 ((rd_T58 l0_1 x9_3).f3))) (fun _ hk => hk.2) (.int .i64 ((rd_T58 l0_1 x9_3).f4))) (fun _ hk => hk.1)⟩
     have n2_ : Aside0 ((((((w52.setCell ⟨gb688, 0, none⟩ (.int .i64 ((rd_T58 l0_1 x9_3).f0))).setCell ⟨gb688, 1, none⟩ (.int .i64 ((rd_T58 l0_1 x9_3).f1))).setCell ⟨gb688, 2, none⟩ (.int .i64 ((rd_T58 l0_1 x9_3).f2))).setCell ⟨gb688, 3, none⟩ (.int .i64 ((rd_T58 l0_1 x9_3).f3))).setCell ⟨gb688, 4, none⟩ (.int .i64 ((rd_T58 l0_1 x9_3).f4))).heap[gb674]? = some (.cells #[.int .i64 a0_0, .slice (some ad687) l0_1.length c0_1] 25 (0, 0))) := ⟨by (with_reducible repeat (first | refine blk_drewN ?_ _ | refine blk_drew ?_ | refine blk_alloc ?_ _)); refine blk_far ?_ NB674_688.out _; refine blk_far ?_ NB674_688.out _; refine blk_far ?_ NB674_688.out _; refine blk_far ?_ NB674_688.out _; refine blk_far ?_ NB674_688.out _; (with_reducible repeat (first | refine blk_drewN ?_ _ | refine blk_drew ?_ | refine blk_alloc ?_ _)); exact BK674.out⟩
     have n3_ : Aside0 ((((((w52.setCell ⟨gb688, 0, none⟩ (.int .i64 ((rd_T58 l0_1 x9_3).f0))).setCell ⟨gb688, 1, none⟩ (.int .i64 ((rd_T58 l0_1 x9_3).f1))).setCell ⟨gb688, 2, none⟩ (.int .i64 ((rd_T58 l0_1 x9_3).f2))).setCell ⟨gb688, 3, none⟩ (.int .i64 ((rd_T58 l0_1 x9_3).f3))).setCell ⟨gb688, 4, none⟩ (.int .i64 ((rd_T58 l0_1 x9_3).f4))).heap[gb688]? = some (.cells #[.int .i64 ((rd_T58 l0_1 x9_3).f0), .int .i64 ((rd_T58 l0_1 x9_3).f1), .int .i64 ((rd_T58 l0_1 x9_3).f2), .int .i64 ((rd_T58 l0_1 x9_3).f3), .int .i64 ((rd_T58 l0_1 x9_3).f4)] 58 (0, 0))) := ⟨by (with_reducible repeat (first | refine blk_drewN ?_ _ | refine blk_drew ?_ | refine blk_alloc ?_ _)); refine blk_put (cs := #[.int .i64 ((rd_T58 l0_1 x9_3).f0), .int .i64 ((rd_T58 l0_1 x9_3).f1), .int .i64 ((rd_T58 l0_1 x9_3).f2), .int .i64 ((rd_T58 l0_1 x9_3).f3), .int .i64 0]) ?_ 4 _ rfl; refine blk_put (cs := #[.int .i64 ((rd_T58 l0_1 x9_3).f0), .int .i64 ((rd_T58 l0_1 x9_3).f1), .int .i64 ((rd_T58 l0_1 x9_3).f2), .int .i64 0, .int .i64 0]) ?_ 3 _ rfl; refine blk_put (cs := #[.int .i64 ((rd_T58 l0_1 x9_3).f0), .int .i64 ((rd_T58 l0_1 x9_3).f1), .int .i64 0, .int .i64 0, .int .i64 0]) ?_ 2 _ rfl; refine blk_put (cs := #[.int .i64 ((rd_T58 l0_1 x9_3).f0), .int .i64 0, .int .i64 0, .int .i64 0, .int .i64 0]) ?_ 1 _ rfl; refine blk_put (cs := #[.int .i64 0, .int .i64 0, .int .i64 0, .int .i64 0, .int .i64 0]) ?_ 0 _ rfl; (with_reducible repeat (first | refine blk_drewN ?_ _ | refine blk_drew ?_ | refine blk_alloc ?_ _)); exact BK688.out⟩
     have n4_ : Aside0 (Below w.heap.size w (((((w52.setCell ⟨gb688, 0, none⟩ (.int .i64 ((rd_T58 l0_1 x9_3).f0))).setCell ⟨gb688, 1, none⟩ (.int .i64 ((rd_T58 l0_1 x9_3).f1))).setCell ⟨gb688, 2, none⟩ (.int .i64 ((rd_T58 l0_1 x9_3).f2))).setCell ⟨gb688, 3, none⟩ (.int .i64 ((rd_T58 l0_1 x9_3).f3))).setCell ⟨gb688, 4, none⟩ (.int .i64 ((rd_T58 l0_1 x9_3).f4)))) := ⟨bl2 HB GE674 GE688⟩
     (try clear HO_5)
     (try clear HO_6)
     (try clear BK674)
     (try clear BK688)
     (try clear HB)
     generalize (((((w52.setCell ⟨gb688, 0, none⟩ (.int .i64 ((rd_T58 l0_1 x9_3).f0))).setCell ⟨gb688, 1, none⟩ (.int .i64 ((rd_T58 l0_1 x9_3).f1))).setCell ⟨gb688, 2, none⟩ (.int .i64 ((rd_T58 l0_1 x9_3).f2))).setCell ⟨gb688, 3, none⟩ (.int .i64 ((rd_T58 l0_1 x9_3).f3))).setCell ⟨gb688, 4, none⟩ (.int .i64 ((rd_T58 l0_1 x9_3).f4))) = w55 at n0_ n1_ n2_ n3_ n4_ ⊢
     have HO_5 := n0_
     have HO_6 := n1_
     have BK674 := n2_
     have BK688 := n3_
     have HB := n4_
     clear n0_ n1_ n2_ n3_ n4_
     replace HO_5 := ak (Kd.R_drew HO_5.out)
     replace HO_6 := ak (Kd.R_drew HO_6.out)
     replace BK674 := ak (blk_drew BK674.out)
     replace BK688 := ak (blk_drew BK688.out)
     replace HB := ak (below_drew1 HB.out)
     obtain ⟨Ao57, co57, eo57⟩ := Kd.R_slice HO_5.out
     (first | subst eo57 | (injection eo57 with f1_ f2_ f3_; have f4_ := f1_.symm; have f5_ := f3_.symm; clear f1_ f2_ f3_; subst f4_; subst f5_))
     have p689 : 0 ≤ (((rd_T58 l0_1 x9_3).f1) : Int) := oT (by first | (with_reducible assumption) | assumption)
     have q689 : ((rd_T58 l0_1 x9_3).f1) < (t679.length : Int) := oT (by first | (with_reducible assumption) | assumption)
     obtain ⟨ad689, e689, hx689_0⟩ := Kd.at_int (Kd.R_reads' HO_5.out).2.2 ((rd_T58 l0_1 x9_3).f1) p689 q689
     cases e689
     replace p689 := eq_true p689
     replace q689 := eq_true q689
     have p690 : 0 ≤ (((rd_T58 l0_1 x9_3).f0) : Int) := oT (by first | (with_reducible assumption) | assumption)
     have q690 : ((rd_T58 l0_1 x9_3).f0) < (t679.length : Int) := oT (by first | (with_reducible assumption) | assumption)
     obtain ⟨ad690, e690, hx690_0⟩ := Kd.at_int (Kd.R_reads' HO_5.out).2.2 ((rd_T58 l0_1 x9_3).f0) p690 q690
     obtain rfl : ad689 = ad690 := (by injection e690)
     replace p690 := eq_true p690
     replace q690 := eq_true q690
     have p691 : 0 ≤ (((rd_T58 l0_1 x9_3).f1) : Int) := oT (by first | (with_reducible assumption) | assumption)
     have q691 : ((rd_T58 l0_1 x9_3).f1) < (t679.length : Int) := oT (by first | (with_reducible assumption) | assumption)
     obtain ⟨ad691, e691, hx691_0⟩ := Kd.at_int (Kd.R_reads' HO_5.out).2.2 ((rd_T58 l0_1 x9_3).f1) p691 q691
     obtain rfl : ad689 = ad691 := (by injection e691)
     replace p691 := eq_true p691
     replace q691 := eq_true q691
     have p692 : 0 ≤ (((rd_T58 l0_1 x9_3).f1) : Int) := oT (by first | (with_reducible assumption) | assumption)
     have q692 : ((rd_T58 l0_1 x9_3).f1) < (x6_3.length : Int) := oT (by first | (with_reducible assumption) | assumption)
     obtain ⟨ad692, e692, hx692_0⟩ := Kd.at_int (Kd.R_reads' HO_6.out).2.2 ((rd_T58 l0_1 x9_3).f1) p692 q692
     obtain rfl : (⟨go24, 0, none⟩ : Addr) = ad692 := (by injection e692)
     (first | simp only [add_plain] at hx692_0 | simp only [add_at] at hx692_0 | simp only [Addr.add, Nat.zero_add] at hx692_0 | skip)
     replace p692 := eq_true p692
     replace q692 := eq_true q692
     have p693 : 0 ≤ (((rd_T58 l0_1 x9_3).f0) : Int) := oT (by first | (with_reducible assumption) | assumption)
     have q693 : ((rd_T58 l0_1 x9_3).f0) < (x6_3.length : Int) := oT (by first | (with_reducible assumption) | assumption)
     obtain ⟨ad693, e693, hx693_0⟩ := Kd.at_int (Kd.R_reads' HO_6.out).2.2 ((rd_T58 l0_1 x9_3).f0) p693 q693
     obtain rfl : (⟨go24, 0, none⟩ : Addr) = ad693 := (by injection e693)
     (first | simp only [add_plain] at hx693_0 | simp only [add_at] at hx693_0 | simp only [Addr.add, Nat.zero_add] at hx693_0 | skip)
     replace p693 := eq_true p693
     replace q693 := eq_true q693
     refine start_ (n := 36) (S := fun w' => w'.cell? ⟨gb688, 0, none⟩ = some (.int .i64 ((rd_T58 l0_1 x9_3).f0)) ∧ w'.cell? ⟨gb688, 1, none⟩ = some (.int .i64 ((rd_T58 l0_1 x9_3).f1)) ∧ w'.cell? ⟨gb688, 2, none⟩ = some (.int .i64 ((rd_T58 l0_1 x9_3).f2)) ∧ w'.cell? ⟨gb688, 3, none⟩ = some (.int .i64 ((rd_T58 l0_1 x9_3).f3)) ∧ w'.cell? ⟨gb688, 4, none⟩ = some (.int .i64 ((rd_T58 l0_1 x9_3).f4)) ∧ w'.cell? (ad689.add (((rd_T58 l0_1 x9_3).f1)).toNat) = some (.int .i64 (rd t679 ((rd_T58 l0_1 x9_3).f1))) ∧ w'.cell? (ad689.add (((rd_T58 l0_1 x9_3).f0)).toNat) = some (.int .i64 (rd t679 ((rd_T58 l0_1 x9_3).f0))) ∧ w'.cell? (ad689.add (((rd_T58 l0_1 x9_3).f1)).toNat) = some (.int .i64 (rd t679 ((rd_T58 l0_1 x9_3).f1))) ∧ w'.cell? ⟨go24, (((rd_T58 l0_1 x9_3).f1)).toNat, none⟩ = some (.int .i64 (rd x6_3 ((rd_T58 l0_1 x9_3).f1))) ∧ w'.cell? ⟨go24, (((rd_T58 l0_1 x9_3).f0)).toNat, none⟩ = some (.int .i64 (rd x6_3 ((rd_T58 l0_1 x9_3).f0)))) (ds := []) (ms 36 0) (by kernel_rfl) rfl (by kernel_rfl) ⟨(blk_cell BK688.out 0).trans rfl, (blk_cell BK688.out 1).trans rfl, (blk_cell BK688.out 2).trans rfl, (blk_cell BK688.out 3).trans rfl, (blk_cell BK688.out 4).trans rfl, hx689_0, hx690_0, hx691_0, hx692_0, hx693_0⟩ (fun hHeld => ?_); refine with_tabW spec_l3Steps.tab15 spec_l3Steps.bits15 (fun HT_ HW_ => ?_)
     generalize w55.drew = w56 at HO_5 HO_6 BK674 BK688 HB hx689_0 hx690_0 hx691_0 hx692_0 hx693_0 hHeld ⊢
     refine pu 0 48 ?_ (ms 36 1) rfl rfl HT_ (by kernel_rfl) (fun _ _ _ h => h) (by rfl) ?_ ?_ ?_ ?_
     rotate_left
     ·intro w'
      go_simp
      with_reducible rfl
     rotate_left
     ·simp only [SX]
      rfl
     refine pu 1 49 ?_ (ms 36 3) rfl rfl HT_ (by kernel_rfl) (fun _ _ _ h => h) (by rfl) ?_ ?_ ?_ ?_
     rotate_left
     ·intro w'
      go_simp
      with_reducible rfl
     rotate_left
     ·simp only [SX]
      rfl
     refine tk 2 50 ?_ (ms 36 7) rfl rfl HT_ HW_ (by kernel_rfl) (fun _ _ _ h => h) (by rfl) ?_ hHeld ?_ ?_ ?_
     rotate_left
     ·rintro w' ⟨s0, s1, s2, s3, s4, s5, s6, s7, s8, s9⟩
      go_simp
      with_reducible rfl
     rotate_left
     ·simp only [SX]
      rfl
     refine pu 3 51 ?_ (ms 36 15) rfl rfl HT_ (by kernel_rfl) (fun _ _ _ h => h) (by rfl) ?_ ?_ ?_ ?_
     rotate_left
     ·intro w'
      go_simp
      with_reducible rfl
     rotate_left
     ·simp only [SX]
      rfl
     refine tk 4 52 ?_ (ms 36 31) rfl rfl HT_ HW_ (by kernel_rfl) (fun _ _ _ h => h) (by rfl) ?_ hHeld ?_ ?_ ?_
     rotate_left
     ·rintro w' ⟨s0, s1, s2, s3, s4, s5, s6, s7, s8, s9⟩
      go_simp
      with_reducible rfl
     rotate_left
     ·simp only [SX]
      rfl
     refine pu 5 53 ?_ (ms 36 63) rfl rfl HT_ (by kernel_rfl) (fun _ _ _ h => h) (by rfl) ?_ ?_ ?_ ?_
     rotate_left
     ·intro w'
      go_simp
      with_reducible rfl
     rotate_left
     ·simp only [SX]
      rfl
     refine pu 6 54 ?_ (ms 36 127) rfl rfl HT_ (by kernel_rfl) (fun _ _ _ h => h) (by rfl) ?_ ?_ ?_ ?_
     rotate_left
     ·intro w'
      go_simp
      with_reducible rfl
     rotate_left
     ·simp only [SX]
      rfl
     refine pu 7 55 ?_ (ms 36 255) rfl rfl HT_ (by kernel_rfl) (fun _ _ _ h => h) (by rfl) ?_ ?_ ?_ ?_
     rotate_left
     ·intro w'
      go_simp
      with_reducible rfl
     rotate_left
     ·simp only [SX]
      rfl
     refine pu 8 56 ?_ (ms 36 511) rfl rfl HT_ (by kernel_rfl) (fun _ _ _ h => h) (by rfl) ?_ ?_ ?_ ?_
     rotate_left
     ·intro w'
      go_simp
      with_reducible rfl
     rotate_left
     ·simp only [SX]
      rfl
     refine pu 12 60 ?_ (ms 36 4607) rfl rfl HT_ (by kernel_rfl) (fun _ _ _ h => h) (by rfl) ?_ ?_ ?_ ?_
     rotate_left
     ·intro w'
      go_simp
      with_reducible rfl
     rotate_left
     ·simp only [SX]
      rfl
     refine pu 14 62 ?_ (ms 36 20991) rfl rfl HT_ (by kernel_rfl) (fun _ _ _ h => h) (by rfl) ?_ ?_ ?_ ?_
     rotate_left
     ·intro w'
      go_simp
      with_reducible rfl
     rotate_left
     ·simp only [SX]
      rfl
     refine pu 15 63 ?_ (ms 36 53759) rfl rfl HT_ (by kernel_rfl) (fun _ _ _ h => h) (by rfl) ?_ ?_ ?_ ?_
     rotate_left
     ·intro w'
      go_simp
      with_reducible rfl
     rotate_left
     ·simp only [SX]
      rfl
     refine tk 9 57 ?_ (ms 36 54271) rfl rfl HT_ HW_ (by kernel_rfl) (fun _ _ _ h => h) (by rfl) ?_ hHeld ?_ ?_ ?_
     rotate_left
     ·rintro w' ⟨s0, s1, s2, s3, s4, s5, s6, s7, s8, s9⟩
      go_simp
      with_reducible rfl
     rotate_left
     ·simp only [SX]
      rfl
     refine pu 10 58 ?_ (ms 36 55295) rfl rfl HT_ (by kernel_rfl) (fun _ _ _ h => h) (by rfl) ?_ ?_ ?_ ?_
     rotate_left
     ·intro w'
      go_simp
      with_reducible rfl
     rotate_left
     ·simp only [SX]
      rfl
     refine tk 11 59 ?_ (ms 36 57343) rfl rfl HT_ HW_ (by kernel_rfl) (fun _ _ _ h => h) (by rfl) ?_ hHeld ?_ ?_ ?_
     rotate_left
     ·rintro w' ⟨s0, s1, s2, s3, s4, s5, s6, s7, s8, s9⟩
      go_simp
      with_reducible rfl
     rotate_left
     ·simp only [SX]
      rfl
     refine tk 13 61 ?_ (ms 36 65535) rfl rfl HT_ HW_ (by kernel_rfl) (fun _ _ _ h => h) (by rfl) ?_ hHeld ?_ ?_ ?_
     rotate_left
     ·rintro w' ⟨s0, s1, s2, s3, s4, s5, s6, s7, s8, s9⟩
      go_simp
      with_reducible rfl
     rotate_left
     ·simp only [SX]
      rfl
     refine tk 16 64 ?_ (ms 36 131071) rfl rfl HT_ HW_ (by kernel_rfl) (fun _ _ _ h => h) (by rfl) ?_ hHeld ?_ ?_ ?_
     rotate_left
     ·rintro w' ⟨s0, s1, s2, s3, s4, s5, s6, s7, s8, s9⟩
      go_simp
      with_reducible rfl
     rotate_left
     ·simp only [SX]
      rfl
     refine pu 17 65 ?_ (ms 36 262143) rfl rfl HT_ (by kernel_rfl) (fun _ _ _ h => h) (by rfl) ?_ ?_ ?_ ?_
     rotate_left
     ·intro w'
      go_simp
      with_reducible rfl
     rotate_left
     ·simp only [SX]
      rfl
     refine tk 18 66 ?_ (ms 36 524287) rfl rfl HT_ HW_ (by kernel_rfl) (fun _ _ _ h => h) (by rfl) ?_ hHeld ?_ ?_ ?_
     rotate_left
     ·rintro w' ⟨s0, s1, s2, s3, s4, s5, s6, s7, s8, s9⟩
      go_simp
      with_reducible rfl
     rotate_left
     ·simp only [SX]
      rfl
     refine pu 19 67 ?_ (ms 36 1048575) rfl rfl HT_ (by kernel_rfl) (fun _ _ _ h => h) (by rfl) ?_ ?_ ?_ ?_
     rotate_left
     ·intro w'
      go_simp
      with_reducible rfl
     rotate_left
     ·simp only [SX]
      rfl
     refine pu 20 68 ?_ (ms 36 2097151) rfl rfl HT_ (by kernel_rfl) (fun _ _ _ h => h) (by rfl) ?_ ?_ ?_ ?_
     rotate_left
     ·intro w'
      go_simp
      with_reducible rfl
     rotate_left
     ·simp only [SX]
      rfl
     refine pu 21 69 ?_ (ms 36 4194303) rfl rfl HT_ (by kernel_rfl) (fun _ _ _ h => h) (by rfl) ?_ ?_ ?_ ?_
     rotate_left
     ·intro w'
      go_simp
      with_reducible rfl
     rotate_left
     ·simp only [SX]
      rfl
     refine pu 22 70 ?_ (ms 36 8388607) rfl rfl HT_ (by kernel_rfl) (fun _ _ _ h => h) (by rfl) ?_ ?_ ?_ ?_
     rotate_left
     ·intro w'
      go_simp
      with_reducible rfl
     rotate_left
     ·simp only [SX]
      rfl
     refine pu 23 71 ?_ (ms 36 16777215) rfl rfl HT_ (by kernel_rfl) (fun _ _ _ h => h) (by rfl) ?_ ?_ ?_ ?_
     rotate_left
     ·intro w'
      go_simp
      with_reducible rfl
     rotate_left
     ·simp only [SX]
      rfl
     refine pu 24 72 ?_ (ms 36 33554431) rfl rfl HT_ (by kernel_rfl) (fun _ _ _ h => h) (by rfl) ?_ ?_ ?_ ?_
     rotate_left
     ·intro w'
      go_simp
      with_reducible rfl
     rotate_left
     ·simp only [SX]
      rfl
     refine pu 29 77 ?_ (ms 36 570425343) rfl rfl HT_ (by kernel_rfl) (fun _ _ _ h => h) (by rfl) ?_ ?_ ?_ ?_
     rotate_left
     ·intro w'
      go_simp
      with_reducible rfl
     rotate_left
     ·simp only [SX]
      rfl
     refine pu 30 78 ?_ (ms 36 1644167167) rfl rfl HT_ (by kernel_rfl) (fun _ _ _ h => h) (by rfl) ?_ ?_ ?_ ?_
     rotate_left
     ·intro w'
      go_simp
      with_reducible rfl
     rotate_left
     ·simp only [SX]
      rfl
     refine tk 25 73 ?_ (ms 36 1677721599) rfl rfl HT_ HW_ (by kernel_rfl) (fun _ _ _ h => h) (by rfl) ?_ hHeld ?_ ?_ ?_
     rotate_left
     ·rintro w' ⟨s0, s1, s2, s3, s4, s5, s6, s7, s8, s9⟩
      go_simp
      with_reducible rfl
     rotate_left
     ·simp only [SX]
      rfl
     refine pu 26 74 ?_ (ms 36 1744830463) rfl rfl HT_ (by kernel_rfl) (fun _ _ _ h => h) (by rfl) ?_ ?_ ?_ ?_
     rotate_left
     ·intro w'
      go_simp
      with_reducible rfl
     rotate_left
     ·simp only [SX]
      rfl
     refine tk 27 75 ?_ (ms 36 1879048191) rfl rfl HT_ HW_ (by kernel_rfl) (fun _ _ _ h => h) (by rfl) ?_ hHeld ?_ ?_ ?_
     rotate_left
     ·rintro w' ⟨s0, s1, s2, s3, s4, s5, s6, s7, s8, s9⟩
      go_simp
      with_reducible rfl
     rotate_left
     ·simp only [SX]
      rfl
     refine pu 28 76 ?_ (ms 36 2147483647) rfl rfl HT_ (by kernel_rfl) (fun _ _ _ h => h) (by rfl) ?_ ?_ ?_ ?_
     rotate_left
     ·intro w'
      go_simp
      with_reducible rfl
     rotate_left
     ·simp only [SX]
      rfl
     refine tk 31 79 ?_ (ms 36 4294967295) rfl rfl HT_ HW_ (by kernel_rfl) (fun _ _ _ h => h) (by rfl) ?_ hHeld ?_ ?_ ?_
     rotate_left
     ·rintro w' ⟨s0, s1, s2, s3, s4, s5, s6, s7, s8, s9⟩
      go_simp
      with_reducible rfl
     rotate_left
     ·simp only [SX]
      rfl
     refine pu 32 80 ?_ (ms 36 8589934591) rfl rfl HT_ (by kernel_rfl) (fun _ _ _ h => h) (by rfl) ?_ ?_ ?_ ?_
     rotate_left
     ·intro w'
      go_simp
      with_reducible rfl
     rotate_left
     ·simp only [SX]
      rfl
     refine tk 33 81 ?_ (ms 36 17179869183) rfl rfl HT_ HW_ (by kernel_rfl) (fun _ _ _ h => h) (by rfl) ?_ hHeld ?_ ?_ ?_
     rotate_left
     ·rintro w' ⟨s0, s1, s2, s3, s4, s5, s6, s7, s8, s9⟩
      go_simp
      with_reducible rfl
     rotate_left
     ·simp only [SX]
      rfl
     refine pu 34 82 ?_ (ms 36 34359738367) rfl rfl HT_ (by kernel_rfl) (fun _ _ _ h => h) (by rfl) ?_ ?_ ?_ ?_
     rotate_left
     ·intro w'
      go_simp
      with_reducible rfl
     rotate_left
     ·simp only [SX]
      rfl
     refine pu 35 83 ?_ (ms 36 68719476735) rfl rfl HT_ (by kernel_rfl) (fun _ _ _ h => h) (by rfl) ?_ ?_ ?_ ?_
     rotate_left
     ·intro w'
      go_simp
      with_reducible rfl
     rotate_left
     ·simp only [SX]
      rfl
     refine done_ (done_of HT_.out (by kernel_rfl)) ?_
     try go_wp2
     (try simp only [← hl6_3])
     go_roundg k3
     case measure => have := HK1.out; have := HK2.out; have := HK3.out; omega
     case rel => exact ⟨(x6_3), (wrap64 (x9_3 + 1)), (by first | rfl | (simp; done) | (simp [*]; done)), H', ⟨by have := HK1.out; have := HK2.out; have := HK3.out; omega⟩, ⟨by (try simp only [hl6_2]); (try simp only [hl6_3]); (with_reducible repeat (first | apply Kd.R_alloc | apply Kd.R_drewN | apply Kd.R_drew)); exact HO_5.out⟩, ⟨by (try simp only [hl6_2]); (try simp only [hl6_3]); (with_reducible repeat (first | apply Kd.R_alloc | apply Kd.R_drewN | apply Kd.R_drew)); exact HO_6.out⟩, ⟨by (try simp only [hl6_2]); (try simp only [hl6_3]); (with_reducible repeat (first | refine blk_drewN ?_ _ | refine blk_drew ?_ | refine blk_alloc ?_ _)); exact BK674.out⟩, ⟨bl2 HB GE674 GE688⟩⟩
    rw [if_pos c40] at H
    have c40b0 : decide ((wrap64 ((rd x6_3 ((rd_T58 l0_1 x9_3).f1)) + 1)) < (rd x6_3 ((rd_T58 l0_1 x9_3).f0))) = true := decide_eq_true c40
    clear c40
    obtain ⟨y695, hy695⟩ : ∃ y_ : List Int, y_ = (x6_3.set (((rd_T58 l0_1 x9_3).f0) : Int).toNat (wrap64 ((rd x6_3 ((rd_T58 l0_1 x9_3).f1)) + 1))) := ⟨_, rfl⟩
    replace H : (spec_l3Steps.l2 k3 t679 y695 x8_2 (wrap64 (x9_3 + 1)) a0_0 l0_1) = some r := by first | (rw [hy695]; with_reducible exact H) | (have H2_ := (Option.bind_some _ _).symm.trans H; rw [hy695]; with_reducible exact H2_) | (have H2_ := (Option.bind_some _ _).symm.trans H; with_reducible exact H2_) | with_reducible exact H | (rw [hy695]; exact H) | exact H
    have Ny695 := ak hy695
    clear hy695
    have H' := ak H
    clear H
    have hcz42_0 := bc wr BK674 0 (.int .i64 a0_0) rfl
    have hcz42_1 := bc wr BK674 1 (.slice A0_1 l0_1.length c0_1) rfl
    have hfz42_0 := fz BK674 0
    have hfz42_1 := fz BK674 1
    have p687 : 0 ≤ (x9_3 : Int) := oT (by first | (with_reducible assumption) | assumption)
    have q687 : x9_3 < (l0_1.length : Int) := oT (by first | (with_reducible assumption) | assumption)
    obtain ⟨ad687, e687, hx687_0, hx687_1, hx687_2, hx687_3, hx687_4⟩ := at_T58 HR0_1.out x9_3 p687 q687
    cases e687
    replace hx687_0 := hcb HB.out hx687_0
    replace hx687_1 := hcb HB.out hx687_1
    replace hx687_2 := hcb HB.out hx687_2
    replace hx687_3 := hcb HB.out hx687_3
    replace hx687_4 := hcb HB.out hx687_4
    replace p687 := eq_true p687
    replace q687 := eq_true q687
    try go_wp2_with (first | ((with_reducible refine gate_dst (N := 10) rfl ?_); refine box_event ?hg (N := 10) ?hd (cs := #[.int .i64 0, .int .i64 0, .int .i64 0, .int .i64 0, .int .i64 0]) (t := 58) ?hr ?_; (case hd => rfl); (case hg => rfl); (case hr => first | (go_simp; done) | (go_simp; rfl)); intro gb688 hg w43 hbox hb; replace HO_5 := ak (Kd.R_below (rk HO_5) hb); replace HO_6 := ak (Kd.R_below (rk HO_6) hb); have BK688 := ak (hbox); have GW688 := ak ((by rw [hg]; exact (below_size (bl1 HB GE674)) : w.heap.size ≤ gb688)); have GE688 := ak ((by rw [hg]; exact (below_size (bl1 HB GE674)) : w.heap.size ≤ gb688)); replace HB := ak (below_step (bl1 HB GE674) hb); have NB674_688 := ak ((by rw [hg]; exact Nat.ne_of_lt (blk_lt (bk BK674)) : gb674 ≠ gb688)); have NB688_674 := ak ((by rw [hg]; exact Nat.ne_of_gt (blk_lt (bk BK674)) : gb688 ≠ gb674)); replace BK674 := ak (blk_below (bk BK674) hb); clear hb hbox hg; have hnb44 := NB688_674.out; have hnc44 := NB674_688.out; have hcz45_0 := bc w43 BK688 0 (.int .i64 0) rfl; have hcz45_1 := bc w43 BK688 1 (.int .i64 0) rfl; have hcz45_2 := bc w43 BK688 2 (.int .i64 0) rfl; have hcz45_3 := bc w43 BK688 3 (.int .i64 0) rfl; have hcz45_4 := bc w43 BK688 4 (.int .i64 0) rfl; have hfz45_0 := fz BK688 0; have hfz45_1 := fz BK688 1; have hfz45_2 := fz BK688 2; have hfz45_3 := fz BK688 3; have hfz45_4 := fz BK688 4))
    have n0_ : Aside0 (Kd.R (Kd.int .i64) 3 (((((w43.setCell ⟨gb688, 0, none⟩ (.int .i64 ((rd_T58 l0_1 x9_3).f0))).setCell ⟨gb688, 1, none⟩ (.int .i64 ((rd_T58 l0_1 x9_3).f1))).setCell ⟨gb688, 2, none⟩ (.int .i64 ((rd_T58 l0_1 x9_3).f2))).setCell ⟨gb688, 3, none⟩ (.int .i64 ((rd_T58 l0_1 x9_3).f3))).setCell ⟨gb688, 4, none⟩ (.int .i64 ((rd_T58 l0_1 x9_3).f4))) w.heap.size (fun k_ => some k_ ≠ (.slice (some ⟨go24, 0, none⟩) x6_3.length co24 : Value).ownBlock) v680 t679) := ⟨by (with_reducible repeat (first | apply Kd.R_alloc | apply Kd.R_drewN | apply Kd.R_drew)); exact Kd.R_mono (Kd.R_far (p := ⟨gb688, 4, none⟩) (Kd.R_far (p := ⟨gb688, 3, none⟩) (Kd.R_far (p := ⟨gb688, 2, none⟩) (Kd.R_far (p := ⟨gb688, 1, none⟩) (Kd.R_far (p := ⟨gb688, 0, none⟩) (Kd.R_types HO_5.out BK688.out (by decide)) (fun _ hk => hk.2) (.int .i64 ((rd_T58 l0_1 x9_3).f0))) (fun _ hk => hk.2) (.int .i64 ((rd_T58 l0_1 x9_3).f1))) (fun _ hk => hk.2) (.int .i64 ((rd_T58 l0_1 x9_3).f2))) (fun _ hk => hk.2) (.int .i64 ((rd_T58 l0_1 x9_3).f3))) (fun _ hk => hk.2) (.int .i64 ((rd_T58 l0_1 x9_3).f4))) (fun _ hk => hk.1)⟩
    have n1_ : Aside0 (Kd.R (Kd.int .i64) 3 (((((w43.setCell ⟨gb688, 0, none⟩ (.int .i64 ((rd_T58 l0_1 x9_3).f0))).setCell ⟨gb688, 1, none⟩ (.int .i64 ((rd_T58 l0_1 x9_3).f1))).setCell ⟨gb688, 2, none⟩ (.int .i64 ((rd_T58 l0_1 x9_3).f2))).setCell ⟨gb688, 3, none⟩ (.int .i64 ((rd_T58 l0_1 x9_3).f3))).setCell ⟨gb688, 4, none⟩ (.int .i64 ((rd_T58 l0_1 x9_3).f4))) w.heap.size (fun k_ => some k_ ≠ (v680 : Value).ownBlock) (.slice (some ⟨go24, 0, none⟩) x6_3.length co24) x6_3) := ⟨by (with_reducible repeat (first | apply Kd.R_alloc | apply Kd.R_drewN | apply Kd.R_drew)); exact Kd.R_mono (Kd.R_far (p := ⟨gb688, 4, none⟩) (Kd.R_far (p := ⟨gb688, 3, none⟩) (Kd.R_far (p := ⟨gb688, 2, none⟩) (Kd.R_far (p := ⟨gb688, 1, none⟩) (Kd.R_far (p := ⟨gb688, 0, none⟩) (Kd.R_types HO_6.out BK688.out (by decide)) (fun _ hk => hk.2) (.int .i64 ((rd_T58 l0_1 x9_3).f0))) (fun _ hk => hk.2) (.int .i64 ((rd_T58 l0_1 x9_3).f1))) (fun _ hk => hk.2) (.int .i64 ((rd_T58 l0_1 x9_3).f2))) (fun _ hk => hk.2) (.int .i64 ((rd_T58 l0_1 x9_3).f3))) (fun _ hk => hk.2) (.int .i64 ((rd_T58 l0_1 x9_3).f4))) (fun _ hk => hk.1)⟩
    have n2_ : Aside0 ((((((w43.setCell ⟨gb688, 0, none⟩ (.int .i64 ((rd_T58 l0_1 x9_3).f0))).setCell ⟨gb688, 1, none⟩ (.int .i64 ((rd_T58 l0_1 x9_3).f1))).setCell ⟨gb688, 2, none⟩ (.int .i64 ((rd_T58 l0_1 x9_3).f2))).setCell ⟨gb688, 3, none⟩ (.int .i64 ((rd_T58 l0_1 x9_3).f3))).setCell ⟨gb688, 4, none⟩ (.int .i64 ((rd_T58 l0_1 x9_3).f4))).heap[gb674]? = some (.cells #[.int .i64 a0_0, .slice (some ad687) l0_1.length c0_1] 25 (0, 0))) := ⟨by (with_reducible repeat (first | refine blk_drewN ?_ _ | refine blk_drew ?_ | refine blk_alloc ?_ _)); refine blk_far ?_ NB674_688.out _; refine blk_far ?_ NB674_688.out _; refine blk_far ?_ NB674_688.out _; refine blk_far ?_ NB674_688.out _; refine blk_far ?_ NB674_688.out _; (with_reducible repeat (first | refine blk_drewN ?_ _ | refine blk_drew ?_ | refine blk_alloc ?_ _)); exact BK674.out⟩
    have n3_ : Aside0 ((((((w43.setCell ⟨gb688, 0, none⟩ (.int .i64 ((rd_T58 l0_1 x9_3).f0))).setCell ⟨gb688, 1, none⟩ (.int .i64 ((rd_T58 l0_1 x9_3).f1))).setCell ⟨gb688, 2, none⟩ (.int .i64 ((rd_T58 l0_1 x9_3).f2))).setCell ⟨gb688, 3, none⟩ (.int .i64 ((rd_T58 l0_1 x9_3).f3))).setCell ⟨gb688, 4, none⟩ (.int .i64 ((rd_T58 l0_1 x9_3).f4))).heap[gb688]? = some (.cells #[.int .i64 ((rd_T58 l0_1 x9_3).f0), .int .i64 ((rd_T58 l0_1 x9_3).f1), .int .i64 ((rd_T58 l0_1 x9_3).f2), .int .i64 ((rd_T58 l0_1 x9_3).f3), .int .i64 ((rd_T58 l0_1 x9_3).f4)] 58 (0, 0))) := ⟨by (with_reducible repeat (first | refine blk_drewN ?_ _ | refine blk_drew ?_ | refine blk_alloc ?_ _)); refine blk_put (cs := #[.int .i64 ((rd_T58 l0_1 x9_3).f0), .int .i64 ((rd_T58 l0_1 x9_3).f1), .int .i64 ((rd_T58 l0_1 x9_3).f2), .int .i64 ((rd_T58 l0_1 x9_3).f3), .int .i64 0]) ?_ 4 _ rfl; refine blk_put (cs := #[.int .i64 ((rd_T58 l0_1 x9_3).f0), .int .i64 ((rd_T58 l0_1 x9_3).f1), .int .i64 ((rd_T58 l0_1 x9_3).f2), .int .i64 0, .int .i64 0]) ?_ 3 _ rfl; refine blk_put (cs := #[.int .i64 ((rd_T58 l0_1 x9_3).f0), .int .i64 ((rd_T58 l0_1 x9_3).f1), .int .i64 0, .int .i64 0, .int .i64 0]) ?_ 2 _ rfl; refine blk_put (cs := #[.int .i64 ((rd_T58 l0_1 x9_3).f0), .int .i64 0, .int .i64 0, .int .i64 0, .int .i64 0]) ?_ 1 _ rfl; refine blk_put (cs := #[.int .i64 0, .int .i64 0, .int .i64 0, .int .i64 0, .int .i64 0]) ?_ 0 _ rfl; (with_reducible repeat (first | refine blk_drewN ?_ _ | refine blk_drew ?_ | refine blk_alloc ?_ _)); exact BK688.out⟩
    have n4_ : Aside0 (Below w.heap.size w (((((w43.setCell ⟨gb688, 0, none⟩ (.int .i64 ((rd_T58 l0_1 x9_3).f0))).setCell ⟨gb688, 1, none⟩ (.int .i64 ((rd_T58 l0_1 x9_3).f1))).setCell ⟨gb688, 2, none⟩ (.int .i64 ((rd_T58 l0_1 x9_3).f2))).setCell ⟨gb688, 3, none⟩ (.int .i64 ((rd_T58 l0_1 x9_3).f3))).setCell ⟨gb688, 4, none⟩ (.int .i64 ((rd_T58 l0_1 x9_3).f4)))) := ⟨bl2 HB GE674 GE688⟩
    (try clear HO_5)
    (try clear HO_6)
    (try clear BK674)
    (try clear BK688)
    (try clear HB)
    generalize (((((w43.setCell ⟨gb688, 0, none⟩ (.int .i64 ((rd_T58 l0_1 x9_3).f0))).setCell ⟨gb688, 1, none⟩ (.int .i64 ((rd_T58 l0_1 x9_3).f1))).setCell ⟨gb688, 2, none⟩ (.int .i64 ((rd_T58 l0_1 x9_3).f2))).setCell ⟨gb688, 3, none⟩ (.int .i64 ((rd_T58 l0_1 x9_3).f3))).setCell ⟨gb688, 4, none⟩ (.int .i64 ((rd_T58 l0_1 x9_3).f4))) = w46 at n0_ n1_ n2_ n3_ n4_ ⊢
    have HO_5 := n0_
    have HO_6 := n1_
    have BK674 := n2_
    have BK688 := n3_
    have HB := n4_
    clear n0_ n1_ n2_ n3_ n4_
    replace HO_5 := ak (Kd.R_drew HO_5.out)
    replace HO_6 := ak (Kd.R_drew HO_6.out)
    replace BK674 := ak (blk_drew BK674.out)
    replace BK688 := ak (blk_drew BK688.out)
    replace HB := ak (below_drew1 HB.out)
    obtain ⟨Ao48, co48, eo48⟩ := Kd.R_slice HO_5.out
    (first | subst eo48 | (injection eo48 with f1_ f2_ f3_; have f4_ := f1_.symm; have f5_ := f3_.symm; clear f1_ f2_ f3_; subst f4_; subst f5_))
    have p689 : 0 ≤ (((rd_T58 l0_1 x9_3).f1) : Int) := oT (by first | (with_reducible assumption) | assumption)
    have q689 : ((rd_T58 l0_1 x9_3).f1) < (t679.length : Int) := oT (by first | (with_reducible assumption) | assumption)
    obtain ⟨ad689, e689, hx689_0⟩ := Kd.at_int (Kd.R_reads' HO_5.out).2.2 ((rd_T58 l0_1 x9_3).f1) p689 q689
    cases e689
    replace p689 := eq_true p689
    replace q689 := eq_true q689
    have p690 : 0 ≤ (((rd_T58 l0_1 x9_3).f0) : Int) := oT (by first | (with_reducible assumption) | assumption)
    have q690 : ((rd_T58 l0_1 x9_3).f0) < (t679.length : Int) := oT (by first | (with_reducible assumption) | assumption)
    obtain ⟨ad690, e690, hx690_0⟩ := Kd.at_int (Kd.R_reads' HO_5.out).2.2 ((rd_T58 l0_1 x9_3).f0) p690 q690
    obtain rfl : ad689 = ad690 := (by injection e690)
    replace p690 := eq_true p690
    replace q690 := eq_true q690
    have p691 : 0 ≤ (((rd_T58 l0_1 x9_3).f1) : Int) := oT (by first | (with_reducible assumption) | assumption)
    have q691 : ((rd_T58 l0_1 x9_3).f1) < (t679.length : Int) := oT (by first | (with_reducible assumption) | assumption)
    obtain ⟨ad691, e691, hx691_0⟩ := Kd.at_int (Kd.R_reads' HO_5.out).2.2 ((rd_T58 l0_1 x9_3).f1) p691 q691
    obtain rfl : ad689 = ad691 := (by injection e691)
    replace p691 := eq_true p691
    replace q691 := eq_true q691
    have p692 : 0 ≤ (((rd_T58 l0_1 x9_3).f1) : Int) := oT (by first | (with_reducible assumption) | assumption)
    have q692 : ((rd_T58 l0_1 x9_3).f1) < (x6_3.length : Int) := oT (by first | (with_reducible assumption) | assumption)
    obtain ⟨ad692, e692, hx692_0⟩ := Kd.at_int (Kd.R_reads' HO_6.out).2.2 ((rd_T58 l0_1 x9_3).f1) p692 q692
    obtain rfl : (⟨go24, 0, none⟩ : Addr) = ad692 := (by injection e692)
    (first | simp only [add_plain] at hx692_0 | simp only [add_at] at hx692_0 | simp only [Addr.add, Nat.zero_add] at hx692_0 | skip)
    replace p692 := eq_true p692
    replace q692 := eq_true q692
    have p693 : 0 ≤ (((rd_T58 l0_1 x9_3).f0) : Int) := oT (by first | (with_reducible assumption) | assumption)
    have q693 : ((rd_T58 l0_1 x9_3).f0) < (x6_3.length : Int) := oT (by first | (with_reducible assumption) | assumption)
    obtain ⟨ad693, e693, hx693_0⟩ := Kd.at_int (Kd.R_reads' HO_6.out).2.2 ((rd_T58 l0_1 x9_3).f0) p693 q693
    obtain rfl : (⟨go24, 0, none⟩ : Addr) = ad693 := (by injection e693)
    (first | simp only [add_plain] at hx693_0 | simp only [add_at] at hx693_0 | simp only [Addr.add, Nat.zero_add] at hx693_0 | skip)
    replace p693 := eq_true p693
    replace q693 := eq_true q693
    refine start_ (n := 36) (S := fun w' => w'.cell? ⟨gb688, 0, none⟩ = some (.int .i64 ((rd_T58 l0_1 x9_3).f0)) ∧ w'.cell? ⟨gb688, 1, none⟩ = some (.int .i64 ((rd_T58 l0_1 x9_3).f1)) ∧ w'.cell? ⟨gb688, 2, none⟩ = some (.int .i64 ((rd_T58 l0_1 x9_3).f2)) ∧ w'.cell? ⟨gb688, 3, none⟩ = some (.int .i64 ((rd_T58 l0_1 x9_3).f3)) ∧ w'.cell? ⟨gb688, 4, none⟩ = some (.int .i64 ((rd_T58 l0_1 x9_3).f4)) ∧ w'.cell? (ad689.add (((rd_T58 l0_1 x9_3).f1)).toNat) = some (.int .i64 (rd t679 ((rd_T58 l0_1 x9_3).f1))) ∧ w'.cell? (ad689.add (((rd_T58 l0_1 x9_3).f0)).toNat) = some (.int .i64 (rd t679 ((rd_T58 l0_1 x9_3).f0))) ∧ w'.cell? (ad689.add (((rd_T58 l0_1 x9_3).f1)).toNat) = some (.int .i64 (rd t679 ((rd_T58 l0_1 x9_3).f1))) ∧ w'.cell? ⟨go24, (((rd_T58 l0_1 x9_3).f1)).toNat, none⟩ = some (.int .i64 (rd x6_3 ((rd_T58 l0_1 x9_3).f1))) ∧ w'.cell? ⟨go24, (((rd_T58 l0_1 x9_3).f0)).toNat, none⟩ = some (.int .i64 (rd x6_3 ((rd_T58 l0_1 x9_3).f0)))) (ds := []) (ms 36 0) (by kernel_rfl) rfl (by kernel_rfl) ⟨(blk_cell BK688.out 0).trans rfl, (blk_cell BK688.out 1).trans rfl, (blk_cell BK688.out 2).trans rfl, (blk_cell BK688.out 3).trans rfl, (blk_cell BK688.out 4).trans rfl, hx689_0, hx690_0, hx691_0, hx692_0, hx693_0⟩ (fun hHeld => ?_); refine with_tabW spec_l3Steps.tab15 spec_l3Steps.bits15 (fun HT_ HW_ => ?_)
    generalize w46.drew = w47 at HO_5 HO_6 BK674 BK688 HB hx689_0 hx690_0 hx691_0 hx692_0 hx693_0 hHeld ⊢
    refine pu 0 48 ?_ (ms 36 1) rfl rfl HT_ (by kernel_rfl) (fun _ _ _ h => h) (by rfl) ?_ ?_ ?_ ?_
    rotate_left
    ·intro w'
     go_simp
     with_reducible rfl
    rotate_left
    ·simp only [SX]
     rfl
    refine pu 1 49 ?_ (ms 36 3) rfl rfl HT_ (by kernel_rfl) (fun _ _ _ h => h) (by rfl) ?_ ?_ ?_ ?_
    rotate_left
    ·intro w'
     go_simp
     with_reducible rfl
    rotate_left
    ·simp only [SX]
     rfl
    refine tk 2 50 ?_ (ms 36 7) rfl rfl HT_ HW_ (by kernel_rfl) (fun _ _ _ h => h) (by rfl) ?_ hHeld ?_ ?_ ?_
    rotate_left
    ·rintro w' ⟨s0, s1, s2, s3, s4, s5, s6, s7, s8, s9⟩
     go_simp
     with_reducible rfl
    rotate_left
    ·simp only [SX]
     rfl
    refine pu 3 51 ?_ (ms 36 15) rfl rfl HT_ (by kernel_rfl) (fun _ _ _ h => h) (by rfl) ?_ ?_ ?_ ?_
    rotate_left
    ·intro w'
     go_simp
     with_reducible rfl
    rotate_left
    ·simp only [SX]
     rfl
    refine tk 4 52 ?_ (ms 36 31) rfl rfl HT_ HW_ (by kernel_rfl) (fun _ _ _ h => h) (by rfl) ?_ hHeld ?_ ?_ ?_
    rotate_left
    ·rintro w' ⟨s0, s1, s2, s3, s4, s5, s6, s7, s8, s9⟩
     go_simp
     with_reducible rfl
    rotate_left
    ·simp only [SX]
     rfl
    refine pu 5 53 ?_ (ms 36 63) rfl rfl HT_ (by kernel_rfl) (fun _ _ _ h => h) (by rfl) ?_ ?_ ?_ ?_
    rotate_left
    ·intro w'
     go_simp
     with_reducible rfl
    rotate_left
    ·simp only [SX]
     rfl
    refine pu 6 54 ?_ (ms 36 127) rfl rfl HT_ (by kernel_rfl) (fun _ _ _ h => h) (by rfl) ?_ ?_ ?_ ?_
    rotate_left
    ·intro w'
     go_simp
     with_reducible rfl
    rotate_left
    ·simp only [SX]
     rfl
    refine pu 7 55 ?_ (ms 36 255) rfl rfl HT_ (by kernel_rfl) (fun _ _ _ h => h) (by rfl) ?_ ?_ ?_ ?_
    rotate_left
    ·intro w'
     go_simp
     with_reducible rfl
    rotate_left
    ·simp only [SX]
     rfl
    refine pu 8 56 ?_ (ms 36 511) rfl rfl HT_ (by kernel_rfl) (fun _ _ _ h => h) (by rfl) ?_ ?_ ?_ ?_
    rotate_left
    ·intro w'
     go_simp
     with_reducible rfl
    rotate_left
    ·simp only [SX]
     rfl
    refine pu 12 60 ?_ (ms 36 4607) rfl rfl HT_ (by kernel_rfl) (fun _ _ _ h => h) (by rfl) ?_ ?_ ?_ ?_
    rotate_left
    ·intro w'
     go_simp
     with_reducible rfl
    rotate_left
    ·simp only [SX]
     rfl
    refine pu 14 62 ?_ (ms 36 20991) rfl rfl HT_ (by kernel_rfl) (fun _ _ _ h => h) (by rfl) ?_ ?_ ?_ ?_
    rotate_left
    ·intro w'
     go_simp
     with_reducible rfl
    rotate_left
    ·simp only [SX]
     rfl
    refine pu 15 63 ?_ (ms 36 53759) rfl rfl HT_ (by kernel_rfl) (fun _ _ _ h => h) (by rfl) ?_ ?_ ?_ ?_
    rotate_left
    ·intro w'
     go_simp
     with_reducible rfl
    rotate_left
    ·simp only [SX]
     rfl
    refine tk 9 57 ?_ (ms 36 54271) rfl rfl HT_ HW_ (by kernel_rfl) (fun _ _ _ h => h) (by rfl) ?_ hHeld ?_ ?_ ?_
    rotate_left
    ·rintro w' ⟨s0, s1, s2, s3, s4, s5, s6, s7, s8, s9⟩
     go_simp
     with_reducible rfl
    rotate_left
    ·simp only [SX]
     rfl
    refine pu 10 58 ?_ (ms 36 55295) rfl rfl HT_ (by kernel_rfl) (fun _ _ _ h => h) (by rfl) ?_ ?_ ?_ ?_
    rotate_left
    ·intro w'
     go_simp
     with_reducible rfl
    rotate_left
    ·simp only [SX]
     rfl
    refine tk 11 59 ?_ (ms 36 57343) rfl rfl HT_ HW_ (by kernel_rfl) (fun _ _ _ h => h) (by rfl) ?_ hHeld ?_ ?_ ?_
    rotate_left
    ·rintro w' ⟨s0, s1, s2, s3, s4, s5, s6, s7, s8, s9⟩
     go_simp
     with_reducible rfl
    rotate_left
    ·simp only [SX]
     rfl
    refine tk 13 61 ?_ (ms 36 65535) rfl rfl HT_ HW_ (by kernel_rfl) (fun _ _ _ h => h) (by rfl) ?_ hHeld ?_ ?_ ?_
    rotate_left
    ·rintro w' ⟨s0, s1, s2, s3, s4, s5, s6, s7, s8, s9⟩
     go_simp
     with_reducible rfl
    rotate_left
    ·simp only [SX]
     rfl
    refine tk 16 64 ?_ (ms 36 131071) rfl rfl HT_ HW_ (by kernel_rfl) (fun _ _ _ h => h) (by rfl) ?_ hHeld ?_ ?_ ?_
    rotate_left
    ·rintro w' ⟨s0, s1, s2, s3, s4, s5, s6, s7, s8, s9⟩
     go_simp
     with_reducible rfl
    rotate_left
    ·simp only [SX]
     rfl
    refine pu 17 65 ?_ (ms 36 262143) rfl rfl HT_ (by kernel_rfl) (fun _ _ _ h => h) (by rfl) ?_ ?_ ?_ ?_
    rotate_left
    ·intro w'
     go_simp
     with_reducible rfl
    rotate_left
    ·simp only [SX]
     rfl
    refine tk 18 66 ?_ (ms 36 524287) rfl rfl HT_ HW_ (by kernel_rfl) (fun _ _ _ h => h) (by rfl) ?_ hHeld ?_ ?_ ?_
    rotate_left
    ·rintro w' ⟨s0, s1, s2, s3, s4, s5, s6, s7, s8, s9⟩
     go_simp
     with_reducible rfl
    rotate_left
    ·simp only [SX]
     rfl
    refine pu 19 67 ?_ (ms 36 1048575) rfl rfl HT_ (by kernel_rfl) (fun _ _ _ h => h) (by rfl) ?_ ?_ ?_ ?_
    rotate_left
    ·intro w'
     go_simp
     with_reducible rfl
    rotate_left
    ·simp only [SX]
     rfl
    refine pu 20 68 ?_ (ms 36 2097151) rfl rfl HT_ (by kernel_rfl) (fun _ _ _ h => h) (by rfl) ?_ ?_ ?_ ?_
    rotate_left
    ·intro w'
     go_simp
     with_reducible rfl
    rotate_left
    ·simp only [SX]
     rfl
    refine pu 21 69 ?_ (ms 36 4194303) rfl rfl HT_ (by kernel_rfl) (fun _ _ _ h => h) (by rfl) ?_ ?_ ?_ ?_
    rotate_left
    ·intro w'
     go_simp
     with_reducible rfl
    rotate_left
    ·simp only [SX]
     rfl
    refine pu 22 70 ?_ (ms 36 8388607) rfl rfl HT_ (by kernel_rfl) (fun _ _ _ h => h) (by rfl) ?_ ?_ ?_ ?_
    rotate_left
    ·intro w'
     go_simp
     with_reducible rfl
    rotate_left
    ·simp only [SX]
     rfl
    refine pu 23 71 ?_ (ms 36 16777215) rfl rfl HT_ (by kernel_rfl) (fun _ _ _ h => h) (by rfl) ?_ ?_ ?_ ?_
    rotate_left
    ·intro w'
     go_simp
     with_reducible rfl
    rotate_left
    ·simp only [SX]
     rfl
    refine pu 24 72 ?_ (ms 36 33554431) rfl rfl HT_ (by kernel_rfl) (fun _ _ _ h => h) (by rfl) ?_ ?_ ?_ ?_
    rotate_left
    ·intro w'
     go_simp
     with_reducible rfl
    rotate_left
    ·simp only [SX]
     rfl
    refine pu 29 77 ?_ (ms 36 570425343) rfl rfl HT_ (by kernel_rfl) (fun _ _ _ h => h) (by rfl) ?_ ?_ ?_ ?_
    rotate_left
    ·intro w'
     go_simp
     with_reducible rfl
    rotate_left
    ·simp only [SX]
     rfl
    refine pu 30 78 ?_ (ms 36 1644167167) rfl rfl HT_ (by kernel_rfl) (fun _ _ _ h => h) (by rfl) ?_ ?_ ?_ ?_
    rotate_left
    ·intro w'
     go_simp
     with_reducible rfl
    rotate_left
    ·simp only [SX]
     rfl
    refine tk 25 73 ?_ (ms 36 1677721599) rfl rfl HT_ HW_ (by kernel_rfl) (fun _ _ _ h => h) (by rfl) ?_ hHeld ?_ ?_ ?_
    rotate_left
    ·rintro w' ⟨s0, s1, s2, s3, s4, s5, s6, s7, s8, s9⟩
     go_simp
     with_reducible rfl
    rotate_left
    ·simp only [SX]
     rfl
    refine pu 26 74 ?_ (ms 36 1744830463) rfl rfl HT_ (by kernel_rfl) (fun _ _ _ h => h) (by rfl) ?_ ?_ ?_ ?_
    rotate_left
    ·intro w'
     go_simp
     with_reducible rfl
    rotate_left
    ·simp only [SX]
     rfl
    refine tk 27 75 ?_ (ms 36 1879048191) rfl rfl HT_ HW_ (by kernel_rfl) (fun _ _ _ h => h) (by rfl) ?_ hHeld ?_ ?_ ?_
    rotate_left
    ·rintro w' ⟨s0, s1, s2, s3, s4, s5, s6, s7, s8, s9⟩
     go_simp
     with_reducible rfl
    rotate_left
    ·simp only [SX]
     rfl
    refine pu 28 76 ?_ (ms 36 2147483647) rfl rfl HT_ (by kernel_rfl) (fun _ _ _ h => h) (by rfl) ?_ ?_ ?_ ?_
    rotate_left
    ·intro w'
     go_simp
     with_reducible rfl
    rotate_left
    ·simp only [SX]
     rfl
    refine tk 31 79 ?_ (ms 36 4294967295) rfl rfl HT_ HW_ (by kernel_rfl) (fun _ _ _ h => h) (by rfl) ?_ hHeld ?_ ?_ ?_
    rotate_left
    ·rintro w' ⟨s0, s1, s2, s3, s4, s5, s6, s7, s8, s9⟩
     go_simp
     with_reducible rfl
    rotate_left
    ·simp only [SX]
     rfl
    refine pu 32 80 ?_ (ms 36 8589934591) rfl rfl HT_ (by kernel_rfl) (fun _ _ _ h => h) (by rfl) ?_ ?_ ?_ ?_
    rotate_left
    ·intro w'
     go_simp
     with_reducible rfl
    rotate_left
    ·simp only [SX]
     rfl
    refine tk 33 81 ?_ (ms 36 17179869183) rfl rfl HT_ HW_ (by kernel_rfl) (fun _ _ _ h => h) (by rfl) ?_ hHeld ?_ ?_ ?_
    rotate_left
    ·rintro w' ⟨s0, s1, s2, s3, s4, s5, s6, s7, s8, s9⟩
     go_simp
     with_reducible rfl
    rotate_left
    ·simp only [SX]
     rfl
    refine pu 34 82 ?_ (ms 36 34359738367) rfl rfl HT_ (by kernel_rfl) (fun _ _ _ h => h) (by rfl) ?_ ?_ ?_ ?_
    rotate_left
    ·intro w'
     go_simp
     with_reducible rfl
    rotate_left
    ·simp only [SX]
     rfl
    refine pu 35 83 ?_ (ms 36 68719476735) rfl rfl HT_ (by kernel_rfl) (fun _ _ _ h => h) (by rfl) ?_ ?_ ?_ ?_
    rotate_left
    ·intro w'
     go_simp
     with_reducible rfl
    rotate_left
    ·simp only [SX]
     rfl
    refine done_ (done_of HT_.out (by kernel_rfl)) ?_
    try go_wp2
    replace HO_5 := ak (Kd.R_drew HO_5.out)
    replace HO_6 := ak (Kd.R_drew HO_6.out)
    replace BK674 := ak (blk_drew BK674.out)
    replace BK688 := ak (blk_drew BK688.out)
    replace HB := ak (below_drew1 HB.out)
    have p694 : 0 ≤ (((rd_T58 l0_1 x9_3).f1) : Int) := oT (by first | (with_reducible assumption) | assumption)
    have q694 : ((rd_T58 l0_1 x9_3).f1) < (x6_3.length : Int) := oT (by first | (with_reducible assumption) | assumption)
    obtain ⟨ad694, e694, hx694_0⟩ := Kd.at_int (Kd.R_reads' HO_6.out).2.2 ((rd_T58 l0_1 x9_3).f1) p694 q694
    obtain rfl : (⟨go24, 0, none⟩ : Addr) = ad694 := (by injection e694)
    (first | simp only [add_plain] at hx694_0 | simp only [add_at] at hx694_0 | simp only [Addr.add, Nat.zero_add] at hx694_0 | skip)
    replace p694 := eq_true p694
    replace q694 := eq_true q694
    have p41 : 0 ≤ (((rd_T58 l0_1 x9_3).f0) : Int) := oT (by first | (with_reducible assumption) | assumption)
    have q41 : (((rd_T58 l0_1 x9_3).f0) : Int) < ((x6_3.length : Int) : Int) := oT (by first | (with_reducible assumption) | assumption)
    obtain ⟨hx41_0, hf41_0⟩ := Kd.R_celln 0 HO_6.out (((rd_T58 l0_1 x9_3).f0) : Int) p41 q41
    replace p41 := eq_true p41
    replace q41 := eq_true q41
    have HP50 := Kd.R_putn HO_6.out (((rd_T58 l0_1 x9_3).f0) : Int) (wrap64 ((rd x6_3 ((rd_T58 l0_1 x9_3).f1)) + 1))
    rw [← Ny695.out] at HP50
    have HQ50 := ak HP50
    clear HP50
    refine start_ (n := 11) (S := fun w' => w'.cell? ⟨gb688, 0, none⟩ = some (.int .i64 ((rd_T58 l0_1 x9_3).f0)) ∧ w'.cell? ⟨gb688, 1, none⟩ = some (.int .i64 ((rd_T58 l0_1 x9_3).f1)) ∧ w'.cell? ⟨gb688, 2, none⟩ = some (.int .i64 ((rd_T58 l0_1 x9_3).f2)) ∧ w'.cell? ⟨gb688, 3, none⟩ = some (.int .i64 ((rd_T58 l0_1 x9_3).f3)) ∧ w'.cell? ⟨gb688, 4, none⟩ = some (.int .i64 ((rd_T58 l0_1 x9_3).f4)) ∧ w'.cell? ⟨go24, (((rd_T58 l0_1 x9_3).f1)).toNat, none⟩ = some (.int .i64 (rd x6_3 ((rd_T58 l0_1 x9_3).f1)))) (ds := [10]) (ms 11 0) (by kernel_rfl) rfl (by kernel_rfl) ⟨(blk_cell BK688.out 0).trans rfl, (blk_cell BK688.out 1).trans rfl, (blk_cell BK688.out 2).trans rfl, (blk_cell BK688.out 3).trans rfl, (blk_cell BK688.out 4).trans rfl, hx694_0⟩ (fun hHeld => ?_); refine with_tabW spec_l3Steps.tab16 spec_l3Steps.bits16 (fun HT_ HW_ => ?_)
    generalize w47.drew = w49 at HO_5 HO_6 BK674 BK688 HB HQ50 hf41_0 hx41_0 hx694_0 hHeld ⊢
    refine pu 0 84 ?_ (ms 11 1) rfl rfl HT_ (by kernel_rfl) (fun _ _ _ h => h) (by rfl) ?_ ?_ ?_ ?_
    rotate_left
    ·intro w'
     go_simp
     with_reducible rfl
    rotate_left
    ·simp only [SX]
     rfl
    refine pu 1 85 ?_ (ms 11 3) rfl rfl HT_ (by kernel_rfl) (fun _ _ _ h => h) (by rfl) ?_ ?_ ?_ ?_
    rotate_left
    ·intro w'
     go_simp
     with_reducible rfl
    rotate_left
    ·simp only [SX]
     rfl
    refine pu 3 87 ?_ (ms 11 11) rfl rfl HT_ (by kernel_rfl) (fun _ _ _ h => h) (by rfl) ?_ ?_ ?_ ?_
    rotate_left
    ·intro w'
     go_simp
     with_reducible rfl
    rotate_left
    ·simp only [SX]
     rfl
    refine pu 4 88 ?_ (ms 11 27) rfl rfl HT_ (by kernel_rfl) (fun _ _ _ h => h) (by rfl) ?_ ?_ ?_ ?_
    rotate_left
    ·intro w'
     go_simp
     with_reducible rfl
    rotate_left
    ·simp only [SX]
     rfl
    refine tk 2 86 ?_ (ms 11 31) rfl rfl HT_ HW_ (by kernel_rfl) (fun _ _ _ h => h) (by rfl) ?_ hHeld ?_ ?_ ?_
    rotate_left
    ·rintro w' ⟨s0, s1, s2, s3, s4, s5⟩
     go_simp
     with_reducible rfl
    rotate_left
    ·simp only [SX]
     rfl
    refine tk 5 89 ?_ (ms 11 63) rfl rfl HT_ HW_ (by kernel_rfl) (fun _ _ _ h => h) (by rfl) ?_ hHeld ?_ ?_ ?_
    rotate_left
    ·rintro w' ⟨s0, s1, s2, s3, s4, s5⟩
     go_simp
     with_reducible rfl
    rotate_left
    ·simp only [SX]
     rfl
    refine pu 6 90 ?_ (ms 11 127) rfl rfl HT_ (by kernel_rfl) (fun _ _ _ h => h) (by rfl) ?_ ?_ ?_ ?_
    rotate_left
    ·intro w'
     go_simp
     with_reducible rfl
    rotate_left
    ·simp only [SX]
     rfl
    refine tk 7 91 ?_ (ms 11 255) rfl rfl HT_ HW_ (by kernel_rfl) (fun _ _ _ h => h) (by rfl) ?_ hHeld ?_ ?_ ?_
    rotate_left
    ·rintro w' ⟨s0, s1, s2, s3, s4, s5⟩
     go_simp
     with_reducible rfl
    rotate_left
    ·simp only [SX]
     rfl
    refine pu 8 92 ?_ (ms 11 511) rfl rfl HT_ (by kernel_rfl) (fun _ _ _ h => h) (by rfl) ?_ ?_ ?_ ?_
    rotate_left
    ·intro w'
     go_simp
     with_reducible rfl
    rotate_left
    ·simp only [SX]
     rfl
    refine pu 9 93 ?_ (ms 11 1023) rfl rfl HT_ (by kernel_rfl) (fun _ _ _ h => h) (by rfl) ?_ ?_ ?_ ?_
    rotate_left
    ·intro w'
     go_simp
     with_reducible rfl
    rotate_left
    ·simp only [SX]
     rfl
    refine last_ (i := 10) (N := none) (ms 11 2047) rfl rfl (one_of HT_.out (by kernel_rfl)) (by decide) (fun K hK => ?_)
    refine skip_ (w1 := ?_) (by rfl) rfl ?_ ?_
    rotate_left
    ·go_simp
     rfl
    refine hK.out _ _ ?_
    clear hK K
    refine done_ (done_of HT_.out (by kernel_rfl)) ?_
    try go_wp2
    (try simp only [← hl6_3])
    go_roundg k3
    case measure => have := HK1.out; have := HK2.out; have := HK3.out; omega
    case rel => exact ⟨(y695), (wrap64 (x9_3 + 1)), (by first | rfl | (simp; done) | (simp [*]; done)), H', ⟨by have := HK1.out; have := HK2.out; have := HK3.out; omega⟩, ⟨by (try simp only [hl6_2]); (try simp only [hl6_3]); (with_reducible repeat (first | apply Kd.R_alloc | apply Kd.R_drewN | apply Kd.R_drew)); exact Kd.R_mono (Kd.R_far (p := ⟨go24, (((rd_T58 l0_1 x9_3).f0) : Int).toNat, none⟩) (Kd.R_mono HO_5.out (fun k_ hk => (⟨hk, fun e_ => hk (by rw [e_]; rfl)⟩ : _ ∧ k_ ≠ go24))) (fun _ hk => hk.2) (.int .i64 (wrap64 ((rd x6_3 ((rd_T58 l0_1 x9_3).f1)) + 1)))) (fun _ hk => hk.1)⟩, ⟨by (try simp only [hl6_2]); (try simp only [hl6_3]); (with_reducible repeat (first | apply Kd.R_alloc | apply Kd.R_drewN | apply Kd.R_drew)); exact HQ50.out⟩, ⟨by (try simp only [hl6_2]); (try simp only [hl6_3]); (with_reducible repeat (first | refine blk_drewN ?_ _ | refine blk_drew ?_ | refine blk_alloc ?_ _)); refine blk_far ?_ (by have h_ := Kd.R_ne HO_6.out BK674.out (by decide); intro e_; exact h_ (by rw [e_]; rfl)) _; (with_reducible repeat (first | refine blk_drewN ?_ _ | refine blk_drew ?_ | refine blk_alloc ?_ _)); exact BK674.out⟩, ⟨by repeat (first | (with_reducible first | exact HB.out | apply below_alloc | apply pw_below_drewN | apply below_drew1 | refine below_set ?_ GB24.out | refine below_set ?_ GE674.out | refine below_set ?_ GE688.out) | exact HB.out)⟩⟩

end Go.Proofs.Ytlgolgfcolnddaa.F
