-- Printed by wip/px/px.py of this claim's repository (the kit's printer, extended there). Lean checks it.
import Derived.Test.YtjnbhieppghidaaFKinds
namespace Go.Proofs.Ytjnbhieppghidaa.F
open Go.RowKit Go.Proofs.YtjnbhieppghidaaW.PrintWords Go.Proofs.YtjnbhieppghidaaW.PrintLast Go.Proofs.YtjnbhieppghidaaW.PrintMore
attribute [local go_sem] max2_int min2_int max_two min_two max_three min_three max_four min_four   -- for this text's walks alone
set_option linter.unusedVariables false
set_option linter.unusedSimpArgs false

/-! ### impl_Net_along: function 21 -/
def impl_Net_along.l0 : Nat → List Int → List Int → Int → Int → Int → List (S60) → Option (List Int)
 | 0, _, _, _, _, _, _ => none
 | k + 1, x5, x23, x24, x25, x334000, x334001 => if x25 < x24 then (if 0 ≤ x25 then (if x25 < (x23.length : Int) then (if 0 ≤ (rd x23 x25) then (if (rd x23 x25) < (x334001.length : Int) then (if x5.length < 17592186044416 then (impl_Net_along.l0 k (x5 ++ [(rd_T60 x334001 (rd x23 x25)).f1]) x23 x24 (wrap64 (x25 + 1)) x334000 x334001) else (none)) else (none)) else (none)) else (none)) else (none)) else (some x5)
def impl_Net_along.f (k : Nat) (a0_0 : Int) (l0_1 : List (S60)) (l1 : List Int) : Option (List Int) := if 0 ≤ (wrap64 ((l1.length : Int) + 1)) then (if (wrap64 ((l1.length : Int) + 1) : Int).toNat ≤ 35184372088832 then ((some (([] : List Int) : List Int)).bind fun y334 => (if 0 < (l1.length : Int) then (if 0 ≤ (rd l1 0) then (if (rd l1 0) < (l0_1.length : Int) then (if y334.length < 17592186044416 then (impl_Net_along.l0 k (y334 ++ [(rd_T60 l0_1 (rd l1 0)).f0]) l1 (l1.length : Int) 0 a0_0 l0_1) else (none)) else (none)) else (none)) else (none))) else (none)) else (none)
theorem impl_Net_along.mono_l : ∀ k, (∀ y0 y1 y2 y3 y4 y5, LeO (impl_Net_along.l0 k y0 y1 y2 y3 y4 y5) (impl_Net_along.l0 (k + 1) y0 y1 y2 y3 y4 y5))
 | 0 => fun _ _ _ _ _ _ r h => by simp [impl_Net_along.l0] at h
 | k + 1 => by
  have ih0 := impl_Net_along.mono_l k
  ·intro y0 y1 y2 y3 y4 y5
   unfold impl_Net_along.l0
   repeat' first | (with_reducible exact ih0 _ _ _ _ _ _) | (with_reducible exact LeO.refl _) | (with_reducible refine LeO.ite ?_ ?_)
theorem impl_Net_along.mono : ∀ a0 a1 a2 k, LeO (impl_Net_along.f k a0 a1 a2) (impl_Net_along.f (k + 1) a0 a1 a2) := by
 intro a0 a1 a2 k
 have ih0 := impl_Net_along.mono_l k
 unfold impl_Net_along.f
 repeat' first | (with_reducible exact ih0 _ _ _ _ _ _) | (with_reducible exact LeO.refl _) | (with_reducible refine LeO.ite ?_ ?_) | (with_reducible refine LeO.bind ?_ (fun _ => ?_))
def impl_Net_along.T2 : Bool × List (List Nat × List Nat) := (true, [([], []), ([], []), ([1], [1]), ([], []), ([3], [3]), ([4], [4]), ([2, 5], [2, 5]), ([6], [6]), ([7], [7]), ([8], [8]), ([0, 9], [0, 9]), ([10, 10, 0, 1, 2, 3, 4, 5, 6, 7, 8, 9, 10], [0, 10])])
def impl_Net_along.B2 : List Nat := [0, 0, 2, 0, 8, 24, 62, 126, 254, 510, 1023, 2047]
theorem impl_Net_along.tab2 : rtab .any (opsOf Try.f21 2) = impl_Net_along.T2 := by kernel_rfl
theorem impl_Net_along.bits2 : waitsOk impl_Net_along.T2.2 impl_Net_along.B2 = true := by kernel_rfl
set_option maxHeartbeats 8000000 in
set_option maxRecDepth 100000 in
theorem impl_Net_along.calls (k : Nat) (a0_0 : Int) (A0_1 : Option Addr) (c0_1 : Nat) (l0_1 : List (S60)) (A1 : Option Addr) (c1 : Nat) (l1 : List Int) (r : List Int) (w : World) (hr0_1 : Kd.C k60 w A0_1 l0_1.length l0_1) (hc0_1 : l0_1.length ≤ c0_1) (hr1 : Kd.C (Kd.int .i64) w A1 l1.length l1) (hc1 : l1.length ≤ c1) (h : impl_Net_along.f k a0_0 l0_1 l1 = some r) :
  Calls Try.prog 21 #[.agg #[.int .i64 a0_0, .slice A0_1 l0_1.length c0_1], .slice A1 l1.length c1] w fun e w' => ∃ v0_ : Value, e = .returned (v0_) ∧ Kd.R (Kd.int .i64) 3 w' w.heap.size (fun _ => True) v0_ r ∧ Below w.heap.size w w' := by
 have hu25 := Try.underlying25
 have HR0_1 := ak hr0_1
 have HC0_1 := ak hc0_1
 clear hr0_1 hc0_1
 have HR1 := ak hr1
 have HC1 := ak hc1
 clear hr1 hc1
 have HB := ak (Below.refl w.heap.size w)
 have H : (if 0 ≤ (wrap64 ((l1.length : Int) + 1)) then (if (wrap64 ((l1.length : Int) + 1) : Int).toNat ≤ 35184372088832 then ((some (([] : List Int) : List Int)).bind fun y334 => (if 0 < (l1.length : Int) then (if 0 ≤ (rd l1 0) then (if (rd l1 0) < (l0_1.length : Int) then (if y334.length < 17592186044416 then (impl_Net_along.l0 k (y334 ++ [(rd_T60 l0_1 (rd l1 0)).f0]) l1 (l1.length : Int) 0 a0_0 l0_1) else (none)) else (none)) else (none)) else (none))) else (none)) else (none)) = some r := h
 clear h
 obtain ⟨ji3, hji3⟩ : ∃ j_ : Int, (wrap64 ((l1.length : Int) + 1)) = j_ := ⟨_, rfl⟩
 replace H : (if 0 ≤ (ji3) then (if (ji3 : Int).toNat ≤ 35184372088832 then ((some (([] : List Int) : List Int)).bind fun y334 => (if 0 < (l1.length : Int) then (if 0 ≤ (rd l1 0) then (if (rd l1 0) < (l0_1.length : Int) then (if y334.length < 17592186044416 then (impl_Net_along.l0 k (y334 ++ [(rd_T60 l0_1 (rd l1 0)).f0]) l1 (l1.length : Int) 0 a0_0 l0_1) else (none)) else (none)) else (none)) else (none))) else (none)) else (none)) = some r := by (rw [hji3] at H; exact H)
 have hji3w : (IntKind.i64.wrap ((l1.length : Int) + 1)) = ji3 := (i64_w _).trans hji3
 by_cases c4 : 0 ≤ (ji3)
 rotate_left
 ·rw [if_neg c4] at H
  exact absurd H (by simp)
 rw [if_pos c4] at H
 have c4b0 := eq_true c4
 have c4b1 : decide (0 ≤ (ji3)) = true := decide_eq_true c4
 clear c4
 by_cases c5 : (ji3 : Int).toNat ≤ 35184372088832
 rotate_left
 ·rw [if_neg c5] at H
  exact absurd H (by simp)
 rw [if_pos c5] at H
 have c5b0 := eq_true c5
 have c5b1 : decide ((ji3 : Int).toNat ≤ 35184372088832) = true := decide_eq_true c5
 clear c5
 obtain ⟨y334, hy334⟩ : ∃ y_ : List Int, y_ = (([] : List Int)) := ⟨_, rfl⟩
 replace H : (if 0 < (l1.length : Int) then (if 0 ≤ (rd l1 0) then (if (rd l1 0) < (l0_1.length : Int) then (if y334.length < 17592186044416 then (impl_Net_along.l0 k (y334 ++ [(rd_T60 l0_1 (rd l1 0)).f0]) l1 (l1.length : Int) 0 a0_0 l0_1) else (none)) else (none)) else (none)) else (none)) = some r := by (have H2_ := (Option.bind_some _ _).symm.trans H; rw [hy334]; with_reducible exact H2_)
 have Ny334 := ak hy334
 clear hy334
 by_cases c6 : 0 < (l1.length : Int)
 rotate_left
 ·rw [if_neg c6] at H
  exact absurd H (by simp)
 rw [if_pos c6] at H
 have c6b0 : decide (0 < (l1.length : Int)) = true := decide_eq_true c6
 have c6b1 : decide (0 < l1.length) = true := decide_eq_true (by omega)
 clear c6
 by_cases c7 : 0 ≤ (rd l1 0)
 rotate_left
 ·rw [if_neg c7] at H
  exact absurd H (by simp)
 rw [if_pos c7] at H
 have c7b0 : decide (0 ≤ (rd l1 0)) = true := decide_eq_true c7
 clear c7
 by_cases c8 : (rd l1 0) < (l0_1.length : Int)
 rotate_left
 ·rw [if_neg c8] at H
  exact absurd H (by simp)
 rw [if_pos c8] at H
 have c8b0 : decide ((rd l1 0) < (l0_1.length : Int)) = true := decide_eq_true c8
 clear c8
 by_cases c9 : y334.length < 17592186044416
 rotate_left
 ·rw [if_neg c9] at H
  exact absurd H (by simp)
 rw [if_pos c9] at H
 have LMc9 := ak c9
 clear c9
 obtain ⟨y339, hy339⟩ : ∃ y_ : List Int, y_ = (y334 ++ [(rd_T60 l0_1 (rd l1 0)).f0]) := ⟨_, rfl⟩
 replace H : (impl_Net_along.l0 k y339 l1 (l1.length : Int) 0 a0_0 l0_1) = some r := by (rw [hy339]; with_reducible exact H)
 have Ny339 := ak hy339
 clear hy339
 have H' := ak H
 clear H
 go_enter Try.func21, Try.ntmps21
 try go_wp2_with (first | ((with_reducible refine gate_dst (N := 2) rfl ?_); refine box_event ?hg (N := 2) ?hd (cs := #[.int .i64 a0_0, .slice A0_1 l0_1.length c0_1]) (t := 25) ?hr ?_; (case hd => rfl); (case hg => rfl); (case hr => (go_simp; done)); intro gb333 hg w10 hbox hb; have BK333 := ak (hbox); have GW333 := ak ((by rw [hg]; exact (below_size (bl HB)) : w.heap.size ≤ gb333)); have GE333 := ak ((by rw [hg]; exact (below_size (bl HB)) : w.heap.size ≤ gb333)); replace HB := ak (below_step (bl HB) hb); clear hb hbox hg) | ((with_reducible refine gate_dst (N := 11) rfl ?_); refine Kd.R_make0 (Kd.int .i64) _ 3 rfl (N := 11) rfl 28 _ _ rfl ji3 rfl rfl Try.underlying28 (.int .i64 0) 8 info3 (by decide) (ok := fun _ => True) trivial (oT (by (with_reducible assumption))) (Nat.le_trans (Nat.mul_le_mul_right _ (oT (by (with_reducible assumption)) : ji3.toNat ≤ 35184372088832)) (by omega)) (Below.refl _ _) (Nat.le_refl _) ?_; intro v335 w11 ho12 hb hg_ hnew_; clear hg_ hnew_; (rw [← Ny334.out] at ho12); have HO336 := ak (Kd.R_lower ho12 (below_size (bl1 HB GE333))); replace BK333 := ak (blk_below (bk BK333) hb); replace HB := ak (below_step (bl1 HB GE333) hb); clear hb ho12))
 replace HO336 := ak (Kd.R_drew HO336.out)
 replace BK333 := ak (blk_drew BK333.out)
 replace HB := ak (below_drew1 HB.out)
 have p337 : 0 ≤ (0 : Int) := (by omega)
 have q337 : 0 < (l1.length : Int) := oT (by (with_reducible assumption))
 obtain ⟨ad337, e337, hx337_0⟩ := Kd.at_int HR1.out 0 p337 q337
 have hw337_0 := hx337_0
 (try rw [show ((0 : Int)).toNat = 0 from rfl] at hw337_0)
 (try rw [show 0 * 1 = 0 from rfl] at hw337_0)
 (try rw [Addr.add_zero'] at hw337_0)
 cases e337
 have qi337 : (0 < l1.length) = True := eq_true (by omega)
 (try rw [show ((0 : Int)).toNat = 0 from rfl] at hx337_0)
 (try rw [Addr.add_zero'] at hx337_0)
 replace hx337_0 := hcb HB.out hx337_0
 replace p337 := eq_true p337
 replace q337 := eq_true q337
 have p338 : 0 ≤ ((rd l1 0) : Int) := oT (by (with_reducible assumption))
 have q338 : (rd l1 0) < (l0_1.length : Int) := oT (by (with_reducible assumption))
 obtain ⟨ad338, e338, hx338_0, hx338_1, hx338_2, hx338_3, hx338_4⟩ := at_T60 HR0_1.out (rd l1 0) p338 q338
 have hw338_4 := hx338_4
 have hw338_3 := hx338_3
 have hw338_2 := hx338_2
 have hw338_1 := hx338_1
 have hw338_0 := hx338_0
 cases e338
 replace hx338_0 := hcb HB.out hx338_0
 replace hx338_1 := hcb HB.out hx338_1
 replace hx338_2 := hcb HB.out hx338_2
 replace hx338_3 := hcb HB.out hx338_3
 replace hx338_4 := hcb HB.out hx338_4
 replace p338 := eq_true p338
 replace q338 := eq_true q338
 refine start_ (n := 12) (S := fun w' => w'.cell? ⟨gb333, 0, none⟩ = some (.int .i64 a0_0) ∧ w'.cell? ⟨gb333, 1, none⟩ = some (.slice (some ad338) l0_1.length c0_1) ∧ w'.cell? ad337 = some (.int .i64 (rd l1 0)) ∧ w'.cell? (ad338.add (((rd l1 0)).toNat * 5)) = some (.int .i64 ((rd_T60 l0_1 (rd l1 0)).f0)) ∧ w'.cell? ⟨(ad338.add (((rd l1 0)).toNat * 5)).block, (ad338.add (((rd l1 0)).toNat * 5)).off + 1, none⟩ = some (.int .i64 ((rd_T60 l0_1 (rd l1 0)).f1)) ∧ w'.cell? ⟨(ad338.add (((rd l1 0)).toNat * 5)).block, (ad338.add (((rd l1 0)).toNat * 5)).off + 2, none⟩ = some (.int .i64 ((rd_T60 l0_1 (rd l1 0)).f2)) ∧ w'.cell? ⟨(ad338.add (((rd l1 0)).toNat * 5)).block, (ad338.add (((rd l1 0)).toNat * 5)).off + 3, none⟩ = some (.int .i64 ((rd_T60 l0_1 (rd l1 0)).f3)) ∧ w'.cell? ⟨(ad338.add (((rd l1 0)).toNat * 5)).block, (ad338.add (((rd l1 0)).toNat * 5)).off + 4, none⟩ = some (.int .i64 ((rd_T60 l0_1 (rd l1 0)).f4))) (ds := []) (ms 12 0) (by kernel_rfl) rfl (by kernel_rfl) ⟨(blk_cell BK333.out 0).trans rfl, (blk_cell BK333.out 1).trans rfl, ((HB.out.cell (World.block_lt_of_cell? w _ hw337_0)).trans hw337_0), ((HB.out.cell (World.block_lt_of_cell? w _ hw338_0)).trans hw338_0), ((HB.out.cell (World.block_lt_of_cell? w _ hw338_1)).trans hw338_1), ((HB.out.cell (World.block_lt_of_cell? w _ hw338_2)).trans hw338_2), ((HB.out.cell (World.block_lt_of_cell? w _ hw338_3)).trans hw338_3), ((HB.out.cell (World.block_lt_of_cell? w _ hw338_4)).trans hw338_4)⟩ (fun hHeld => ?_); refine with_tabW impl_Net_along.tab2 impl_Net_along.bits2 (fun HT_ HW_ => ?_)
 generalize w11.drew = w13 at HO336 BK333 HB hx337_0 hx338_0 hx338_1 hx338_2 hx338_3 hx338_4 hHeld ⊢
 refine pu 0 12 ?_ (ms 12 1) rfl rfl HT_ (by kernel_rfl) (fun _ _ _ h => h) (by rfl) ?_ ?_ ?_ ?_
 rotate_left
 ·intro w'
  go_simp
  with_reducible rfl
 rotate_left
 ·simp only [SX]
  rfl
 refine pu 1 13 ?_ (ms 12 3) rfl rfl HT_ (by kernel_rfl) (fun _ _ _ h => h) (by rfl) ?_ ?_ ?_ ?_
 rotate_left
 ·intro w'
  go_simp
  with_reducible rfl
 rotate_left
 ·simp only [SX]
  rfl
 refine pu 3 15 ?_ (ms 12 11) rfl rfl HT_ (by kernel_rfl) (fun _ _ _ h => h) (by rfl) ?_ ?_ ?_ ?_
 rotate_left
 ·intro w'
  go_simp
  with_reducible rfl
 rotate_left
 ·simp only [SX]
  rfl
 refine pu 4 16 ?_ (ms 12 27) rfl rfl HT_ (by kernel_rfl) (fun _ _ _ h => h) (by rfl) ?_ ?_ ?_ ?_
 rotate_left
 ·intro w'
  go_simp
  with_reducible rfl
 rotate_left
 ·simp only [SX]
  rfl
 refine tk 2 14 ?_ (ms 12 31) rfl rfl HT_ HW_ (by kernel_rfl) (fun _ _ _ h => h) (by rfl) ?_ hHeld ?_ ?_ ?_
 rotate_left
 ·rintro w' ⟨s0, s1, s2, s3, s4, s5, s6, s7⟩
  go_simp
  with_reducible rfl
 rotate_left
 ·simp only [SX]
  rfl
 refine tk 5 17 ?_ (ms 12 63) rfl rfl HT_ HW_ (by kernel_rfl) (fun _ _ _ h => h) (by rfl) ?_ hHeld ?_ ?_ ?_
 rotate_left
 ·rintro w' ⟨s0, s1, s2, s3, s4, s5, s6, s7⟩
  go_simp
  with_reducible rfl
 rotate_left
 ·simp only [SX]
  rfl
 refine pu 6 18 ?_ (ms 12 127) rfl rfl HT_ (by kernel_rfl) (fun _ _ _ h => h) (by rfl) ?_ ?_ ?_ ?_
 rotate_left
 ·intro w'
  go_simp
  with_reducible rfl
 rotate_left
 ·simp only [SX]
  rfl
 refine pu 7 19 ?_ (ms 12 255) rfl rfl HT_ (by kernel_rfl) (fun _ _ _ h => h) (by rfl) ?_ ?_ ?_ ?_
 rotate_left
 ·intro w'
  go_simp
  with_reducible rfl
 rotate_left
 ·simp only [SX]
  rfl
 refine tk 8 20 ?_ (ms 12 511) rfl rfl HT_ HW_ (by kernel_rfl) (fun _ _ _ h => h) (by rfl) ?_ hHeld ?_ ?_ ?_
 rotate_left
 ·rintro w' ⟨s0, s1, s2, s3, s4, s5, s6, s7⟩
  go_simp
  with_reducible rfl
 rotate_left
 ·simp only [SX]
  rfl
 refine one_ (i := 9) (N := some 21) (ms 12 1023) rfl rfl (one_of HT_.out (by kernel_rfl)) (by decide) (fun K hK => ?_)
 refine value_ (w1 := ?_) (v := ?_) (by rfl) rfl ?_ ?_
 rotate_left 2
 ·go_simp
  constructor
  rotate_left
  ·rfl
  rfl
 refine hK.out _ _ ⟨(blk_cell (blk_alloc BK333.out _) 0).trans rfl, (blk_cell (blk_alloc BK333.out _) 1).trans rfl, (World.cell?_alloc_lt _ _ _ (World.block_lt_of_cell? _ _ (((HB.out.cell (World.block_lt_of_cell? w _ hw337_0)).trans hw337_0)))).trans (((HB.out.cell (World.block_lt_of_cell? w _ hw337_0)).trans hw337_0)), (World.cell?_alloc_lt _ _ _ (World.block_lt_of_cell? _ _ (((HB.out.cell (World.block_lt_of_cell? w _ hw338_0)).trans hw338_0)))).trans (((HB.out.cell (World.block_lt_of_cell? w _ hw338_0)).trans hw338_0)), (World.cell?_alloc_lt _ _ _ (World.block_lt_of_cell? _ _ (((HB.out.cell (World.block_lt_of_cell? w _ hw338_1)).trans hw338_1)))).trans (((HB.out.cell (World.block_lt_of_cell? w _ hw338_1)).trans hw338_1)), (World.cell?_alloc_lt _ _ _ (World.block_lt_of_cell? _ _ (((HB.out.cell (World.block_lt_of_cell? w _ hw338_2)).trans hw338_2)))).trans (((HB.out.cell (World.block_lt_of_cell? w _ hw338_2)).trans hw338_2)), (World.cell?_alloc_lt _ _ _ (World.block_lt_of_cell? _ _ (((HB.out.cell (World.block_lt_of_cell? w _ hw338_3)).trans hw338_3)))).trans (((HB.out.cell (World.block_lt_of_cell? w _ hw338_3)).trans hw338_3)), (World.cell?_alloc_lt _ _ _ (World.block_lt_of_cell? _ _ (((HB.out.cell (World.block_lt_of_cell? w _ hw338_4)).trans hw338_4)))).trans (((HB.out.cell (World.block_lt_of_cell? w _ hw338_4)).trans hw338_4))⟩ (fun hHeld => ?_)
 clear hK K
 refine norm_ (a' := ?_) ?_ ?_
 rotate_left
 ·show Act.put _ (some 21) _ = _
  simp only [SX]
  rfl
 refine one_ (i := 10) (N := some 22) (ms 12 2047) rfl rfl (one_of HT_.out (by kernel_rfl)) (by decide) (fun K hK => ?_)
 refine Kd.R_append_step (Kd.int .i64) (w0 := w) w.heap.size (by rfl) (.tmp 12) (.tmp 21) 28 3 (.int .i64 0) 8 rfl Try.underlying28 info3 rfl (by decide) (by omega) v335 y334 ((rd_T60 l0_1 (rd l1 0)).f0) [.int .i64 ((rd_T60 l0_1 (rd l1 0)).f0)] (fun _ => True) (fun _ => False) rfl rfl ?aP (fun _ hk => hk.elim) ?aF ?aO ?aB ?aS ?aL ?_
 (case aP => exact rfl)
 (case aB => exact (bl1 HB GE333))
 (case aF => exact (fun _ _ => trivial))
 (case aO => exact (rk HO336))
 (case aS => exact (below_size (bl1 HB GE333)))
 (case aL => have := LMc9.out; omega)
 intro v340 w14 ho hb hg hat
 rw [← Ny339.out] at ho
 have n0_ := ak (blk_grown (bk BK333) hg (Kd.R_ne HO336.out BK333.out (by decide)))
 have n1_ := ak (hb)
 have n2_ := ak (ho)
 clear BK333
 clear HB
 clear HO336
 have BK333 := n0_
 have HB := n1_
 have HO341 := n2_
 clear n0_ n1_ n2_
 clear ho hb hg hat
 refine hK.out _ _ ⟨(blk_cell BK333.out 0).trans rfl, (blk_cell BK333.out 1).trans rfl, ((HB.out.cell (World.block_lt_of_cell? w _ hw337_0)).trans hw337_0), ((HB.out.cell (World.block_lt_of_cell? w _ hw338_0)).trans hw338_0), ((HB.out.cell (World.block_lt_of_cell? w _ hw338_1)).trans hw338_1), ((HB.out.cell (World.block_lt_of_cell? w _ hw338_2)).trans hw338_2), ((HB.out.cell (World.block_lt_of_cell? w _ hw338_3)).trans hw338_3), ((HB.out.cell (World.block_lt_of_cell? w _ hw338_4)).trans hw338_4)⟩ (fun hHeld => ?_)
 clear hK K
 refine norm_ (a' := ?_) ?_ ?_
 rotate_left
 ·show Act.put _ (some 22) _ = _
  simp only [SX]
  rfl
 refine pu 11 5 ?_ (ms 12 4095) rfl rfl HT_ (by kernel_rfl) (fun _ _ _ h => h) (by rfl) ?_ ?_ ?_ ?_
 rotate_left
 ·intro w'
  go_simp
  with_reducible rfl
 rotate_left
 ·simp only [SX]
  rfl
 refine done_ (done_of HT_.out (by kernel_rfl)) ?_
 try go_wp2
 go_loopg [5, 25] k (fun kq v5 v25 w' => ∃ (x5_1 : List Int) (x25_1 : Int), v25 = .int .i64 x25_1 ∧ Aside0 (impl_Net_along.l0 kq x5_1 l1 (l1.length : Int) x25_1 a0_0 l0_1 = some r) ∧ Aside0 (kq ≤ k) ∧ Aside0 (Kd.R (Kd.int .i64) 3 w' w.heap.size (fun _ => True) v5 x5_1) ∧ Aside0 (w'.heap[gb333]? = some (.cells #[.int .i64 a0_0, (.slice (some ad338) l0_1.length c0_1)] 25 (0, 0))) ∧ Aside0 (Below w.heap.size w w'))
 case atStart => exact ⟨(y339), (0), (by rfl), H', ⟨Nat.le_refl _⟩, ⟨rk HO341⟩, ⟨bk BK333⟩, ⟨bl1 HB GE333⟩⟩
 clear H'
 try clear c1
 try clear c2
 try clear p2
 try clear p3
 try clear q3
 try clear hx3
 try clear qi3
 try clear c4
 try clear c4b0
 try clear c4b1
 try clear c5
 try clear c5b0
 try clear c5b1
 try clear c6
 try clear c6b0
 try clear c6b1
 try clear p6
 try clear c7
 try clear c7b0
 try clear c8
 try clear c8b0
 try clear c9
 try clear hx337_0
 try clear hx338_0
 try clear hx338_1
 try clear hx338_2
 try clear hx338_3
 try clear hx338_4
 try clear p337
 try clear p338
 try clear q337
 try clear q338
 obtain ⟨x5_1, x25_1, rfl, HA, HK1, HO_5, BK333, HB⟩ := hrel
 cases gk with
 | zero => exact absurd HA.out (by simp [impl_Net_along.l0])
 | succ k1 =>
  have H := HA.out
  clear HA
  simp only [impl_Net_along.l0] at H
  by_cases c15 : x25_1 < (l1.length : Int)
  rotate_left
  ·rw [if_neg c15] at H
   have c15b0 : decide (x25_1 < (l1.length : Int)) = false := decide_eq_false c15
   clear c15
   obtain rfl := Option.some.inj H
   go_wp2
   go_ret
   exact ⟨_, by rfl, rk HO_5, bl1 HB GE333⟩
  rw [if_pos c15] at H
  have c15b0 : decide (x25_1 < (l1.length : Int)) = true := decide_eq_true c15
  clear c15
  by_cases c16 : 0 ≤ x25_1
  rotate_left
  ·rw [if_neg c16] at H
   exact absurd H (by simp)
  rw [if_pos c16] at H
  have c16b0 : decide (0 ≤ x25_1) = true := decide_eq_true c16
  clear c16
  by_cases c17 : x25_1 < (l1.length : Int)
  rotate_left
  ·rw [if_neg c17] at H
   exact absurd H (by simp)
  rw [if_pos c17] at H
  have c17b0 : decide (x25_1 < (l1.length : Int)) = true := decide_eq_true c17
  clear c17
  by_cases c18 : 0 ≤ (rd l1 x25_1)
  rotate_left
  ·rw [if_neg c18] at H
   exact absurd H (by simp)
  rw [if_pos c18] at H
  have c18b0 : decide (0 ≤ (rd l1 x25_1)) = true := decide_eq_true c18
  clear c18
  by_cases c19 : (rd l1 x25_1) < (l0_1.length : Int)
  rotate_left
  ·rw [if_neg c19] at H
   exact absurd H (by simp)
  rw [if_pos c19] at H
  have c19b0 : decide ((rd l1 x25_1) < (l0_1.length : Int)) = true := decide_eq_true c19
  clear c19
  by_cases c20 : x5_1.length < 17592186044416
  rotate_left
  ·rw [if_neg c20] at H
   exact absurd H (by simp)
  rw [if_pos c20] at H
  have LMc20 := ak c20
  clear c20
  obtain ⟨y344, hy344⟩ : ∃ y_ : List Int, y_ = (x5_1 ++ [(rd_T60 l0_1 (rd l1 x25_1)).f1]) := ⟨_, rfl⟩
  replace H : (impl_Net_along.l0 k1 y344 l1 (l1.length : Int) (wrap64 (x25_1 + 1)) a0_0 l0_1) = some r := by (rw [hy344]; with_reducible exact H)
  have Ny344 := ak hy344
  clear hy344
  have H' := ak H
  clear H
  have p342 : 0 ≤ (x25_1 : Int) := oT (by (with_reducible assumption))
  have q342 : x25_1 < (l1.length : Int) := oT (by (with_reducible assumption))
  obtain ⟨ad342, e342, hx342_0⟩ := Kd.at_int HR1.out x25_1 p342 q342
  obtain rfl : ad337 = ad342 := (by injection e342)
  replace hx342_0 := hcb HB.out hx342_0
  replace p342 := eq_true p342
  replace q342 := eq_true q342
  have hcz21_0 := bc wr BK333 0 (.int .i64 a0_0) rfl
  have hcz21_1 := bc wr BK333 1 (.slice (some ad338) l0_1.length c0_1) rfl
  have hfz21_0 := fz BK333 0
  have hfz21_1 := fz BK333 1
  have p343 : 0 ≤ ((rd l1 x25_1) : Int) := oT (by (with_reducible assumption))
  have q343 : (rd l1 x25_1) < (l0_1.length : Int) := oT (by (with_reducible assumption))
  obtain ⟨ad343, e343, hx343_0, hx343_1, hx343_2, hx343_3, hx343_4⟩ := at_T60 HR0_1.out (rd l1 x25_1) p343 q343
  obtain rfl : ad338 = ad343 := (by injection e343)
  replace hx343_0 := hcb HB.out hx343_0
  replace hx343_1 := hcb HB.out hx343_1
  replace hx343_2 := hcb HB.out hx343_2
  replace hx343_3 := hcb HB.out hx343_3
  replace hx343_4 := hcb HB.out hx343_4
  replace p343 := eq_true p343
  replace q343 := eq_true q343
  go_wp2_with (((with_reducible refine gate_builtin (b := .append) (xs := #[.tmp 29, .tmp 36]) rfl ?_); at_builtin; refine Kd.R_append (Kd.int .i64) (w0 := w) w.heap.size rfl (.tmp 29) (.tmp 36) 28 3 (.int .i64 0) 8 rfl Try.underlying28 info3 rfl (by decide) (by omega) u5 x5_1 ((rd_T60 l0_1 (rd l1 x25_1)).f1) [.int .i64 ((rd_T60 l0_1 (rd l1 x25_1)).f1)] (fun _ => True) (fun _ => False) rfl rfl ?aP (fun _ hk => hk.elim) ?aF ?aO ?aB ?aS ?aL ?_; (case aP => exact rfl); (case aB => exact (bl1 HB GE333)); (case aF => exact (fun _ _ => trivial)); (case aO => exact (rk HO_5)); (case aS => exact (below_size (bl1 HB GE333))); (case aL => have := LMc20.out; omega); intro v345 w22 ho hb hg hat; rw [← Ny344.out] at ho; have n0_ := ak (blk_grown (bk BK333) hg (Kd.R_ne HO_5.out BK333.out (by decide))); have n1_ := ak (hb); have n2_ := ak (ho); clear BK333; clear HB; clear HO_5; have BK333 := n0_; have HB := n1_; have HO346 := n2_; clear n0_ n1_ n2_; clear ho hb hg hat))
  go_roundg k1
  case measure => have := HK1.out; omega
  case rel => exact ⟨(y344), (wrap64 (x25_1 + 1)), (by rfl), H', ⟨by have := HK1.out; omega⟩, ⟨rk HO346⟩, ⟨bk BK333⟩, ⟨bl1 HB GE333⟩⟩

end Go.Proofs.Ytjnbhieppghidaa.F
