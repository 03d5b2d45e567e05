-- Printed by wip/px/px.py of this claim's repository (the kit's printer, extended there). Lean checks it.
import Derived.Test.YtlgolgfcolnddaaFKinds
namespace Go.Proofs.Ytlgolgfcolnddaa.F
open Go.RowKit Go.Proofs.YtlgolgfcolnddaaW.PrintWords Go.Proofs.YtlgolgfcolnddaaW.PrintLast Go.Proofs.YtlgolgfcolnddaaW.PrintMore
attribute [local go_sem] max2_int min2_int max_two min_two max_three min_three max_four min_four   -- for this text's walks alone
set_option linter.unusedVariables false
set_option linter.unusedSimpArgs false

/-! ### impl_Net_along: function 66 -/
def impl_Net_along.l0 : Nat → List Int → List Int → Int → Int → Int → List (S58) → Option (List Int)
 | 0, _, _, _, _, _, _ => none
 | k + 1, x5, x23, x24, x25, x367000, x367001 => if x25 < x24 then (if 0 ≤ x25 then (if x25 < (x23.length : Int) then (if 0 ≤ (rd x23 x25) then (if (rd x23 x25) < (x367001.length : Int) then (if x5.length < 17592186044416 then (impl_Net_along.l0 k (x5 ++ [(rd_T58 x367001 (rd x23 x25)).f1]) x23 x24 (wrap64 (x25 + 1)) x367000 x367001) else (none)) else (none)) else (none)) else (none)) else (none)) else (some x5)
def impl_Net_along.f (k : Nat) (a0_0 : Int) (l0_1 : List (S58)) (l1 : List Int) : Option (List Int) := if 0 ≤ (wrap64 ((l1.length : Int) + 1)) then (if (wrap64 ((l1.length : Int) + 1) : Int).toNat ≤ 35184372088832 then ((some (([] : List Int) : List Int)).bind fun y367 => (if 0 < (l1.length : Int) then (if 0 ≤ (rd l1 0) then (if (rd l1 0) < (l0_1.length : Int) then (if y367.length < 17592186044416 then (impl_Net_along.l0 k (y367 ++ [(rd_T58 l0_1 (rd l1 0)).f0]) l1 (l1.length : Int) 0 a0_0 l0_1) else (none)) else (none)) else (none)) else (none))) else (none)) else (none)
theorem impl_Net_along.mono_l : ∀ k, (∀ y0 y1 y2 y3 y4 y5, LeO (impl_Net_along.l0 k y0 y1 y2 y3 y4 y5) (impl_Net_along.l0 (k + 1) y0 y1 y2 y3 y4 y5))
 | 0 => fun _ _ _ _ _ _ r h => by simp [impl_Net_along.l0] at h
 | k + 1 => by
  have ih0 := impl_Net_along.mono_l k
  ·intro y0 y1 y2 y3 y4 y5
   unfold impl_Net_along.l0
   repeat' first
   | (with_reducible exact ih0 _ _ _ _ _ _)
   | (with_reducible exact LeO.refl _)
   | (with_reducible exact LeO.none _)
   | (with_reducible refine LeO.ite ?_ ?_)
   | (with_reducible refine LeO.bind ?_ (fun _ => ?_))
   | exact ih0 _ _ _ _ _ _
   | exact LeO.none _
   | refine LeO.ite ?_ ?_
   | refine LeO.bind ?_ (fun _ => ?_)
theorem impl_Net_along.mono : ∀ a0 a1 a2 k, LeO (impl_Net_along.f k a0 a1 a2) (impl_Net_along.f (k + 1) a0 a1 a2) := by
 intro a0 a1 a2 k
 have ih0 := impl_Net_along.mono_l k
 unfold impl_Net_along.f
 repeat' first
   | (with_reducible exact ih0 _ _ _ _ _ _)
   | (with_reducible exact LeO.refl _)
   | (with_reducible exact LeO.none _)
   | (with_reducible refine LeO.ite ?_ ?_)
   | (with_reducible refine LeO.bind ?_ (fun _ => ?_))
   | exact ih0 _ _ _ _ _ _
   | exact LeO.none _
   | refine LeO.ite ?_ ?_
   | refine LeO.bind ?_ (fun _ => ?_)
def impl_Net_along.T2 : Bool × List (List Nat × List Nat) := (true, [([], []), ([], []), ([1], [1]), ([], []), ([3], [3]), ([4], [4]), ([2, 5], [2, 5]), ([6], [6]), ([7], [7]), ([8], [8]), ([0, 9], [0, 9]), ([10, 10, 0, 1, 2, 3, 4, 5, 6, 7, 8, 9, 10], [0, 10])])
def impl_Net_along.B2 : List Nat := [0, 0, 2, 0, 8, 24, 62, 126, 254, 510, 1023, 2047]
theorem impl_Net_along.tab2 : rtab .any (opsOf Try.f66 2) = impl_Net_along.T2 := by kernel_rfl
theorem impl_Net_along.bits2 : waitsOk impl_Net_along.T2.2 impl_Net_along.B2 = true := by kernel_rfl
set_option maxHeartbeats 8000000 in
set_option maxRecDepth 100000 in
theorem impl_Net_along.calls (k : Nat) (a0_0 : Int) (A0_1 : Option Addr) (c0_1 : Nat) (l0_1 : List (S58)) (A1 : Option Addr) (c1 : Nat) (l1 : List Int) (r : List Int) (w : World) (hr0_1 : Kd.C k58 w A0_1 l0_1.length l0_1) (hc0_1 : l0_1.length ≤ c0_1) (hr1 : Kd.C (Kd.int .i64) w A1 l1.length l1) (hc1 : l1.length ≤ c1) (h : impl_Net_along.f k a0_0 l0_1 l1 = some r) :
  Calls Try.prog 66 #[.agg #[.int .i64 a0_0, .slice A0_1 l0_1.length c0_1], .slice A1 l1.length c1] w fun e w' => ∃ v0_ : Value, e = .returned (v0_) ∧ Kd.R (Kd.int .i64) 3 w' w.heap.size (fun _ => True) v0_ r ∧ Below w.heap.size w w' := by
 have hu25 := Try.underlying25
 have HR0_1 := ak hr0_1
 have HC0_1 := ak hc0_1
 clear hr0_1 hc0_1
 have HR1 := ak hr1
 have HC1 := ak hc1
 clear hr1 hc1
 have HB := ak (Below.refl w.heap.size w)
 have H : (if 0 ≤ (wrap64 ((l1.length : Int) + 1)) then (if (wrap64 ((l1.length : Int) + 1) : Int).toNat ≤ 35184372088832 then ((some (([] : List Int) : List Int)).bind fun y367 => (if 0 < (l1.length : Int) then (if 0 ≤ (rd l1 0) then (if (rd l1 0) < (l0_1.length : Int) then (if y367.length < 17592186044416 then (impl_Net_along.l0 k (y367 ++ [(rd_T58 l0_1 (rd l1 0)).f0]) l1 (l1.length : Int) 0 a0_0 l0_1) else (none)) else (none)) else (none)) else (none))) else (none)) else (none)) = some r := h
 clear h
 obtain ⟨ji3, hji3⟩ : ∃ j_ : Int, (wrap64 ((l1.length : Int) + 1)) = j_ := ⟨_, rfl⟩
 replace H : (if 0 ≤ (ji3) then (if (ji3 : Int).toNat ≤ 35184372088832 then ((some (([] : List Int) : List Int)).bind fun y367 => (if 0 < (l1.length : Int) then (if 0 ≤ (rd l1 0) then (if (rd l1 0) < (l0_1.length : Int) then (if y367.length < 17592186044416 then (impl_Net_along.l0 k (y367 ++ [(rd_T58 l0_1 (rd l1 0)).f0]) l1 (l1.length : Int) 0 a0_0 l0_1) else (none)) else (none)) else (none)) else (none))) else (none)) else (none)) = some r := by first | (rw [hji3] at H; exact H) | (simp only [hji3] at H ⊢; exact H)
 have hji3w : (IntKind.i64.wrap ((l1.length : Int) + 1)) = ji3 := (i64_w _).trans hji3
 by_cases c4 : 0 ≤ (ji3)
 rotate_left
 ·rw [if_neg c4] at H
  exact absurd H (by simp)
 rw [if_pos c4] at H
 have c4b0 := eq_true c4
 have c4b1 : decide (0 ≤ (ji3)) = true := decide_eq_true c4
 clear c4
 by_cases c5 : (ji3 : Int).toNat ≤ 35184372088832
 rotate_left
 ·rw [if_neg c5] at H
  exact absurd H (by simp)
 rw [if_pos c5] at H
 have c5b0 := eq_true c5
 have c5b1 : decide ((ji3 : Int).toNat ≤ 35184372088832) = true := decide_eq_true c5
 clear c5
 obtain ⟨y367, hy367⟩ : ∃ y_ : List Int, y_ = (([] : List Int)) := ⟨_, rfl⟩
 replace H : (if 0 < (l1.length : Int) then (if 0 ≤ (rd l1 0) then (if (rd l1 0) < (l0_1.length : Int) then (if y367.length < 17592186044416 then (impl_Net_along.l0 k (y367 ++ [(rd_T58 l0_1 (rd l1 0)).f0]) l1 (l1.length : Int) 0 a0_0 l0_1) else (none)) else (none)) else (none)) else (none)) = some r := by first | (rw [hy367]; with_reducible exact H) | (have H2_ := (Option.bind_some _ _).symm.trans H; rw [hy367]; with_reducible exact H2_) | (have H2_ := (Option.bind_some _ _).symm.trans H; with_reducible exact H2_) | with_reducible exact H | (rw [hy367]; exact H) | exact H
 have Ny367 := ak hy367
 clear hy367
 by_cases c6 : 0 < (l1.length : Int)
 rotate_left
 ·rw [if_neg c6] at H
  exact absurd H (by simp)
 rw [if_pos c6] at H
 have c6b0 : decide (0 < (l1.length : Int)) = true := decide_eq_true c6
 have c6b1 : decide (0 < l1.length) = true := decide_eq_true (by omega)
 clear c6
 by_cases c7 : 0 ≤ (rd l1 0)
 rotate_left
 ·rw [if_neg c7] at H
  exact absurd H (by simp)
 rw [if_pos c7] at H
 have c7b0 : decide (0 ≤ (rd l1 0)) = true := decide_eq_true c7
 clear c7
 by_cases c8 : (rd l1 0) < (l0_1.length : Int)
 rotate_left
 ·rw [if_neg c8] at H
  exact absurd H (by simp)
 rw [if_pos c8] at H
 have c8b0 : decide ((rd l1 0) < (l0_1.length : Int)) = true := decide_eq_true c8
 clear c8
 by_cases c9 : y367.length < 17592186044416
 rotate_left
 ·rw [if_neg c9] at H
  exact absurd H (by simp)
 rw [if_pos c9] at H
 have LMc9 := ak c9
 clear c9
 obtain ⟨y372, hy372⟩ : ∃ y_ : List Int, y_ = (y367 ++ [(rd_T58 l0_1 (rd l1 0)).f0]) := ⟨_, rfl⟩
 replace H : (impl_Net_along.l0 k y372 l1 (l1.length : Int) 0 a0_0 l0_1) = some r := by first | (rw [hy372]; with_reducible exact H) | (have H2_ := (Option.bind_some _ _).symm.trans H; rw [hy372]; with_reducible exact H2_) | (have H2_ := (Option.bind_some _ _).symm.trans H; with_reducible exact H2_) | with_reducible exact H | (rw [hy372]; exact H) | exact H
 have Ny372 := ak hy372
 clear hy372
 have H' := ak H
 clear H
 go_enter Try.func66, Try.ntmps66
 try go_wp2_with (first | ((with_reducible refine gate_dst (N := 2) rfl ?_); refine box_event ?hg (N := 2) ?hd (cs := #[.int .i64 a0_0, .slice A0_1 l0_1.length c0_1]) (t := 25) ?hr ?_; (case hd => rfl); (case hg => rfl); (case hr => first | (go_simp; done) | (go_simp; rfl)); intro gb366 hg w10 hbox hb; have BK366 := ak (hbox); have GW366 := ak ((by rw [hg]; exact (below_size (bl HB)) : w.heap.size ≤ gb366)); have GE366 := ak ((by rw [hg]; exact (below_size (bl HB)) : w.heap.size ≤ gb366)); replace HB := ak (below_step (bl HB) hb); clear hb hbox hg) | ((with_reducible refine gate_dst (N := 11) rfl ?_); refine Kd.R_make0 (Kd.int .i64) _ 3 rfl (N := 11) rfl 33 _ _ rfl ji3 rfl rfl Try.underlying33 (.int .i64 0) 8 info3 (by decide) (ok := fun _ => True) trivial (oT (by first | (with_reducible assumption) | assumption)) (Nat.le_trans (Nat.mul_le_mul_right _ (oT (by first | (with_reducible assumption) | assumption) : ji3.toNat ≤ 35184372088832)) (by omega)) (Below.refl _ _) (Nat.le_refl _) ?_; intro v368 w11 ho12 hb hg_ hnew_; clear hg_ hnew_; (first | rw [← Ny367.out] at ho12 | (simp only [Int.reduceToNat] at ho12; rw [← Ny367.out] at ho12)); have HO369 := ak (Kd.R_lower ho12 (below_size (bl1 HB GE366))); replace BK366 := ak (blk_below (bk BK366) hb); replace HB := ak (below_step (bl1 HB GE366) hb); clear hb ho12))
 replace HO369 := ak (Kd.R_drew HO369.out)
 replace BK366 := ak (blk_drew BK366.out)
 replace HB := ak (below_drew1 HB.out)
 have p370 : 0 ≤ (0 : Int) := (by omega)
 have q370 : 0 < (l1.length : Int) := oT (by first | (with_reducible assumption) | assumption)
 obtain ⟨ad370, e370, hx370_0⟩ := Kd.at_int HR1.out 0 p370 q370
 have hw370_0 := hx370_0
 (try rw [show ((0 : Int)).toNat = 0 from rfl] at hw370_0)
 (try rw [show 0 * 1 = 0 from rfl] at hw370_0)
 (try rw [Addr.add_zero'] at hw370_0)
 cases e370
 have qi370 : (0 < l1.length) = True := eq_true (by omega)
 (try rw [show ((0 : Int)).toNat = 0 from rfl] at hx370_0)
 (try rw [Addr.add_zero'] at hx370_0)
 replace hx370_0 := hcb HB.out hx370_0
 replace p370 := eq_true p370
 replace q370 := eq_true q370
 have p371 : 0 ≤ ((rd l1 0) : Int) := oT (by first | (with_reducible assumption) | assumption)
 have q371 : (rd l1 0) < (l0_1.length : Int) := oT (by first | (with_reducible assumption) | assumption)
 obtain ⟨ad371, e371, hx371_0, hx371_1, hx371_2, hx371_3, hx371_4⟩ := at_T58 HR0_1.out (rd l1 0) p371 q371
 have hw371_4 := hx371_4
 have hw371_3 := hx371_3
 have hw371_2 := hx371_2
 have hw371_1 := hx371_1
 have hw371_0 := hx371_0
 cases e371
 replace hx371_0 := hcb HB.out hx371_0
 replace hx371_1 := hcb HB.out hx371_1
 replace hx371_2 := hcb HB.out hx371_2
 replace hx371_3 := hcb HB.out hx371_3
 replace hx371_4 := hcb HB.out hx371_4
 replace p371 := eq_true p371
 replace q371 := eq_true q371
 refine start_ (n := 12) (S := fun w' => w'.cell? ⟨gb366, 0, none⟩ = some (.int .i64 a0_0) ∧ w'.cell? ⟨gb366, 1, none⟩ = some (.slice (some ad371) l0_1.length c0_1) ∧ w'.cell? ad370 = some (.int .i64 (rd l1 0)) ∧ w'.cell? (ad371.add (((rd l1 0)).toNat * 5)) = some (.int .i64 ((rd_T58 l0_1 (rd l1 0)).f0)) ∧ w'.cell? ⟨(ad371.add (((rd l1 0)).toNat * 5)).block, (ad371.add (((rd l1 0)).toNat * 5)).off + 1, none⟩ = some (.int .i64 ((rd_T58 l0_1 (rd l1 0)).f1)) ∧ w'.cell? ⟨(ad371.add (((rd l1 0)).toNat * 5)).block, (ad371.add (((rd l1 0)).toNat * 5)).off + 2, none⟩ = some (.int .i64 ((rd_T58 l0_1 (rd l1 0)).f2)) ∧ w'.cell? ⟨(ad371.add (((rd l1 0)).toNat * 5)).block, (ad371.add (((rd l1 0)).toNat * 5)).off + 3, none⟩ = some (.int .i64 ((rd_T58 l0_1 (rd l1 0)).f3)) ∧ w'.cell? ⟨(ad371.add (((rd l1 0)).toNat * 5)).block, (ad371.add (((rd l1 0)).toNat * 5)).off + 4, none⟩ = some (.int .i64 ((rd_T58 l0_1 (rd l1 0)).f4))) (ds := []) (ms 12 0) (by kernel_rfl) rfl (by kernel_rfl) ⟨(blk_cell BK366.out 0).trans rfl, (blk_cell BK366.out 1).trans rfl, ((HB.out.cell (World.block_lt_of_cell? w _ hw370_0)).trans hw370_0), ((HB.out.cell (World.block_lt_of_cell? w _ hw371_0)).trans hw371_0), ((HB.out.cell (World.block_lt_of_cell? w _ hw371_1)).trans hw371_1), ((HB.out.cell (World.block_lt_of_cell? w _ hw371_2)).trans hw371_2), ((HB.out.cell (World.block_lt_of_cell? w _ hw371_3)).trans hw371_3), ((HB.out.cell (World.block_lt_of_cell? w _ hw371_4)).trans hw371_4)⟩ (fun hHeld => ?_); refine with_tabW impl_Net_along.tab2 impl_Net_along.bits2 (fun HT_ HW_ => ?_)
 generalize w11.drew = w13 at HO369 BK366 HB hx370_0 hx371_0 hx371_1 hx371_2 hx371_3 hx371_4 hHeld ⊢
 refine pu 0 12 ?_ (ms 12 1) rfl rfl HT_ (by kernel_rfl) (fun _ _ _ h => h) (by rfl) ?_ ?_ ?_ ?_
 rotate_left
 ·intro w'
  go_simp
  with_reducible rfl
 rotate_left
 ·simp only [SX]
  rfl
 refine pu 1 13 ?_ (ms 12 3) rfl rfl HT_ (by kernel_rfl) (fun _ _ _ h => h) (by rfl) ?_ ?_ ?_ ?_
 rotate_left
 ·intro w'
  go_simp
  with_reducible rfl
 rotate_left
 ·simp only [SX]
  rfl
 refine pu 3 15 ?_ (ms 12 11) rfl rfl HT_ (by kernel_rfl) (fun _ _ _ h => h) (by rfl) ?_ ?_ ?_ ?_
 rotate_left
 ·intro w'
  go_simp
  with_reducible rfl
 rotate_left
 ·simp only [SX]
  rfl
 refine pu 4 16 ?_ (ms 12 27) rfl rfl HT_ (by kernel_rfl) (fun _ _ _ h => h) (by rfl) ?_ ?_ ?_ ?_
 rotate_left
 ·intro w'
  go_simp
  with_reducible rfl
 rotate_left
 ·simp only [SX]
  rfl
 refine tk 2 14 ?_ (ms 12 31) rfl rfl HT_ HW_ (by kernel_rfl) (fun _ _ _ h => h) (by rfl) ?_ hHeld ?_ ?_ ?_
 rotate_left
 ·rintro w' ⟨s0, s1, s2, s3, s4, s5, s6, s7⟩
  go_simp
  with_reducible rfl
 rotate_left
 ·simp only [SX]
  rfl
 refine tk 5 17 ?_ (ms 12 63) rfl rfl HT_ HW_ (by kernel_rfl) (fun _ _ _ h => h) (by rfl) ?_ hHeld ?_ ?_ ?_
 rotate_left
 ·rintro w' ⟨s0, s1, s2, s3, s4, s5, s6, s7⟩
  go_simp
  with_reducible rfl
 rotate_left
 ·simp only [SX]
  rfl
 refine pu 6 18 ?_ (ms 12 127) rfl rfl HT_ (by kernel_rfl) (fun _ _ _ h => h) (by rfl) ?_ ?_ ?_ ?_
 rotate_left
 ·intro w'
  go_simp
  with_reducible rfl
 rotate_left
 ·simp only [SX]
  rfl
 refine pu 7 19 ?_ (ms 12 255) rfl rfl HT_ (by kernel_rfl) (fun _ _ _ h => h) (by rfl) ?_ ?_ ?_ ?_
 rotate_left
 ·intro w'
  go_simp
  with_reducible rfl
 rotate_left
 ·simp only [SX]
  rfl
 refine tk 8 20 ?_ (ms 12 511) rfl rfl HT_ HW_ (by kernel_rfl) (fun _ _ _ h => h) (by rfl) ?_ hHeld ?_ ?_ ?_
 rotate_left
 ·rintro w' ⟨s0, s1, s2, s3, s4, s5, s6, s7⟩
  go_simp
  with_reducible rfl
 rotate_left
 ·simp only [SX]
  rfl
 refine one_ (i := 9) (N := some 21) (ms 12 1023) rfl rfl (one_of HT_.out (by kernel_rfl)) (by decide) (fun K hK => ?_)
 refine value_ (w1 := ?_) (v := ?_) (by rfl) rfl ?_ ?_
 rotate_left 2
 ·go_simp
  constructor
  rotate_left
  ·rfl
  rfl
 refine hK.out _ _ ⟨(blk_cell (blk_alloc BK366.out _) 0).trans rfl, (blk_cell (blk_alloc BK366.out _) 1).trans rfl, (World.cell?_alloc_lt _ _ _ (World.block_lt_of_cell? _ _ (((HB.out.cell (World.block_lt_of_cell? w _ hw370_0)).trans hw370_0)))).trans (((HB.out.cell (World.block_lt_of_cell? w _ hw370_0)).trans hw370_0)), (World.cell?_alloc_lt _ _ _ (World.block_lt_of_cell? _ _ (((HB.out.cell (World.block_lt_of_cell? w _ hw371_0)).trans hw371_0)))).trans (((HB.out.cell (World.block_lt_of_cell? w _ hw371_0)).trans hw371_0)), (World.cell?_alloc_lt _ _ _ (World.block_lt_of_cell? _ _ (((HB.out.cell (World.block_lt_of_cell? w _ hw371_1)).trans hw371_1)))).trans (((HB.out.cell (World.block_lt_of_cell? w _ hw371_1)).trans hw371_1)), (World.cell?_alloc_lt _ _ _ (World.block_lt_of_cell? _ _ (((HB.out.cell (World.block_lt_of_cell? w _ hw371_2)).trans hw371_2)))).trans (((HB.out.cell (World.block_lt_of_cell? w _ hw371_2)).trans hw371_2)), (World.cell?_alloc_lt _ _ _ (World.block_lt_of_cell? _ _ (((HB.out.cell (World.block_lt_of_cell? w _ hw371_3)).trans hw371_3)))).trans (((HB.out.cell (World.block_lt_of_cell? w _ hw371_3)).trans hw371_3)), (World.cell?_alloc_lt _ _ _ (World.block_lt_of_cell? _ _ (((HB.out.cell (World.block_lt_of_cell? w _ hw371_4)).trans hw371_4)))).trans (((HB.out.cell (World.block_lt_of_cell? w _ hw371_4)).trans hw371_4))⟩ (fun hHeld => ?_)
 clear hK K
 refine norm_ (a' := ?_) ?_ ?_
 rotate_left
 ·show Act.put _ (some 21) _ = _
  simp only [SX]
  rfl
 refine one_ (i := 10) (N := some 22) (ms 12 2047) rfl rfl (one_of HT_.out (by kernel_rfl)) (by decide) (fun K hK => ?_)
 refine Kd.R_append_step (Kd.int .i64) (w0 := w) w.heap.size (by rfl) (.tmp 12) (.tmp 21) 33 3 (.int .i64 0) 8 rfl Try.underlying33 info3 rfl (by decide) (by omega) v368 y367 ((rd_T58 l0_1 (rd l1 0)).f0) [.int .i64 ((rd_T58 l0_1 (rd l1 0)).f0)] (fun _ => True) (fun _ => False) rfl rfl ?aP (fun _ hk => hk.elim) ?aF ?aO ?aB ?aS ?aL ?_
 (case aP => exact rfl)
 (case aB => exact (bl1 HB GE366))
 (case aF => exact (fun _ _ => trivial))
 (case aO => exact (rk HO369))
 (case aS => exact (below_size (bl1 HB GE366)))
 (case aL => have := LMc9.out; omega)
 intro v373 w14 ho hb hg hat
 rw [← Ny372.out] at ho
 have n0_ := ak (blk_grown (bk BK366) hg (Kd.R_ne HO369.out BK366.out (by decide)))
 have n1_ := ak (hb)
 have n2_ := ak (ho)
 clear BK366
 clear HB
 clear HO369
 have BK366 := n0_
 have HB := n1_
 have HO374 := n2_
 clear n0_ n1_ n2_
 clear ho hb hg hat
 refine hK.out _ _ ⟨(blk_cell BK366.out 0).trans rfl, (blk_cell BK366.out 1).trans rfl, ((HB.out.cell (World.block_lt_of_cell? w _ hw370_0)).trans hw370_0), ((HB.out.cell (World.block_lt_of_cell? w _ hw371_0)).trans hw371_0), ((HB.out.cell (World.block_lt_of_cell? w _ hw371_1)).trans hw371_1), ((HB.out.cell (World.block_lt_of_cell? w _ hw371_2)).trans hw371_2), ((HB.out.cell (World.block_lt_of_cell? w _ hw371_3)).trans hw371_3), ((HB.out.cell (World.block_lt_of_cell? w _ hw371_4)).trans hw371_4)⟩ (fun hHeld => ?_)
 clear hK K
 refine norm_ (a' := ?_) ?_ ?_
 rotate_left
 ·show Act.put _ (some 22) _ = _
  simp only [SX]
  rfl
 refine pu 11 5 ?_ (ms 12 4095) rfl rfl HT_ (by kernel_rfl) (fun _ _ _ h => h) (by rfl) ?_ ?_ ?_ ?_
 rotate_left
 ·intro w'
  go_simp
  with_reducible rfl
 rotate_left
 ·simp only [SX]
  rfl
 refine done_ (done_of HT_.out (by kernel_rfl)) ?_
 try go_wp2
 go_loopg [5, 25] k (fun kq v5 v25 w' => ∃ (x5_1 : List Int) (x25_1 : Int), v25 = .int .i64 x25_1 ∧ Aside0 (impl_Net_along.l0 kq x5_1 l1 (l1.length : Int) x25_1 a0_0 l0_1 = some r) ∧ Aside0 (kq ≤ k) ∧ Aside0 (Kd.R (Kd.int .i64) 3 w' w.heap.size (fun _ => True) v5 x5_1) ∧ Aside0 (w'.heap[gb366]? = some (.cells #[.int .i64 a0_0, (.slice (some ad371) l0_1.length c0_1)] 25 (0, 0))) ∧ Aside0 (Below w.heap.size w w'))
 case atStart => exact ⟨(y372), (0), (by first | rfl | (simp; done) | (simp [*]; done)), H', ⟨Nat.le_refl _⟩, ⟨rk HO374⟩, ⟨bk BK366⟩, ⟨bl1 HB GE366⟩⟩
 clear H'
 try clear c1
 try clear p2
 try clear p3
 try clear q3
 try clear hx3
 try clear qi3
 try clear c4
 try clear c4b0
 try clear c4b1
 try clear c5
 try clear c5b0
 try clear c5b1
 try clear c6
 try clear c6b0
 try clear c6b1
 try clear p6
 try clear c7
 try clear c7b0
 try clear c8
 try clear c8b0
 try clear c9
 try clear hx370_0
 try clear hx371_0
 try clear hx371_1
 try clear hx371_2
 try clear hx371_3
 try clear hx371_4
 try clear p370
 try clear p371
 try clear q370
 try clear q371
 obtain ⟨x5_1, x25_1, rfl, HA, HK1, HO_5, BK366, HB⟩ := hrel
 cases gk with
 | zero => exact absurd HA.out (by simp [impl_Net_along.l0])
 | succ k1 =>
  have H := HA.out
  clear HA
  simp only [impl_Net_along.l0] at H
  by_cases c15 : x25_1 < (l1.length : Int)
  rotate_left
  ·rw [if_neg c15] at H
   have c15b0 : decide (x25_1 < (l1.length : Int)) = false := decide_eq_false c15
   clear c15
   obtain rfl := Option.some.inj H
   go_wp2
   go_ret
   exact ⟨_, by first | rfl | (simp [errW_none, errW_some] <;> rfl) | (simp only [← hji3]; first | rfl | (simp [errW_none, errW_some] <;> rfl)) | (simp [*, errW_none, errW_some] <;> rfl), rk HO_5, bl1 HB GE366⟩
  rw [if_pos c15] at H
  have c15b0 : decide (x25_1 < (l1.length : Int)) = true := decide_eq_true c15
  clear c15
  by_cases c16 : 0 ≤ x25_1
  rotate_left
  ·rw [if_neg c16] at H
   exact absurd H (by simp)
  rw [if_pos c16] at H
  have c16b0 : decide (0 ≤ x25_1) = true := decide_eq_true c16
  clear c16
  by_cases c17 : x25_1 < (l1.length : Int)
  rotate_left
  ·rw [if_neg c17] at H
   exact absurd H (by simp)
  rw [if_pos c17] at H
  have c17b0 : decide (x25_1 < (l1.length : Int)) = true := decide_eq_true c17
  clear c17
  by_cases c18 : 0 ≤ (rd l1 x25_1)
  rotate_left
  ·rw [if_neg c18] at H
   exact absurd H (by simp)
  rw [if_pos c18] at H
  have c18b0 : decide (0 ≤ (rd l1 x25_1)) = true := decide_eq_true c18
  clear c18
  by_cases c19 : (rd l1 x25_1) < (l0_1.length : Int)
  rotate_left
  ·rw [if_neg c19] at H
   exact absurd H (by simp)
  rw [if_pos c19] at H
  have c19b0 : decide ((rd l1 x25_1) < (l0_1.length : Int)) = true := decide_eq_true c19
  clear c19
  by_cases c20 : x5_1.length < 17592186044416
  rotate_left
  ·rw [if_neg c20] at H
   exact absurd H (by simp)
  rw [if_pos c20] at H
  have LMc20 := ak c20
  clear c20
  obtain ⟨y377, hy377⟩ : ∃ y_ : List Int, y_ = (x5_1 ++ [(rd_T58 l0_1 (rd l1 x25_1)).f1]) := ⟨_, rfl⟩
  replace H : (impl_Net_along.l0 k1 y377 l1 (l1.length : Int) (wrap64 (x25_1 + 1)) a0_0 l0_1) = some r := by first | (rw [hy377]; with_reducible exact H) | (have H2_ := (Option.bind_some _ _).symm.trans H; rw [hy377]; with_reducible exact H2_) | (have H2_ := (Option.bind_some _ _).symm.trans H; with_reducible exact H2_) | with_reducible exact H | (rw [hy377]; exact H) | exact H
  have Ny377 := ak hy377
  clear hy377
  have H' := ak H
  clear H
  have p375 : 0 ≤ (x25_1 : Int) := oT (by first | (with_reducible assumption) | assumption)
  have q375 : x25_1 < (l1.length : Int) := oT (by first | (with_reducible assumption) | assumption)
  obtain ⟨ad375, e375, hx375_0⟩ := Kd.at_int HR1.out x25_1 p375 q375
  obtain rfl : ad370 = ad375 := (by injection e375)
  replace hx375_0 := hcb HB.out hx375_0
  replace p375 := eq_true p375
  replace q375 := eq_true q375
  have hcz21_0 := bc wr BK366 0 (.int .i64 a0_0) rfl
  have hcz21_1 := bc wr BK366 1 (.slice (some ad371) l0_1.length c0_1) rfl
  have hfz21_0 := fz BK366 0
  have hfz21_1 := fz BK366 1
  have p376 : 0 ≤ ((rd l1 x25_1) : Int) := oT (by first | (with_reducible assumption) | assumption)
  have q376 : (rd l1 x25_1) < (l0_1.length : Int) := oT (by first | (with_reducible assumption) | assumption)
  obtain ⟨ad376, e376, hx376_0, hx376_1, hx376_2, hx376_3, hx376_4⟩ := at_T58 HR0_1.out (rd l1 x25_1) p376 q376
  obtain rfl : ad371 = ad376 := (by injection e376)
  replace hx376_0 := hcb HB.out hx376_0
  replace hx376_1 := hcb HB.out hx376_1
  replace hx376_2 := hcb HB.out hx376_2
  replace hx376_3 := hcb HB.out hx376_3
  replace hx376_4 := hcb HB.out hx376_4
  replace p376 := eq_true p376
  replace q376 := eq_true q376
  go_wp2_with (first | ((with_reducible refine gate_builtin (b := .append) (xs := #[.tmp 29, .tmp 36]) rfl ?_); at_builtin; refine Kd.R_append (Kd.int .i64) (w0 := w) w.heap.size rfl (.tmp 29) (.tmp 36) 33 3 (.int .i64 0) 8 rfl Try.underlying33 info3 rfl (by decide) (by omega) u5 x5_1 ((rd_T58 l0_1 (rd l1 x25_1)).f1) [.int .i64 ((rd_T58 l0_1 (rd l1 x25_1)).f1)] (fun _ => True) (fun _ => False) rfl rfl ?aP (fun _ hk => hk.elim) ?aF ?aO ?aB ?aS ?aL ?_; (case aP => exact rfl); (case aB => exact (bl1 HB GE366)); (case aF => exact (fun _ _ => trivial)); (case aO => exact (rk HO_5)); (case aS => exact (below_size (bl1 HB GE366))); (case aL => have := LMc20.out; omega); intro v378 w22 ho hb hg hat; rw [← Ny377.out] at ho; have n0_ := ak (blk_grown (bk BK366) hg (Kd.R_ne HO_5.out BK366.out (by decide))); have n1_ := ak (hb); have n2_ := ak (ho); clear BK366; clear HB; clear HO_5; have BK366 := n0_; have HB := n1_; have HO379 := n2_; clear n0_ n1_ n2_; clear ho hb hg hat))
  go_roundg k1
  case measure => have := HK1.out; omega
  case rel => exact ⟨(y377), (wrap64 (x25_1 + 1)), (by first | rfl | (simp; done) | (simp [*]; done)), H', ⟨by have := HK1.out; omega⟩, ⟨rk HO379⟩, ⟨bk BK366⟩, ⟨bl1 HB GE366⟩⟩

end Go.Proofs.Ytlgolgfcolnddaa.F
