-- Printed by wip/px/px.py of this claim's repository (the kit's printer, extended there). Lean checks it.
import Derived.Test.YthgihpbpebbebaaFKinds
import Derived.Test.YthgihpbpebbebaaFimplNear
import Derived.Test.YthgihpbpebbebaaFimplnodesIn
import Derived.Test.YthgihpbpebbebaaFimplreached
namespace Go.Proofs.Ythgihpbpebbebaa.F
open Go.RowKit Go.Proofs.YthgihpbpebbebaaW.PrintWords Go.Proofs.YthgihpbpebbebaaW.PrintLast Go.Proofs.YthgihpbpebbebaaW.PrintMore
attribute [local go_sem] max2_int min2_int max_two min_two max_three min_three max_four min_four   -- for this text's walks alone
set_option linter.unusedVariables false
set_option linter.unusedSimpArgs false

/-! ### impl_ReachArcs: function 50 -/
def impl_ReachArcs.l0 : Nat → Int → List Int → List Int → List (S31) → Int → Int → Option (List Int)
 | 0, _, _, _, _, _, _ => none
 | k + 1, x2, x7, x8, x26, x27, x28 => if x28 < x27 then (if 0 ≤ x28 then (if x28 < (x26.length : Int) then (if 0 ≤ ((rd_T31 x26 x28).f0) then (if ((rd_T31 x26 x28).f0) < (x7.length : Int) then ((impl_reached.f (rd x7 ((rd_T31 x26 x28).f0)) x2).bind fun t909 => (if t909 = true then (if x8.length < 17592186044416 then (impl_ReachArcs.l0 k x2 x7 (x8 ++ [mn ((rd_T31 x26 x28).f2) (wrap64 (x2 - (rd x7 ((rd_T31 x26 x28).f0))))]) x26 x27 (wrap64 (x28 + 1))) else (none)) else (if x8.length < 17592186044416 then (impl_ReachArcs.l0 k x2 x7 (x8 ++ [(-1)]) x26 x27 (wrap64 (x28 + 1))) else (none)))) else (none)) else (none)) else (none)) else (none)) else (some x8)
def impl_ReachArcs.f (k : Nat) (a0_0 : Int) (l0_1 : List (S31)) (a1 : Int) (a2 : Int) : Option (List Int) := (impl_nodesIn.f a0_0 l0_1 (([a1] : List Int))).bind fun t899 => (if t899 = true then ((impl_Net_from.f k a0_0 l0_1 a1).bind fun t900 => (if ((l0_1.length : Int) : Int).toNat ≤ 35184372088832 then (impl_ReachArcs.l0 k a2 t900 (([] : List Int)) l0_1 (l0_1.length : Int) 0) else (none))) else (some ([] : List Int)))
theorem impl_ReachArcs.mono_l : ∀ k, (∀ y0 y1 y2 y3 y4 y5, LeO (impl_ReachArcs.l0 k y0 y1 y2 y3 y4 y5) (impl_ReachArcs.l0 (k + 1) y0 y1 y2 y3 y4 y5))
 | 0 => fun _ _ _ _ _ _ r h => by simp [impl_ReachArcs.l0] at h
 | k + 1 => by
  have ih0 := impl_ReachArcs.mono_l k
  ·intro y0 y1 y2 y3 y4 y5
   unfold impl_ReachArcs.l0
   repeat' first
   | (with_reducible exact ih0 _ _ _ _ _ _)
   | (with_reducible exact impl_Net_from.mono _ _ _ _)
   | (with_reducible exact LeO.refl _)
   | (with_reducible exact LeO.none _)
   | (with_reducible refine LeO.ite ?_ ?_)
   | (with_reducible refine LeO.bind ?_ (fun _ => ?_))
   | exact ih0 _ _ _ _ _ _
   | exact impl_Net_from.mono _ _ _ _
   | exact LeO.none _
   | refine LeO.ite ?_ ?_
   | refine LeO.bind ?_ (fun _ => ?_)
theorem impl_ReachArcs.mono : ∀ a0 a1 a2 a3 k, LeO (impl_ReachArcs.f k a0 a1 a2 a3) (impl_ReachArcs.f (k + 1) a0 a1 a2 a3) := by
 intro a0 a1 a2 a3 k
 have ih0 := impl_ReachArcs.mono_l k
 unfold impl_ReachArcs.f
 repeat' first
   | (with_reducible exact ih0 _ _ _ _ _ _)
   | (with_reducible exact impl_Net_from.mono _ _ _ _)
   | (with_reducible exact LeO.refl _)
   | (with_reducible exact LeO.none _)
   | (with_reducible refine LeO.ite ?_ ?_)
   | (with_reducible refine LeO.bind ?_ (fun _ => ?_))
   | exact ih0 _ _ _ _ _ _
   | exact impl_Net_from.mono _ _ _ _
   | exact LeO.none _
   | refine LeO.ite ?_ ?_
   | refine LeO.bind ?_ (fun _ => ?_)
set_option maxHeartbeats 8000000 in
set_option maxRecDepth 100000 in
theorem impl_ReachArcs.calls (k : Nat) (a0_0 : Int) (A0_1 : Option Addr) (c0_1 : Nat) (l0_1 : List (S31)) (a1 : Int) (a2 : Int) (r : List Int) (w : World) (hr0_1 : Kd.C k31 w A0_1 l0_1.length l0_1) (hc0_1 : l0_1.length ≤ c0_1) (h : impl_ReachArcs.f k a0_0 l0_1 a1 a2 = some r) :
  Calls Try.prog 50 #[.agg #[.int .i64 a0_0, .slice A0_1 l0_1.length c0_1], .int .i64 a1, .int .i64 a2] w fun e w' => ∃ v0_ : Value, e = .returned (v0_) ∧ Kd.R (Kd.int .i64) 3 w' w.heap.size (fun _ => True) v0_ r ∧ Below w.heap.size w w' := by
 have hu25 := Try.underlying25
 have hu31 := Try.underlying31
 have HR0_1 := Aside0.mk hr0_1
 have HC0_1 := Aside0.mk hc0_1
 clear hr0_1 hc0_1
 have HB := Aside0.mk (Below.refl w.heap.size w)
 have H : ((impl_nodesIn.f a0_0 l0_1 (([a1] : List Int))).bind fun t899 => (if t899 = true then ((impl_Net_from.f k a0_0 l0_1 a1).bind fun t900 => (if ((l0_1.length : Int) : Int).toNat ≤ 35184372088832 then (impl_ReachArcs.l0 k a2 t900 (([] : List Int)) l0_1 (l0_1.length : Int) 0) else (none))) else (some ([] : List Int)))) = some r := h
 clear h
 obtain ⟨y896, hy896⟩ : ∃ y_ : List Int, y_ = (([a1] : List Int)) := ⟨_, rfl⟩
 replace H : ((impl_nodesIn.f a0_0 l0_1 y896).bind fun t899 => (if t899 = true then ((impl_Net_from.f k a0_0 l0_1 a1).bind fun t900 => (if ((l0_1.length : Int) : Int).toNat ≤ 35184372088832 then (impl_ReachArcs.l0 k a2 t900 (([] : List Int)) l0_1 (l0_1.length : Int) 0) else (none))) else (some ([] : List Int)))) = some r := by first | (rw [hy896]; with_reducible exact H) | (have H2_ := (Option.bind_some _ _).symm.trans H; rw [hy896]; with_reducible exact H2_) | (have H2_ := (Option.bind_some _ _).symm.trans H; with_reducible exact H2_) | with_reducible exact H | (rw [hy896]; exact H) | exact H
 have Ny896 := Aside0.mk hy896
 clear hy896
 replace H := Option.bind_eq_some_iff.mp H
 obtain ⟨t899, A40, H⟩ := H
 have A4 := Aside0.mk A40
 clear A40
 by_cases c5 : t899 = true
 ·subst c5
  rw [if_pos rfl] at H
  replace H := Option.bind_eq_some_iff.mp H
  obtain ⟨t900, A60, H⟩ := H
  have A6 := Aside0.mk A60
  clear A60
  by_cases c7 : ((l0_1.length : Int) : Int).toNat ≤ 35184372088832
  ·rw [if_pos c7] at H
   have c7b0 := eq_true c7
   have c7b1 : decide (((l0_1.length : Int) : Int).toNat ≤ 35184372088832) = true := decide_eq_true c7
   clear c7
   obtain ⟨y903, hy903⟩ : ∃ y_ : List Int, y_ = (([] : List Int)) := ⟨_, rfl⟩
   replace H : (impl_ReachArcs.l0 k a2 t900 y903 l0_1 (l0_1.length : Int) 0) = some r := by first | (rw [hy903]; with_reducible exact H) | (have H2_ := (Option.bind_some _ _).symm.trans H; rw [hy903]; with_reducible exact H2_) | (have H2_ := (Option.bind_some _ _).symm.trans H; with_reducible exact H2_) | with_reducible exact H | (rw [hy903]; exact H) | exact H
   have Ny903 := Aside0.mk hy903
   clear hy903
   have H' := Aside0.mk H
   clear H
   go_enter Try.func50, Try.ntmps50
   go_wp2_with (first | ((with_reducible refine gate_dst (N := 3) rfl ?_); refine box_event ?hg (N := 3) ?hd (cs := #[.int .i64 a0_0, .slice A0_1 l0_1.length c0_1]) (t := 25) ?hr ?_; (case hd => rfl); (case hg => rfl); (case hr => first | (go_simp; done) | (go_simp; rfl)); intro gb895 hg w8 hbox hb; have n0_ := Aside0.mk (below_step (bl HB) hb); have n1_ := Aside0.mk (hbox); have n2_ := Aside0.mk ((by rw [hg]; exact (below_size (bl HB)) : w.heap.size ≤ gb895)); have n3_ := Aside0.mk ((by rw [hg]; exact (below_size (bl HB)) : w.heap.size ≤ gb895)); clear HB; have HB := n0_; have BK895 := n1_; have GW895 := n2_; have GE895 := n3_; clear n0_ n1_ n2_ n3_; clear hb hbox hg; have hcz9_0 : w8.cell? ⟨gb895, 0, none⟩ = some (.int .i64 a0_0) := (blk_cell BK895.out 0).trans rfl; have hcz9_1 : w8.cell? ⟨gb895, 1, none⟩ = some (.slice A0_1 l0_1.length c0_1) := (blk_cell BK895.out 1).trans rfl; have hfz9_0 := blk_frozen BK895.out 0; have hfz9_1 := blk_frozen BK895.out 1) | ((with_reducible refine gate_dst (N := 15) rfl ?_); refine Kd.R_lit (Kd.int .i64) _ 3 ?hg (N := 15) ?hd (xs := ([a1] : List Int)) (inner := [.int .i64 a1]) (ok := fun _ => True) (okp := fun _ => True) ?hr ?hp (fun _ hk => hk) trivial (Below.refl _ _) (Nat.le_refl _) (by simp) ?_; (case hd => rfl); (case hg => rfl); (case hr => first | (go_simp; done) | (go_simp; rfl)); (case hp => exact (Reps.one (show Kd.M (Kd.int .i64) _ _ _ a1 [.int .i64 a1] from rfl) (Reps.none _ _))); intro v897 w10 ho11 hb hg_ hnew_; clear hg_ hnew_; (first | rw [← Ny896.out] at ho11 | (simp only [Int.reduceToNat] at ho11; rw [← Ny896.out] at ho11)); have n0_ := Aside0.mk (Kd.R_lower ho11 (below_size (bl1 HB GE895))); have n1_ := Aside0.mk (blk_below (bk BK895) hb); have n2_ := Aside0.mk (below_step (bl1 HB GE895) hb); clear BK895; clear HB; have HO898 := n0_; have BK895 := n1_; have HB := n2_; clear n0_ n1_ n2_; clear hb ho11; obtain ⟨Ao12, co12, eo12⟩ := Kd.R_slice HO898.out; subst eo12) | ((with_reducible refine gate_callee (f := 91) rfl ?_); refine goesL_ (some 16) rfl rfl Try.func91 (by kernel_rfl) rfl #[.agg #[.int .i64 a0_0, .slice A0_1 l0_1.length c0_1], .slice Ao12 y896.length co12] rfl (by (try simp only [List.map_toArray, List.map_cons, List.map_nil]); first | done | rfl | (simp only [List.length_drop, List.length_take]; rfl)) ?_; (with_reducible refine (impl_nodesIn.calls a0_0 _ _ l0_1 _ _ y896 true _ ?side1 ?side2 ?side3 ?side4 A4.out).mono ?_); (case side1 => repeat (first | exact (Kd.C_below HR0_1.out HB.out) | (with_reducible refine Kd.C_alloc ?_ _) | (with_reducible refine Kd.C_drewN ?_ _) | (with_reducible refine Kd.C_drew ?_))); (case side2 => exact HC0_1.out); (case side3 => repeat (first | exact (Kd.R_reads' HO898.out).2.2 | (with_reducible refine Kd.C_alloc ?_ _) | (with_reducible refine Kd.C_drewN ?_ _) | (with_reducible refine Kd.C_drew ?_))); (case side4 => exact (Kd.R_reads' HO898.out).2.1); rintro e w13 ⟨rfl, hb⟩; refine ⟨_, rfl, ?_⟩; have n0_ := Aside0.mk (Kd.R_below (rk HO898) hb); have n1_ := Aside0.mk (blk_below (bk BK895) hb); have n2_ := Aside0.mk (below_step (bl1 HB GE895) hb); clear HO898; clear BK895; clear HB; have HO898 := n0_; have BK895 := n1_; have HB := n2_; clear n0_ n1_ n2_; (try clear hb); (try clear hb2); (try clear hk); (try clear hi); have hcz14_0 : w13.cell? ⟨gb895, 0, none⟩ = some (.int .i64 a0_0) := (blk_cell BK895.out 0).trans rfl; have hcz14_1 : w13.cell? ⟨gb895, 1, none⟩ = some (.slice A0_1 l0_1.length c0_1) := (blk_cell BK895.out 1).trans rfl; have hfz14_0 := blk_frozen BK895.out 0; have hfz14_1 := blk_frozen BK895.out 1) | ((with_reducible refine gate_callee (f := 92) rfl ?_); refine goesL_ (some 20) rfl rfl Try.func92 (by kernel_rfl) rfl #[.agg #[.int .i64 a0_0, .slice A0_1 l0_1.length c0_1], .int .i64 a1] rfl (by (try simp only [List.map_toArray, List.map_cons, List.map_nil]); first | done | rfl | (simp only [List.length_drop, List.length_take]; rfl)) ?_; (with_reducible refine (impl_Net_from.calls k a0_0 _ _ l0_1 a1 t900 _ ?side1 ?side2 A6.out).mono ?_); (case side1 => repeat (first | exact (Kd.C_below HR0_1.out HB.out) | (with_reducible refine Kd.C_alloc ?_ _) | (with_reducible refine Kd.C_drewN ?_ _) | (with_reducible refine Kd.C_drew ?_))); (case side2 => exact HC0_1.out); rintro e w15 ⟨v901, rfl, ho0, hb⟩; refine ⟨_, rfl, ?_⟩; have n0_ := Aside0.mk (Kd.R_elder' (rk HO898) (Kd.R_base ho0) hb); have n1_ := Aside0.mk (Kd.R_lower (Kd.R_new' ho0 (Kd.R_lt (rk HO898))) (below_size (bl1 HB GE895))); have n2_ := Aside0.mk (blk_below (bk BK895) hb); have n3_ := Aside0.mk (below_step (bl1 HB GE895) hb); clear HO898; clear BK895; clear HB; have HO898 := n0_; have HO902 := n1_; have BK895 := n2_; have HB := n3_; clear n0_ n1_ n2_ n3_; (try clear hb); (try clear hb2); (try clear hk); (try clear hi); (try clear ho0); have hcz16_0 : w15.cell? ⟨gb895, 0, none⟩ = some (.int .i64 a0_0) := (blk_cell BK895.out 0).trans rfl; have hcz16_1 : w15.cell? ⟨gb895, 1, none⟩ = some (.slice A0_1 l0_1.length c0_1) := (blk_cell BK895.out 1).trans rfl; have hfz16_0 := blk_frozen BK895.out 0; have hfz16_1 := blk_frozen BK895.out 1) | ((with_reducible refine gate_dst (N := 24) rfl ?_); refine Kd.R_make0 (Kd.int .i64) _ 3 rfl (N := 24) rfl 41 _ _ rfl (l0_1.length : Int) rfl rfl Try.underlying41 (.int .i64 0) 8 info3 (by decide) (ok := fun _ => True) trivial (by omega) (Nat.le_trans (Nat.mul_le_mul_right _ (oT (by first | (with_reducible assumption) | assumption) : (l0_1.length : Int).toNat ≤ 35184372088832)) (by omega)) (Below.refl _ _) (Nat.le_refl _) ?_; intro v904 w17 ho18 hb hg_ hnew_; clear hg_ hnew_; (first | rw [← Ny903.out] at ho18 | (simp only [Int.reduceToNat] at ho18; rw [← Ny903.out] at ho18)); have n0_ := Aside0.mk (Kd.R_elder' (rk HO898) (Kd.R_base ho18) hb); have n1_ := Aside0.mk (Kd.R_elder' (rk HO902) (Kd.R_base ho18) hb); have n2_ := Aside0.mk (Kd.R_lower (Kd.R_new' (Kd.R_new' ho18 (Kd.R_lt (rk HO898))) (Kd.R_lt (rk HO902))) (below_size (bl1 HB GE895))); have n3_ := Aside0.mk (blk_below (bk BK895) hb); have n4_ := Aside0.mk (below_step (bl1 HB GE895) hb); clear HO898; clear HO902; clear BK895; clear HB; have HO898 := n0_; have HO902 := n1_; have HO905 := n2_; have BK895 := n3_; have HB := n4_; clear n0_ n1_ n2_ n3_ n4_; clear hb ho18; have hcz19_0 : w17.cell? ⟨gb895, 0, none⟩ = some (.int .i64 a0_0) := (blk_cell BK895.out 0).trans rfl; have hcz19_1 : w17.cell? ⟨gb895, 1, none⟩ = some (.slice A0_1 l0_1.length c0_1) := (blk_cell BK895.out 1).trans rfl; have hfz19_0 := blk_frozen BK895.out 0; have hfz19_1 := blk_frozen BK895.out 1))
   go_loopg [8, 28] k (fun kq v8 v28 w' => ∃ (x8_1 : List Int) (x28_1 : Int), v28 = .int .i64 x28_1 ∧ Aside0 (impl_ReachArcs.l0 kq a2 t900 x8_1 l0_1 (l0_1.length : Int) x28_1 = some r) ∧ Aside0 (kq ≤ k) ∧ Aside0 (Kd.R (Kd.int .i64) 3 w' w.heap.size (fun k_ => some k_ ≠ (v8 : Value).ownBlock) v901 t900) ∧ Aside0 (Kd.R (Kd.int .i64) 3 w' w.heap.size (fun k_ => some k_ ≠ (v901 : Value).ownBlock) v8 x8_1) ∧ Aside0 (w'.heap[gb895]? = some (.cells #[.int .i64 a0_0, (.slice A0_1 l0_1.length c0_1)] 25 (0, 0))) ∧ Aside0 (Below w.heap.size w w'))
   case atStart => exact ⟨(y903), (0), (by first | rfl | (simp; done) | (simp [*]; done)), H', ⟨Nat.le_refl _⟩, ⟨by (with_reducible repeat (first | apply Kd.R_alloc | apply Kd.R_drewN | apply Kd.R_drew)); exact Kd.R_mono HO902.out (fun _ hk => hk.2)⟩, ⟨by (with_reducible repeat (first | apply Kd.R_alloc | apply Kd.R_drewN | apply Kd.R_drew)); exact Kd.R_mono HO905.out (fun _ hk => hk.2)⟩, ⟨bk BK895⟩, ⟨bl1 HB GE895⟩⟩
   case round =>
    clear H'
    try clear p2
    try clear c5
    try clear c7
    try clear c7b0
    try clear c7b1
    try clear c9
    try clear hcz14_0
    try clear hcz14_1
    try clear hcz16_0
    try clear hcz16_1
    try clear hcz19_0
    try clear hcz19_1
    try clear hcz9_0
    try clear hcz9_1
    try clear hfz14_0
    try clear hfz14_1
    try clear hfz16_0
    try clear hfz16_1
    try clear hfz19_0
    try clear hfz19_1
    try clear hfz9_0
    try clear hfz9_1
    obtain ⟨x8_1, x28_1, rfl, HA, HK1, HO_7, HO_8, BK895, HB⟩ := hrel
    cases gk with
    | zero => exact absurd HA.out (by simp [impl_ReachArcs.l0])
    | succ k1 =>
     have H := HA.out
     clear HA
     simp only [impl_ReachArcs.l0] at H
     by_cases c20 : x28_1 < (l0_1.length : Int)
     ·rw [if_pos c20] at H
      have c20b0 : decide (x28_1 < (l0_1.length : Int)) = true := decide_eq_true c20
      clear c20
      by_cases c21 : 0 ≤ x28_1
      ·rw [if_pos c21] at H
       have c21b0 : decide (0 ≤ x28_1) = true := decide_eq_true c21
       clear c21
       by_cases c22 : x28_1 < (l0_1.length : Int)
       ·rw [if_pos c22] at H
        have c22b0 : decide (x28_1 < (l0_1.length : Int)) = true := decide_eq_true c22
        clear c22
        by_cases c23 : 0 ≤ ((rd_T31 l0_1 x28_1).f0)
        ·rw [if_pos c23] at H
         have c23b0 : decide (0 ≤ ((rd_T31 l0_1 x28_1).f0)) = true := decide_eq_true c23
         clear c23
         by_cases c24 : ((rd_T31 l0_1 x28_1).f0) < (t900.length : Int)
         ·rw [if_pos c24] at H
          have c24b0 : decide (((rd_T31 l0_1 x28_1).f0) < (t900.length : Int)) = true := decide_eq_true c24
          clear c24
          replace H := Option.bind_eq_some_iff.mp H
          obtain ⟨t909, A250, H⟩ := H
          have A25 := Aside0.mk A250
          clear A250
          by_cases c26 : t909 = true
          ·subst c26
           rw [if_pos rfl] at H
           obtain ⟨ji27, hji27⟩ : ∃ j_ : Int, (mn ((rd_T31 l0_1 x28_1).f2) (wrap64 (a2 - (rd t900 ((rd_T31 l0_1 x28_1).f0))))) = j_ := ⟨_, rfl⟩
           replace H : (if x8_1.length < 17592186044416 then (impl_ReachArcs.l0 k1 a2 t900 (x8_1 ++ [ji27]) l0_1 (l0_1.length : Int) (wrap64 (x28_1 + 1))) else (none)) = some r := by first | (rw [hji27] at H; exact H) | (simp only [hji27] at H ⊢; exact H)
           (try rw [hji27] at A25)
           have hji27_ : (if (wrap64 (a2 - (rd t900 ((rd_T31 l0_1 x28_1).f0)))) < ((rd_T31 l0_1 x28_1).f2) then (wrap64 (a2 - (rd t900 ((rd_T31 l0_1 x28_1).f0)))) else ((rd_T31 l0_1 x28_1).f2)) = ji27 := hji27
           by_cases c28 : x8_1.length < 17592186044416
           ·rw [if_pos c28] at H
            have LMc28 := Aside0.mk c28
            clear c28
            obtain ⟨y910, hy910⟩ : ∃ y_ : List Int, y_ = (x8_1 ++ [ji27]) := ⟨_, rfl⟩
            replace H : (impl_ReachArcs.l0 k1 a2 t900 y910 l0_1 (l0_1.length : Int) (wrap64 (x28_1 + 1))) = some r := by first | (rw [hy910]; with_reducible exact H) | (have H2_ := (Option.bind_some _ _).symm.trans H; rw [hy910]; with_reducible exact H2_) | (have H2_ := (Option.bind_some _ _).symm.trans H; with_reducible exact H2_) | with_reducible exact H | (rw [hy910]; exact H) | exact H
            have Ny910 := Aside0.mk hy910
            clear hy910
            have H' := Aside0.mk H
            clear H
            have p906 : 0 ≤ (x28_1 : Int) := oT (by first | (with_reducible assumption) | assumption)
            have q906 : x28_1 < (l0_1.length : Int) := oT (by first | (with_reducible assumption) | assumption)
            obtain ⟨ad906, e906, hx906_0, hx906_1, hx906_2, hx906_3, hx906_4⟩ := at_T31 HR0_1.out x28_1 p906 q906
            cases e906
            replace hx906_0 := hcb HB.out hx906_0
            replace hx906_1 := hcb HB.out hx906_1
            replace hx906_2 := hcb HB.out hx906_2
            replace hx906_3 := hcb HB.out hx906_3
            replace hx906_4 := hcb HB.out hx906_4
            replace p906 := eq_true p906
            replace q906 := eq_true q906
            go_wp2_with (first | ((with_reducible refine gate_dst (N := 10) rfl ?_); refine box_event ?hg (N := 10) ?hd (cs := #[.int .i64 0, .int .i64 0, .int .i64 0, .int .i64 0, .int .i64 0]) (t := 31) ?hr ?_; (case hd => rfl); (case hg => rfl); (case hr => first | (go_simp; done) | (go_simp; rfl)); intro gb907 hg w29 hbox hb; have n0_ := Aside0.mk (Kd.R_below (rk HO_7) hb); have n1_ := Aside0.mk (Kd.R_below (rk HO_8) hb); have n2_ := Aside0.mk (blk_below (bk BK895) hb); have n3_ := Aside0.mk (below_step (bl1 HB GE895) hb); have n4_ := Aside0.mk (hbox); have n5_ := Aside0.mk ((by rw [hg]; exact (below_size (bl1 HB GE895)) : w.heap.size ≤ gb907)); have n6_ := Aside0.mk ((by rw [hg]; exact (below_size (bl1 HB GE895)) : w.heap.size ≤ gb907)); have n7_ := Aside0.mk ((by rw [hg]; exact Nat.ne_of_lt (blk_lt (bk BK895)) : gb895 ≠ gb907)); have n8_ := Aside0.mk ((by rw [hg]; exact Nat.ne_of_gt (blk_lt (bk BK895)) : gb907 ≠ gb895)); clear HO_7; clear HO_8; clear BK895; clear HB; have HO_7 := n0_; have HO_8 := n1_; have BK895 := n2_; have HB := n3_; have BK907 := n4_; have GW907 := n5_; have GE907 := n6_; have NB895_907 := n7_; have NB907_895 := n8_; clear n0_ n1_ n2_ n3_ n4_ n5_ n6_ n7_ n8_; clear hb hbox hg; have hnb30 := NB907_895.out; have hnc30 := NB895_907.out; have hcz31_0 : w29.cell? ⟨gb907, 0, none⟩ = some (.int .i64 0) := (blk_cell BK907.out 0).trans rfl; have hcz31_1 : w29.cell? ⟨gb907, 1, none⟩ = some (.int .i64 0) := (blk_cell BK907.out 1).trans rfl; have hcz31_2 : w29.cell? ⟨gb907, 2, none⟩ = some (.int .i64 0) := (blk_cell BK907.out 2).trans rfl; have hcz31_3 : w29.cell? ⟨gb907, 3, none⟩ = some (.int .i64 0) := (blk_cell BK907.out 3).trans rfl; have hcz31_4 : w29.cell? ⟨gb907, 4, none⟩ = some (.int .i64 0) := (blk_cell BK907.out 4).trans rfl; have hfz31_0 := blk_frozen BK907.out 0; have hfz31_1 := blk_frozen BK907.out 1; have hfz31_2 := blk_frozen BK907.out 2; have hfz31_3 := blk_frozen BK907.out 3; have hfz31_4 := blk_frozen BK907.out 4; obtain ⟨Ao32, co32, eo32⟩ := Kd.R_slice HO_7.out; subst eo32; have p908 : 0 ≤ (((rd_T31 l0_1 x28_1).f0) : Int) := oT (by first | (with_reducible assumption) | assumption); have q908 : ((rd_T31 l0_1 x28_1).f0) < (t900.length : Int) := oT (by first | (with_reducible assumption) | assumption); obtain ⟨ad908, e908, hx908_0⟩ := Kd.at_int (Kd.R_reads' HO_7.out).2.2 ((rd_T31 l0_1 x28_1).f0) p908 q908; cases e908; have hn908_0 : ad908.block ≠ gb907 := Kd.own_blk (Kd.R_ne HO_7.out BK907.out (by decide)); have hn908_1 : ad908.block ≠ gb907 := Kd.own_blk (Kd.R_ne HO_7.out BK907.out (by decide)); have hn908_2 : ad908.block ≠ gb907 := Kd.own_blk (Kd.R_ne HO_7.out BK907.out (by decide)); have hn908_3 : ad908.block ≠ gb907 := Kd.own_blk (Kd.R_ne HO_7.out BK907.out (by decide)); have hn908_4 : ad908.block ≠ gb907 := Kd.own_blk (Kd.R_ne HO_7.out BK907.out (by decide)); replace hx908_0 := (cell_far (p := ⟨gb907, 0, none⟩) (by first | (rw [add_block]; exact hn908_0) | (show (Addr.add _ _).block ≠ _; rw [add_block]; exact hn908_0) | exact hn908_0) (.int .i64 ((rd_T31 l0_1 x28_1).f0))).trans hx908_0; replace hx908_0 := (cell_far (p := ⟨gb907, 1, none⟩) (by first | (rw [add_block]; exact hn908_1) | (show (Addr.add _ _).block ≠ _; rw [add_block]; exact hn908_1) | exact hn908_1) (.int .i64 ((rd_T31 l0_1 x28_1).f1))).trans hx908_0; replace hx908_0 := (cell_far (p := ⟨gb907, 2, none⟩) (by first | (rw [add_block]; exact hn908_2) | (show (Addr.add _ _).block ≠ _; rw [add_block]; exact hn908_2) | exact hn908_2) (.int .i64 ((rd_T31 l0_1 x28_1).f2))).trans hx908_0; replace hx908_0 := (cell_far (p := ⟨gb907, 3, none⟩) (by first | (rw [add_block]; exact hn908_3) | (show (Addr.add _ _).block ≠ _; rw [add_block]; exact hn908_3) | exact hn908_3) (.int .i64 ((rd_T31 l0_1 x28_1).f3))).trans hx908_0; replace hx908_0 := (cell_far (p := ⟨gb907, 4, none⟩) (by first | (rw [add_block]; exact hn908_4) | (show (Addr.add _ _).block ≠ _; rw [add_block]; exact hn908_4) | exact hn908_4) (.int .i64 ((rd_T31 l0_1 x28_1).f4))).trans hx908_0; clear hn908_0; clear hn908_1; clear hn908_2; clear hn908_3; clear hn908_4; replace p908 := eq_true p908; replace q908 := eq_true q908) | ((with_reducible refine gate_callee (f := 99) rfl ?_); refine goesL_ (some 39) rfl rfl Try.func99 (by kernel_rfl) rfl #[.int .i64 (rd t900 ((rd_T31 l0_1 x28_1).f0)), .int .i64 a2] rfl (by (try simp only [List.map_toArray, List.map_cons, List.map_nil]); first | done | rfl | (simp only [List.length_drop, List.length_take]; rfl)) ?_; (with_reducible refine (impl_reached.calls (rd t900 ((rd_T31 l0_1 x28_1).f0)) a2 true _ A25.out).mono ?_); rintro e w' ⟨rfl, ⟨nd, rfl⟩⟩; refine ⟨_, rfl, ?_⟩) | ((with_reducible refine gate_builtin (b := .append) (xs := #[.tmp 46, .tmp 48]) rfl ?_); at_builtin; refine Kd.R_append (Kd.int .i64) (w0 := w) w.heap.size rfl (.tmp 46) (.tmp 48) 41 3 (.int .i64 0) 8 rfl Try.underlying41 info3 rfl (by decide) (by omega) u8 x8_1 ji27 [.int .i64 ji27] (fun k_ => some k_ ≠ (.slice (some ad908) t900.length co32 : Value).ownBlock) (fun _ => False) rfl (by first | (go_simp; done) | (go_simp; rfl)) ?aP (fun _ hk => hk.elim) ?aF ?aO ?aB ?aS ?aL ?_; (case aP => exact rfl); (case aB => exact (bl2 HB GE895 GE907)); (case aF => exact (fun k_ hk => Kd.fresh' (Kd.R_lt (by (with_reducible repeat (first | apply Kd.R_alloc | apply Kd.R_drewN | apply Kd.R_drew)); exact (Kd.R_mono (Kd.R_far (p := ⟨gb907, 4, none⟩) (Kd.R_far (p := ⟨gb907, 3, none⟩) (Kd.R_far (p := ⟨gb907, 2, none⟩) (Kd.R_far (p := ⟨gb907, 1, none⟩) (Kd.R_far (p := ⟨gb907, 0, none⟩) (Kd.R_types HO_7.out BK907.out (by decide)) (fun _ hk => hk.2) (.int .i64 ((rd_T31 l0_1 x28_1).f0))) (fun _ hk => hk.2) (.int .i64 ((rd_T31 l0_1 x28_1).f1))) (fun _ hk => hk.2) (.int .i64 ((rd_T31 l0_1 x28_1).f2))) (fun _ hk => hk.2) (.int .i64 ((rd_T31 l0_1 x28_1).f3))) (fun _ hk => hk.2) (.int .i64 ((rd_T31 l0_1 x28_1).f4))) (fun _ h_ => h_.1)))) k_ hk)); (case aO => exact (by (with_reducible repeat (first | apply Kd.R_alloc | apply Kd.R_drewN | apply Kd.R_drew)); exact Kd.R_mono (Kd.R_far (p := ⟨gb907, 4, none⟩) (Kd.R_far (p := ⟨gb907, 3, none⟩) (Kd.R_far (p := ⟨gb907, 2, none⟩) (Kd.R_far (p := ⟨gb907, 1, none⟩) (Kd.R_far (p := ⟨gb907, 0, none⟩) (Kd.R_types HO_8.out BK907.out (by decide)) (fun _ hk => hk.2) (.int .i64 ((rd_T31 l0_1 x28_1).f0))) (fun _ hk => hk.2) (.int .i64 ((rd_T31 l0_1 x28_1).f1))) (fun _ hk => hk.2) (.int .i64 ((rd_T31 l0_1 x28_1).f2))) (fun _ hk => hk.2) (.int .i64 ((rd_T31 l0_1 x28_1).f3))) (fun _ hk => hk.2) (.int .i64 ((rd_T31 l0_1 x28_1).f4))) (fun _ hk => hk.1))); (case aS => exact (below_size (bl2 HB GE895 GE907))); (case aL => have := LMc28.out; omega); intro v911 w33 ho hb hg hat; rw [← Ny910.out] at ho; have n0_ := Aside0.mk (Kd.R_after (ok := (fun _ => True)) (by (with_reducible repeat (first | apply Kd.R_alloc | apply Kd.R_drewN | apply Kd.R_drew)); exact Kd.R_mono (Kd.R_far (p := ⟨gb907, 4, none⟩) (Kd.R_far (p := ⟨gb907, 3, none⟩) (Kd.R_far (p := ⟨gb907, 2, none⟩) (Kd.R_far (p := ⟨gb907, 1, none⟩) (Kd.R_far (p := ⟨gb907, 0, none⟩) (Kd.R_types HO_7.out BK907.out (by decide)) (fun _ hk => hk.2) (.int .i64 ((rd_T31 l0_1 x28_1).f0))) (fun _ hk => hk.2) (.int .i64 ((rd_T31 l0_1 x28_1).f1))) (fun _ hk => hk.2) (.int .i64 ((rd_T31 l0_1 x28_1).f2))) (fun _ hk => hk.2) (.int .i64 ((rd_T31 l0_1 x28_1).f3))) (fun _ hk => hk.2) (.int .i64 ((rd_T31 l0_1 x28_1).f4))) (fun _ hk => ⟨trivial, hk.1⟩)) hg hat); have n1_ := Aside0.mk (blk_grown (g := gb895) (o := .cells #[.int .i64 a0_0, .slice (some ad906) l0_1.length c0_1] 25 (0, 0)) (by (with_reducible repeat (first | refine blk_drewN ?_ _ | refine blk_drew ?_ | refine blk_alloc ?_ _)); refine blk_far ?_ NB895_907.out _; (with_reducible repeat (first | refine blk_drewN ?_ _ | refine blk_drew ?_ | refine blk_alloc ?_ _)); refine blk_far ?_ NB895_907.out _; (with_reducible repeat (first | refine blk_drewN ?_ _ | refine blk_drew ?_ | refine blk_alloc ?_ _)); refine blk_far ?_ NB895_907.out _; (with_reducible repeat (first | refine blk_drewN ?_ _ | refine blk_drew ?_ | refine blk_alloc ?_ _)); refine blk_far ?_ NB895_907.out _; (with_reducible repeat (first | refine blk_drewN ?_ _ | refine blk_drew ?_ | refine blk_alloc ?_ _)); refine blk_far ?_ NB895_907.out _; (with_reducible repeat (first | refine blk_drewN ?_ _ | refine blk_drew ?_ | refine blk_alloc ?_ _)); exact BK895.out) hg (Kd.R_ne HO_8.out BK895.out (by decide))); have n2_ := Aside0.mk (blk_grown (g := gb907) (o := .cells #[.int .i64 ((rd_T31 l0_1 x28_1).f0), .int .i64 ((rd_T31 l0_1 x28_1).f1), .int .i64 ((rd_T31 l0_1 x28_1).f2), .int .i64 ((rd_T31 l0_1 x28_1).f3), .int .i64 ((rd_T31 l0_1 x28_1).f4)] 31 (0, 0)) (by (with_reducible repeat (first | refine blk_drewN ?_ _ | refine blk_drew ?_ | refine blk_alloc ?_ _)); refine blk_put (cs := #[.int .i64 ((rd_T31 l0_1 x28_1).f0), .int .i64 ((rd_T31 l0_1 x28_1).f1), .int .i64 ((rd_T31 l0_1 x28_1).f2), .int .i64 ((rd_T31 l0_1 x28_1).f3), .int .i64 0]) ?_ 4 _ rfl; (with_reducible repeat (first | refine blk_drewN ?_ _ | refine blk_drew ?_ | refine blk_alloc ?_ _)); refine blk_put (cs := #[.int .i64 ((rd_T31 l0_1 x28_1).f0), .int .i64 ((rd_T31 l0_1 x28_1).f1), .int .i64 ((rd_T31 l0_1 x28_1).f2), .int .i64 0, .int .i64 0]) ?_ 3 _ rfl; (with_reducible repeat (first | refine blk_drewN ?_ _ | refine blk_drew ?_ | refine blk_alloc ?_ _)); refine blk_put (cs := #[.int .i64 ((rd_T31 l0_1 x28_1).f0), .int .i64 ((rd_T31 l0_1 x28_1).f1), .int .i64 0, .int .i64 0, .int .i64 0]) ?_ 2 _ rfl; (with_reducible repeat (first | refine blk_drewN ?_ _ | refine blk_drew ?_ | refine blk_alloc ?_ _)); refine blk_put (cs := #[.int .i64 ((rd_T31 l0_1 x28_1).f0), .int .i64 0, .int .i64 0, .int .i64 0, .int .i64 0]) ?_ 1 _ rfl; (with_reducible repeat (first | refine blk_drewN ?_ _ | refine blk_drew ?_ | refine blk_alloc ?_ _)); refine blk_put (cs := #[.int .i64 0, .int .i64 0, .int .i64 0, .int .i64 0, .int .i64 0]) ?_ 0 _ rfl; (with_reducible repeat (first | refine blk_drewN ?_ _ | refine blk_drew ?_ | refine blk_alloc ?_ _)); exact BK907.out) hg (Kd.R_ne HO_8.out BK907.out (by decide))); have n3_ := Aside0.mk (hb); have n4_ := Aside0.mk (ho); clear HO_7; clear BK895; clear BK907; clear HB; clear HO_8; have HO_7 := n0_; have BK895 := n1_; have BK907 := n2_; have HB := n3_; have HO912 := n4_; clear n0_ n1_ n2_ n3_ n4_; clear ho hb hg hat))
            go_roundg k1
            case measure => have := HK1.out; omega
            case rel => exact ⟨(y910), (wrap64 (x28_1 + 1)), (by first | rfl | (simp; done) | (simp [*]; done)), H', ⟨by have := HK1.out; omega⟩, ⟨by (with_reducible repeat (first | apply Kd.R_alloc | apply Kd.R_drewN | apply Kd.R_drew)); exact Kd.R_mono HO_7.out (fun _ hk => hk.2)⟩, ⟨rk HO912⟩, ⟨bk BK895⟩, ⟨bl2 HB GE895 GE907⟩⟩
           ·rw [if_neg c28] at H
            exact absurd H (by simp)
          ·replace c26 := Bool.eq_false_iff.mpr c26
           subst c26
           rw [if_neg (show ¬ (false = true) by decide)] at H
           by_cases c34 : x8_1.length < 17592186044416
           ·rw [if_pos c34] at H
            have LMc34 := Aside0.mk c34
            clear c34
            obtain ⟨y913, hy913⟩ : ∃ y_ : List Int, y_ = (x8_1 ++ [(-1)]) := ⟨_, rfl⟩
            replace H : (impl_ReachArcs.l0 k1 a2 t900 y913 l0_1 (l0_1.length : Int) (wrap64 (x28_1 + 1))) = some r := by first | (rw [hy913]; with_reducible exact H) | (have H2_ := (Option.bind_some _ _).symm.trans H; rw [hy913]; with_reducible exact H2_) | (have H2_ := (Option.bind_some _ _).symm.trans H; with_reducible exact H2_) | with_reducible exact H | (rw [hy913]; exact H) | exact H
            have Ny913 := Aside0.mk hy913
            clear hy913
            have H' := Aside0.mk H
            clear H
            have p906 : 0 ≤ (x28_1 : Int) := oT (by first | (with_reducible assumption) | assumption)
            have q906 : x28_1 < (l0_1.length : Int) := oT (by first | (with_reducible assumption) | assumption)
            obtain ⟨ad906, e906, hx906_0, hx906_1, hx906_2, hx906_3, hx906_4⟩ := at_T31 HR0_1.out x28_1 p906 q906
            cases e906
            replace hx906_0 := hcb HB.out hx906_0
            replace hx906_1 := hcb HB.out hx906_1
            replace hx906_2 := hcb HB.out hx906_2
            replace hx906_3 := hcb HB.out hx906_3
            replace hx906_4 := hcb HB.out hx906_4
            replace p906 := eq_true p906
            replace q906 := eq_true q906
            go_wp2_with (first | ((with_reducible refine gate_dst (N := 10) rfl ?_); refine box_event ?hg (N := 10) ?hd (cs := #[.int .i64 0, .int .i64 0, .int .i64 0, .int .i64 0, .int .i64 0]) (t := 31) ?hr ?_; (case hd => rfl); (case hg => rfl); (case hr => first | (go_simp; done) | (go_simp; rfl)); intro gb907 hg w35 hbox hb; have n0_ := Aside0.mk (Kd.R_below (rk HO_7) hb); have n1_ := Aside0.mk (Kd.R_below (rk HO_8) hb); have n2_ := Aside0.mk (blk_below (bk BK895) hb); have n3_ := Aside0.mk (below_step (bl1 HB GE895) hb); have n4_ := Aside0.mk (hbox); have n5_ := Aside0.mk ((by rw [hg]; exact (below_size (bl1 HB GE895)) : w.heap.size ≤ gb907)); have n6_ := Aside0.mk ((by rw [hg]; exact (below_size (bl1 HB GE895)) : w.heap.size ≤ gb907)); have n7_ := Aside0.mk ((by rw [hg]; exact Nat.ne_of_lt (blk_lt (bk BK895)) : gb895 ≠ gb907)); have n8_ := Aside0.mk ((by rw [hg]; exact Nat.ne_of_gt (blk_lt (bk BK895)) : gb907 ≠ gb895)); clear HO_7; clear HO_8; clear BK895; clear HB; have HO_7 := n0_; have HO_8 := n1_; have BK895 := n2_; have HB := n3_; have BK907 := n4_; have GW907 := n5_; have GE907 := n6_; have NB895_907 := n7_; have NB907_895 := n8_; clear n0_ n1_ n2_ n3_ n4_ n5_ n6_ n7_ n8_; clear hb hbox hg; have hnb36 := NB907_895.out; have hnc36 := NB895_907.out; have hcz37_0 : w35.cell? ⟨gb907, 0, none⟩ = some (.int .i64 0) := (blk_cell BK907.out 0).trans rfl; have hcz37_1 : w35.cell? ⟨gb907, 1, none⟩ = some (.int .i64 0) := (blk_cell BK907.out 1).trans rfl; have hcz37_2 : w35.cell? ⟨gb907, 2, none⟩ = some (.int .i64 0) := (blk_cell BK907.out 2).trans rfl; have hcz37_3 : w35.cell? ⟨gb907, 3, none⟩ = some (.int .i64 0) := (blk_cell BK907.out 3).trans rfl; have hcz37_4 : w35.cell? ⟨gb907, 4, none⟩ = some (.int .i64 0) := (blk_cell BK907.out 4).trans rfl; have hfz37_0 := blk_frozen BK907.out 0; have hfz37_1 := blk_frozen BK907.out 1; have hfz37_2 := blk_frozen BK907.out 2; have hfz37_3 := blk_frozen BK907.out 3; have hfz37_4 := blk_frozen BK907.out 4; obtain ⟨Ao38, co38, eo38⟩ := Kd.R_slice HO_7.out; subst eo38; have p908 : 0 ≤ (((rd_T31 l0_1 x28_1).f0) : Int) := oT (by first | (with_reducible assumption) | assumption); have q908 : ((rd_T31 l0_1 x28_1).f0) < (t900.length : Int) := oT (by first | (with_reducible assumption) | assumption); obtain ⟨ad908, e908, hx908_0⟩ := Kd.at_int (Kd.R_reads' HO_7.out).2.2 ((rd_T31 l0_1 x28_1).f0) p908 q908; cases e908; have hn908_0 : ad908.block ≠ gb907 := Kd.own_blk (Kd.R_ne HO_7.out BK907.out (by decide)); have hn908_1 : ad908.block ≠ gb907 := Kd.own_blk (Kd.R_ne HO_7.out BK907.out (by decide)); have hn908_2 : ad908.block ≠ gb907 := Kd.own_blk (Kd.R_ne HO_7.out BK907.out (by decide)); have hn908_3 : ad908.block ≠ gb907 := Kd.own_blk (Kd.R_ne HO_7.out BK907.out (by decide)); have hn908_4 : ad908.block ≠ gb907 := Kd.own_blk (Kd.R_ne HO_7.out BK907.out (by decide)); replace hx908_0 := (cell_far (p := ⟨gb907, 0, none⟩) (by first | (rw [add_block]; exact hn908_0) | (show (Addr.add _ _).block ≠ _; rw [add_block]; exact hn908_0) | exact hn908_0) (.int .i64 ((rd_T31 l0_1 x28_1).f0))).trans hx908_0; replace hx908_0 := (cell_far (p := ⟨gb907, 1, none⟩) (by first | (rw [add_block]; exact hn908_1) | (show (Addr.add _ _).block ≠ _; rw [add_block]; exact hn908_1) | exact hn908_1) (.int .i64 ((rd_T31 l0_1 x28_1).f1))).trans hx908_0; replace hx908_0 := (cell_far (p := ⟨gb907, 2, none⟩) (by first | (rw [add_block]; exact hn908_2) | (show (Addr.add _ _).block ≠ _; rw [add_block]; exact hn908_2) | exact hn908_2) (.int .i64 ((rd_T31 l0_1 x28_1).f2))).trans hx908_0; replace hx908_0 := (cell_far (p := ⟨gb907, 3, none⟩) (by first | (rw [add_block]; exact hn908_3) | (show (Addr.add _ _).block ≠ _; rw [add_block]; exact hn908_3) | exact hn908_3) (.int .i64 ((rd_T31 l0_1 x28_1).f3))).trans hx908_0; replace hx908_0 := (cell_far (p := ⟨gb907, 4, none⟩) (by first | (rw [add_block]; exact hn908_4) | (show (Addr.add _ _).block ≠ _; rw [add_block]; exact hn908_4) | exact hn908_4) (.int .i64 ((rd_T31 l0_1 x28_1).f4))).trans hx908_0; clear hn908_0; clear hn908_1; clear hn908_2; clear hn908_3; clear hn908_4; replace p908 := eq_true p908; replace q908 := eq_true q908) | ((with_reducible refine gate_callee (f := 99) rfl ?_); refine goesL_ (some 39) rfl rfl Try.func99 (by kernel_rfl) rfl #[.int .i64 (rd t900 ((rd_T31 l0_1 x28_1).f0)), .int .i64 a2] rfl (by (try simp only [List.map_toArray, List.map_cons, List.map_nil]); first | done | rfl | (simp only [List.length_drop, List.length_take]; rfl)) ?_; (with_reducible refine (impl_reached.calls (rd t900 ((rd_T31 l0_1 x28_1).f0)) a2 false _ A25.out).mono ?_); rintro e w' ⟨rfl, ⟨nd, rfl⟩⟩; refine ⟨_, rfl, ?_⟩) | ((with_reducible refine gate_builtin (b := .append) (xs := #[.tmp 46, .tmp 48]) rfl ?_); at_builtin; refine Kd.R_append (Kd.int .i64) (w0 := w) w.heap.size rfl (.tmp 46) (.tmp 48) 41 3 (.int .i64 0) 8 rfl Try.underlying41 info3 rfl (by decide) (by omega) u8 x8_1 (-1) [.int .i64 (-1)] (fun k_ => some k_ ≠ (.slice (some ad908) t900.length co38 : Value).ownBlock) (fun _ => False) rfl (by first | (go_simp; done) | (go_simp; rfl)) ?aP (fun _ hk => hk.elim) ?aF ?aO ?aB ?aS ?aL ?_; (case aP => exact rfl); (case aB => exact (bl2 HB GE895 GE907)); (case aF => exact (fun k_ hk => Kd.fresh' (Kd.R_lt (by (with_reducible repeat (first | apply Kd.R_alloc | apply Kd.R_drewN | apply Kd.R_drew)); exact (Kd.R_mono (Kd.R_far (p := ⟨gb907, 4, none⟩) (Kd.R_far (p := ⟨gb907, 3, none⟩) (Kd.R_far (p := ⟨gb907, 2, none⟩) (Kd.R_far (p := ⟨gb907, 1, none⟩) (Kd.R_far (p := ⟨gb907, 0, none⟩) (Kd.R_types HO_7.out BK907.out (by decide)) (fun _ hk => hk.2) (.int .i64 ((rd_T31 l0_1 x28_1).f0))) (fun _ hk => hk.2) (.int .i64 ((rd_T31 l0_1 x28_1).f1))) (fun _ hk => hk.2) (.int .i64 ((rd_T31 l0_1 x28_1).f2))) (fun _ hk => hk.2) (.int .i64 ((rd_T31 l0_1 x28_1).f3))) (fun _ hk => hk.2) (.int .i64 ((rd_T31 l0_1 x28_1).f4))) (fun _ h_ => h_.1)))) k_ hk)); (case aO => exact (by (with_reducible repeat (first | apply Kd.R_alloc | apply Kd.R_drewN | apply Kd.R_drew)); exact Kd.R_mono (Kd.R_far (p := ⟨gb907, 4, none⟩) (Kd.R_far (p := ⟨gb907, 3, none⟩) (Kd.R_far (p := ⟨gb907, 2, none⟩) (Kd.R_far (p := ⟨gb907, 1, none⟩) (Kd.R_far (p := ⟨gb907, 0, none⟩) (Kd.R_types HO_8.out BK907.out (by decide)) (fun _ hk => hk.2) (.int .i64 ((rd_T31 l0_1 x28_1).f0))) (fun _ hk => hk.2) (.int .i64 ((rd_T31 l0_1 x28_1).f1))) (fun _ hk => hk.2) (.int .i64 ((rd_T31 l0_1 x28_1).f2))) (fun _ hk => hk.2) (.int .i64 ((rd_T31 l0_1 x28_1).f3))) (fun _ hk => hk.2) (.int .i64 ((rd_T31 l0_1 x28_1).f4))) (fun _ hk => hk.1))); (case aS => exact (below_size (bl2 HB GE895 GE907))); (case aL => have := LMc34.out; omega); intro v914 w39 ho hb hg hat; rw [← Ny913.out] at ho; have n0_ := Aside0.mk (Kd.R_after (ok := (fun _ => True)) (by (with_reducible repeat (first | apply Kd.R_alloc | apply Kd.R_drewN | apply Kd.R_drew)); exact Kd.R_mono (Kd.R_far (p := ⟨gb907, 4, none⟩) (Kd.R_far (p := ⟨gb907, 3, none⟩) (Kd.R_far (p := ⟨gb907, 2, none⟩) (Kd.R_far (p := ⟨gb907, 1, none⟩) (Kd.R_far (p := ⟨gb907, 0, none⟩) (Kd.R_types HO_7.out BK907.out (by decide)) (fun _ hk => hk.2) (.int .i64 ((rd_T31 l0_1 x28_1).f0))) (fun _ hk => hk.2) (.int .i64 ((rd_T31 l0_1 x28_1).f1))) (fun _ hk => hk.2) (.int .i64 ((rd_T31 l0_1 x28_1).f2))) (fun _ hk => hk.2) (.int .i64 ((rd_T31 l0_1 x28_1).f3))) (fun _ hk => hk.2) (.int .i64 ((rd_T31 l0_1 x28_1).f4))) (fun _ hk => ⟨trivial, hk.1⟩)) hg hat); have n1_ := Aside0.mk (blk_grown (g := gb895) (o := .cells #[.int .i64 a0_0, .slice (some ad906) l0_1.length c0_1] 25 (0, 0)) (by (with_reducible repeat (first | refine blk_drewN ?_ _ | refine blk_drew ?_ | refine blk_alloc ?_ _)); refine blk_far ?_ NB895_907.out _; (with_reducible repeat (first | refine blk_drewN ?_ _ | refine blk_drew ?_ | refine blk_alloc ?_ _)); refine blk_far ?_ NB895_907.out _; (with_reducible repeat (first | refine blk_drewN ?_ _ | refine blk_drew ?_ | refine blk_alloc ?_ _)); refine blk_far ?_ NB895_907.out _; (with_reducible repeat (first | refine blk_drewN ?_ _ | refine blk_drew ?_ | refine blk_alloc ?_ _)); refine blk_far ?_ NB895_907.out _; (with_reducible repeat (first | refine blk_drewN ?_ _ | refine blk_drew ?_ | refine blk_alloc ?_ _)); refine blk_far ?_ NB895_907.out _; (with_reducible repeat (first | refine blk_drewN ?_ _ | refine blk_drew ?_ | refine blk_alloc ?_ _)); exact BK895.out) hg (Kd.R_ne HO_8.out BK895.out (by decide))); have n2_ := Aside0.mk (blk_grown (g := gb907) (o := .cells #[.int .i64 ((rd_T31 l0_1 x28_1).f0), .int .i64 ((rd_T31 l0_1 x28_1).f1), .int .i64 ((rd_T31 l0_1 x28_1).f2), .int .i64 ((rd_T31 l0_1 x28_1).f3), .int .i64 ((rd_T31 l0_1 x28_1).f4)] 31 (0, 0)) (by (with_reducible repeat (first | refine blk_drewN ?_ _ | refine blk_drew ?_ | refine blk_alloc ?_ _)); refine blk_put (cs := #[.int .i64 ((rd_T31 l0_1 x28_1).f0), .int .i64 ((rd_T31 l0_1 x28_1).f1), .int .i64 ((rd_T31 l0_1 x28_1).f2), .int .i64 ((rd_T31 l0_1 x28_1).f3), .int .i64 0]) ?_ 4 _ rfl; (with_reducible repeat (first | refine blk_drewN ?_ _ | refine blk_drew ?_ | refine blk_alloc ?_ _)); refine blk_put (cs := #[.int .i64 ((rd_T31 l0_1 x28_1).f0), .int .i64 ((rd_T31 l0_1 x28_1).f1), .int .i64 ((rd_T31 l0_1 x28_1).f2), .int .i64 0, .int .i64 0]) ?_ 3 _ rfl; (with_reducible repeat (first | refine blk_drewN ?_ _ | refine blk_drew ?_ | refine blk_alloc ?_ _)); refine blk_put (cs := #[.int .i64 ((rd_T31 l0_1 x28_1).f0), .int .i64 ((rd_T31 l0_1 x28_1).f1), .int .i64 0, .int .i64 0, .int .i64 0]) ?_ 2 _ rfl; (with_reducible repeat (first | refine blk_drewN ?_ _ | refine blk_drew ?_ | refine blk_alloc ?_ _)); refine blk_put (cs := #[.int .i64 ((rd_T31 l0_1 x28_1).f0), .int .i64 0, .int .i64 0, .int .i64 0, .int .i64 0]) ?_ 1 _ rfl; (with_reducible repeat (first | refine blk_drewN ?_ _ | refine blk_drew ?_ | refine blk_alloc ?_ _)); refine blk_put (cs := #[.int .i64 0, .int .i64 0, .int .i64 0, .int .i64 0, .int .i64 0]) ?_ 0 _ rfl; (with_reducible repeat (first | refine blk_drewN ?_ _ | refine blk_drew ?_ | refine blk_alloc ?_ _)); exact BK907.out) hg (Kd.R_ne HO_8.out BK907.out (by decide))); have n3_ := Aside0.mk (hb); have n4_ := Aside0.mk (ho); clear HO_7; clear BK895; clear BK907; clear HB; clear HO_8; have HO_7 := n0_; have BK895 := n1_; have BK907 := n2_; have HB := n3_; have HO915 := n4_; clear n0_ n1_ n2_ n3_ n4_; clear ho hb hg hat))
            go_roundg k1
            case measure => have := HK1.out; omega
            case rel => exact ⟨(y913), (wrap64 (x28_1 + 1)), (by first | rfl | (simp; done) | (simp [*]; done)), H', ⟨by have := HK1.out; omega⟩, ⟨by (with_reducible repeat (first | apply Kd.R_alloc | apply Kd.R_drewN | apply Kd.R_drew)); exact Kd.R_mono HO_7.out (fun _ hk => hk.2)⟩, ⟨rk HO915⟩, ⟨bk BK895⟩, ⟨bl2 HB GE895 GE907⟩⟩
           ·rw [if_neg c34] at H
            exact absurd H (by simp)
         ·rw [if_neg c24] at H
          exact absurd H (by simp)
        ·rw [if_neg c23] at H
         exact absurd H (by simp)
       ·rw [if_neg c22] at H
        exact absurd H (by simp)
      ·rw [if_neg c21] at H
       exact absurd H (by simp)
     ·rw [if_neg c20] at H
      have c20b0 : decide (x28_1 < (l0_1.length : Int)) = false := decide_eq_false c20
      clear c20
      obtain rfl := Option.some.inj H
      go_wp2
      go_ret
      exact ⟨_, by first | rfl | (simp [errW_none, errW_some] <;> rfl) | (simp [*, errW_none, errW_some] <;> rfl), by (with_reducible repeat (first | apply Kd.R_alloc | apply Kd.R_drewN | apply Kd.R_drew)); exact Kd.R_mono HO_8.out (fun _ hk => trivial), bl1 HB GE895⟩
  ·rw [if_neg c7] at H
   exact absurd H (by simp)
 ·replace c5 := Bool.eq_false_iff.mpr c5
  subst c5
  rw [if_neg (show ¬ (false = true) by decide)] at H
  obtain rfl := Option.some.inj H
  go_enter Try.func50, Try.ntmps50
  go_wp2_with (first | ((with_reducible refine gate_dst (N := 3) rfl ?_); refine box_event ?hg (N := 3) ?hd (cs := #[.int .i64 a0_0, .slice A0_1 l0_1.length c0_1]) (t := 25) ?hr ?_; (case hd => rfl); (case hg => rfl); (case hr => first | (go_simp; done) | (go_simp; rfl)); intro gb895 hg w40 hbox hb; have n0_ := Aside0.mk (below_step (bl HB) hb); have n1_ := Aside0.mk (hbox); have n2_ := Aside0.mk ((by rw [hg]; exact (below_size (bl HB)) : w.heap.size ≤ gb895)); have n3_ := Aside0.mk ((by rw [hg]; exact (below_size (bl HB)) : w.heap.size ≤ gb895)); clear HB; have HB := n0_; have BK895 := n1_; have GW895 := n2_; have GE895 := n3_; clear n0_ n1_ n2_ n3_; clear hb hbox hg; have hcz41_0 : w40.cell? ⟨gb895, 0, none⟩ = some (.int .i64 a0_0) := (blk_cell BK895.out 0).trans rfl; have hcz41_1 : w40.cell? ⟨gb895, 1, none⟩ = some (.slice A0_1 l0_1.length c0_1) := (blk_cell BK895.out 1).trans rfl; have hfz41_0 := blk_frozen BK895.out 0; have hfz41_1 := blk_frozen BK895.out 1) | ((with_reducible refine gate_dst (N := 15) rfl ?_); refine Kd.R_lit (Kd.int .i64) _ 3 ?hg (N := 15) ?hd (xs := ([a1] : List Int)) (inner := [.int .i64 a1]) (ok := fun _ => True) (okp := fun _ => True) ?hr ?hp (fun _ hk => hk) trivial (Below.refl _ _) (Nat.le_refl _) (by simp) ?_; (case hd => rfl); (case hg => rfl); (case hr => first | (go_simp; done) | (go_simp; rfl)); (case hp => exact (Reps.one (show Kd.M (Kd.int .i64) _ _ _ a1 [.int .i64 a1] from rfl) (Reps.none _ _))); intro v897 w42 ho43 hb hg_ hnew_; clear hg_ hnew_; (first | rw [← Ny896.out] at ho43 | (simp only [Int.reduceToNat] at ho43; rw [← Ny896.out] at ho43)); have n0_ := Aside0.mk (Kd.R_lower ho43 (below_size (bl1 HB GE895))); have n1_ := Aside0.mk (blk_below (bk BK895) hb); have n2_ := Aside0.mk (below_step (bl1 HB GE895) hb); clear BK895; clear HB; have HO898 := n0_; have BK895 := n1_; have HB := n2_; clear n0_ n1_ n2_; clear hb ho43; obtain ⟨Ao44, co44, eo44⟩ := Kd.R_slice HO898.out; subst eo44) | ((with_reducible refine gate_callee (f := 91) rfl ?_); refine goesL_ (some 16) rfl rfl Try.func91 (by kernel_rfl) rfl #[.agg #[.int .i64 a0_0, .slice A0_1 l0_1.length c0_1], .slice Ao44 y896.length co44] rfl (by (try simp only [List.map_toArray, List.map_cons, List.map_nil]); first | done | rfl | (simp only [List.length_drop, List.length_take]; rfl)) ?_; (with_reducible refine (impl_nodesIn.calls a0_0 _ _ l0_1 _ _ y896 false _ ?side1 ?side2 ?side3 ?side4 A4.out).mono ?_); (case side1 => repeat (first | exact (Kd.C_below HR0_1.out HB.out) | (with_reducible refine Kd.C_alloc ?_ _) | (with_reducible refine Kd.C_drewN ?_ _) | (with_reducible refine Kd.C_drew ?_))); (case side2 => exact HC0_1.out); (case side3 => repeat (first | exact (Kd.R_reads' HO898.out).2.2 | (with_reducible refine Kd.C_alloc ?_ _) | (with_reducible refine Kd.C_drewN ?_ _) | (with_reducible refine Kd.C_drew ?_))); (case side4 => exact (Kd.R_reads' HO898.out).2.1); rintro e w45 ⟨rfl, hb⟩; refine ⟨_, rfl, ?_⟩; have n0_ := Aside0.mk (Kd.R_below (rk HO898) hb); have n1_ := Aside0.mk (blk_below (bk BK895) hb); have n2_ := Aside0.mk (below_step (bl1 HB GE895) hb); clear HO898; clear BK895; clear HB; have HO898 := n0_; have BK895 := n1_; have HB := n2_; clear n0_ n1_ n2_; (try clear hb); (try clear hb2); (try clear hk); (try clear hi)))
  go_ret
  exact ⟨_, by first | rfl | (simp [errW_none, errW_some] <;> rfl) | (simp [*, errW_none, errW_some] <;> rfl), by first | exact Kd.R_nil _ _ _ _ _ | exact Kd.N_nil _ _ _ _ _ | exact Kd.V_nil _ _ _ _ _ | exact Kd.Q_nil _ _ _ _ _ | exact Kd.S_nil _ _ _ _ _, bl1 HB GE895⟩

end Go.Proofs.Ythgihpbpebbebaa.F
