-- Printed by wip/px/px.py of this claim's repository (the kit's printer, extended there). Lean checks it.
import Derived.Test.YthgihpbpebbebaaFKinds
import Derived.Test.YthgihpbpebbebaaFimplNetOk
import Derived.Test.YthgihpbpebbebaaFimplNear
namespace Go.Proofs.Ythgihpbpebbebaa.F
open Go.RowKit Go.Proofs.YthgihpbpebbebaaW.PrintWords Go.Proofs.YthgihpbpebbebaaW.PrintLast Go.Proofs.YthgihpbpebbebaaW.PrintMore
attribute [local go_sem] max2_int min2_int max_two min_two max_three min_three max_four min_four   -- for this text's walks alone
set_option linter.unusedVariables false
set_option linter.unusedSimpArgs false

/-! ### impl_ReachParts: function 43 -/
mutual
def impl_ReachParts.l0 : Nat → List (List Int) → List Int → Int → Int → Option (List Int)
 | 0, _, _, _, _ => none
 | k + 1, x3, x4, x16, x17 => if x17 < x16 then (impl_ReachParts.l1 k x3 x4 x17 0 x16 x17) else (some x4)
def impl_ReachParts.l1 : Nat → List (List Int) → List Int → Int → Int → Int → Int → Option (List Int)
 | 0, _, _, _, _, _, _ => none
 | k + 1, x3, x4, x5, x6, x16, x17 => if 0 ≤ x6 then (if x6 < (x3.length : Int) then (if 0 ≤ x5 then (if x5 < ((rd_L5 x3 x6).length : Int) then (if (rd (rd_L5 x3 x6) x5) = 99999 then (impl_ReachParts.l1 k x3 x4 x5 (wrap64 (x6 + 1)) x16 x17) else (if x5 < (x3.length : Int) then (if x6 < ((rd_L5 x3 x5).length : Int) then (if (rd (rd_L5 x3 x5) x6) = 99999 then (impl_ReachParts.l1 k x3 x4 x5 (wrap64 (x6 + 1)) x16 x17) else (if x4.length < 17592186044416 then (impl_ReachParts.l0 k x3 (x4 ++ [x6]) x16 (wrap64 (x17 + 1))) else (none))) else (none)) else (none))) else (none)) else (none)) else (none)) else (none)
end
def impl_ReachParts.f (k : Nat) (a0_0 : Int) (l0_1 : List (S31)) : Option (List Int) := (impl_NetOk.f a0_0 l0_1).bind fun t737 => (if t737 = true then ((impl_Net_table.f k a0_0 l0_1).bind fun t738 => (if 0 ≤ a0_0 then (if (a0_0 : Int).toNat ≤ 35184372088832 then (impl_ReachParts.l0 k t738 (([] : List Int)) a0_0 0) else (none)) else (none))) else (some ([] : List Int)))
theorem impl_ReachParts.mono_l : ∀ k, (∀ y0 y1 y2 y3, LeO (impl_ReachParts.l0 k y0 y1 y2 y3) (impl_ReachParts.l0 (k + 1) y0 y1 y2 y3)) ∧ (∀ y0 y1 y2 y3 y4 y5, LeO (impl_ReachParts.l1 k y0 y1 y2 y3 y4 y5) (impl_ReachParts.l1 (k + 1) y0 y1 y2 y3 y4 y5))
 | 0 => ⟨fun _ _ _ _ r h => by simp [impl_ReachParts.l0] at h, fun _ _ _ _ _ _ r h => by simp [impl_ReachParts.l1] at h⟩
 | k + 1 => by
  obtain ⟨ih0, ih1⟩ := impl_ReachParts.mono_l k
  refine ⟨?_, ?_⟩
  ·intro y0 y1 y2 y3
   unfold impl_ReachParts.l0
   repeat' first
   | (with_reducible exact ih0 _ _ _ _)
   | (with_reducible exact ih1 _ _ _ _ _ _)
   | (with_reducible exact impl_Net_table.mono _ _ _)
   | (with_reducible exact LeO.refl _)
   | (with_reducible exact LeO.none _)
   | (with_reducible refine LeO.ite ?_ ?_)
   | (with_reducible refine LeO.bind ?_ (fun _ => ?_))
   | exact ih0 _ _ _ _
   | exact ih1 _ _ _ _ _ _
   | exact impl_Net_table.mono _ _ _
   | exact LeO.none _
   | refine LeO.ite ?_ ?_
   | refine LeO.bind ?_ (fun _ => ?_)
  ·intro y0 y1 y2 y3 y4 y5
   unfold impl_ReachParts.l1
   repeat' first
   | (with_reducible exact ih0 _ _ _ _)
   | (with_reducible exact ih1 _ _ _ _ _ _)
   | (with_reducible exact impl_Net_table.mono _ _ _)
   | (with_reducible exact LeO.refl _)
   | (with_reducible exact LeO.none _)
   | (with_reducible refine LeO.ite ?_ ?_)
   | (with_reducible refine LeO.bind ?_ (fun _ => ?_))
   | exact ih0 _ _ _ _
   | exact ih1 _ _ _ _ _ _
   | exact impl_Net_table.mono _ _ _
   | exact LeO.none _
   | refine LeO.ite ?_ ?_
   | refine LeO.bind ?_ (fun _ => ?_)
theorem impl_ReachParts.mono : ∀ a0 a1 k, LeO (impl_ReachParts.f k a0 a1) (impl_ReachParts.f (k + 1) a0 a1) := by
 intro a0 a1 k
 obtain ⟨ih0, ih1⟩ := impl_ReachParts.mono_l k
 unfold impl_ReachParts.f
 repeat' first
   | (with_reducible exact ih0 _ _ _ _)
   | (with_reducible exact ih1 _ _ _ _ _ _)
   | (with_reducible exact impl_Net_table.mono _ _ _)
   | (with_reducible exact LeO.refl _)
   | (with_reducible exact LeO.none _)
   | (with_reducible refine LeO.ite ?_ ?_)
   | (with_reducible refine LeO.bind ?_ (fun _ => ?_))
   | exact ih0 _ _ _ _
   | exact ih1 _ _ _ _ _ _
   | exact impl_Net_table.mono _ _ _
   | exact LeO.none _
   | refine LeO.ite ?_ ?_
   | refine LeO.bind ?_ (fun _ => ?_)
set_option maxHeartbeats 8000000 in
set_option maxRecDepth 100000 in
theorem impl_ReachParts.calls (k : Nat) (a0_0 : Int) (A0_1 : Option Addr) (c0_1 : Nat) (l0_1 : List (S31)) (r : List Int) (w : World) (hr0_1 : Kd.C k31 w A0_1 l0_1.length l0_1) (hc0_1 : l0_1.length ≤ c0_1) (h : impl_ReachParts.f k a0_0 l0_1 = some r) :
  Calls Try.prog 43 #[.agg #[.int .i64 a0_0, .slice A0_1 l0_1.length c0_1]] w fun e w' => ∃ v0_ : Value, e = .returned (v0_) ∧ Kd.R (Kd.int .i64) 3 w' w.heap.size (fun _ => True) v0_ r ∧ Below w.heap.size w w' := by
 have hu25 := Try.underlying25
 have HR0_1 := Aside0.mk hr0_1
 have HC0_1 := Aside0.mk hc0_1
 clear hr0_1 hc0_1
 have HB := Aside0.mk (Below.refl w.heap.size w)
 have H : ((impl_NetOk.f a0_0 l0_1).bind fun t737 => (if t737 = true then ((impl_Net_table.f k a0_0 l0_1).bind fun t738 => (if 0 ≤ a0_0 then (if (a0_0 : Int).toNat ≤ 35184372088832 then (impl_ReachParts.l0 k t738 (([] : List Int)) a0_0 0) else (none)) else (none))) else (some ([] : List Int)))) = some r := h
 clear h
 replace H := Option.bind_eq_some_iff.mp H
 obtain ⟨t737, A20, H⟩ := H
 have A2 := Aside0.mk A20
 clear A20
 by_cases c3 : t737 = true
 ·subst c3
  rw [if_pos rfl] at H
  replace H := Option.bind_eq_some_iff.mp H
  obtain ⟨t738, A40, H⟩ := H
  have A4 := Aside0.mk A40
  clear A40
  by_cases c5 : 0 ≤ a0_0
  ·rw [if_pos c5] at H
   have c5b0 := eq_true c5
   have c5b1 : decide (0 ≤ a0_0) = true := decide_eq_true c5
   clear c5
   by_cases c6 : (a0_0 : Int).toNat ≤ 35184372088832
   ·rw [if_pos c6] at H
    have c6b0 := eq_true c6
    have c6b1 : decide ((a0_0 : Int).toNat ≤ 35184372088832) = true := decide_eq_true c6
    clear c6
    obtain ⟨y741, hy741⟩ : ∃ y_ : List Int, y_ = (([] : List Int)) := ⟨_, rfl⟩
    replace H : (impl_ReachParts.l0 k t738 y741 a0_0 0) = some r := by first | (rw [hy741]; with_reducible exact H) | (have H2_ := (Option.bind_some _ _).symm.trans H; rw [hy741]; with_reducible exact H2_) | (have H2_ := (Option.bind_some _ _).symm.trans H; with_reducible exact H2_) | with_reducible exact H | (rw [hy741]; exact H) | exact H
    have Ny741 := Aside0.mk hy741
    clear hy741
    have H' := Aside0.mk H
    clear H
    go_enter Try.func43, Try.ntmps43
    go_wp2_with (first | ((with_reducible refine gate_dst (N := 1) rfl ?_); refine box_event ?hg (N := 1) ?hd (cs := #[.int .i64 a0_0, .slice A0_1 l0_1.length c0_1]) (t := 25) ?hr ?_; (case hd => rfl); (case hg => rfl); (case hr => first | (go_simp; done) | (go_simp; rfl)); intro gb736 hg w7 hbox hb; have n0_ := Aside0.mk (below_step (bl HB) hb); have n1_ := Aside0.mk (hbox); have n2_ := Aside0.mk ((by rw [hg]; exact (below_size (bl HB)) : w.heap.size ≤ gb736)); have n3_ := Aside0.mk ((by rw [hg]; exact (below_size (bl HB)) : w.heap.size ≤ gb736)); clear HB; have HB := n0_; have BK736 := n1_; have GW736 := n2_; have GE736 := n3_; clear n0_ n1_ n2_ n3_; clear hb hbox hg; have hcz8_0 : w7.cell? ⟨gb736, 0, none⟩ = some (.int .i64 a0_0) := (blk_cell BK736.out 0).trans rfl; have hcz8_1 : w7.cell? ⟨gb736, 1, none⟩ = some (.slice A0_1 l0_1.length c0_1) := (blk_cell BK736.out 1).trans rfl; have hfz8_0 := blk_frozen BK736.out 0; have hfz8_1 := blk_frozen BK736.out 1) | ((with_reducible refine gate_callee (f := 19) rfl ?_); refine goesL_ (some 8) rfl rfl Try.func19 (by kernel_rfl) rfl #[.agg #[.int .i64 a0_0, .slice A0_1 l0_1.length c0_1]] rfl (by (try simp only [List.map_toArray, List.map_cons, List.map_nil]); first | done | rfl | (simp only [List.length_drop, List.length_take]; rfl)) ?_; (with_reducible refine (impl_NetOk.calls a0_0 _ _ l0_1 true _ ?side1 ?side2 A2.out).mono ?_); (case side1 => repeat (first | exact (Kd.C_below HR0_1.out HB.out) | (with_reducible refine Kd.C_alloc ?_ _) | (with_reducible refine Kd.C_drewN ?_ _) | (with_reducible refine Kd.C_drew ?_))); (case side2 => exact HC0_1.out); rintro e w9 ⟨rfl, hb⟩; refine ⟨_, rfl, ?_⟩; have n0_ := Aside0.mk (blk_below (bk BK736) hb); have n1_ := Aside0.mk (below_step (bl1 HB GE736) hb); clear BK736; clear HB; have BK736 := n0_; have HB := n1_; clear n0_ n1_; (try clear hb); (try clear hb2); (try clear hk); (try clear hi); have hcz10_0 : w9.cell? ⟨gb736, 0, none⟩ = some (.int .i64 a0_0) := (blk_cell BK736.out 0).trans rfl; have hcz10_1 : w9.cell? ⟨gb736, 1, none⟩ = some (.slice A0_1 l0_1.length c0_1) := (blk_cell BK736.out 1).trans rfl; have hfz10_0 := blk_frozen BK736.out 0; have hfz10_1 := blk_frozen BK736.out 1) | ((with_reducible refine gate_callee (f := 93) rfl ?_); refine goesL_ (some 11) rfl rfl Try.func93 (by kernel_rfl) rfl #[.agg #[.int .i64 a0_0, .slice A0_1 l0_1.length c0_1]] rfl (by (try simp only [List.map_toArray, List.map_cons, List.map_nil]); first | done | rfl | (simp only [List.length_drop, List.length_take]; rfl)) ?_; (with_reducible refine (impl_Net_table.calls k a0_0 _ _ l0_1 t738 _ ?side1 ?side2 A4.out).mono ?_); (case side1 => repeat (first | exact (Kd.C_below HR0_1.out HB.out) | (with_reducible refine Kd.C_alloc ?_ _) | (with_reducible refine Kd.C_drewN ?_ _) | (with_reducible refine Kd.C_drew ?_))); (case side2 => exact HC0_1.out); rintro e w11 ⟨v739, rfl, ho0, hb⟩; refine ⟨_, rfl, ?_⟩; have n0_ := Aside0.mk (Kd.S_lower ho0 (below_size (bl1 HB GE736))); have n1_ := Aside0.mk (blk_below (bk BK736) hb); have n2_ := Aside0.mk (below_step (bl1 HB GE736) hb); clear BK736; clear HB; have HO740 := n0_; have BK736 := n1_; have HB := n2_; clear n0_ n1_ n2_; (try clear hb); (try clear hb2); (try clear hk); (try clear hi); (try clear ho0); have hcz12_0 : w11.cell? ⟨gb736, 0, none⟩ = some (.int .i64 a0_0) := (blk_cell BK736.out 0).trans rfl; have hcz12_1 : w11.cell? ⟨gb736, 1, none⟩ = some (.slice A0_1 l0_1.length c0_1) := (blk_cell BK736.out 1).trans rfl; have hfz12_0 := blk_frozen BK736.out 0; have hfz12_1 := blk_frozen BK736.out 1) | ((with_reducible refine gate_dst (N := 14) rfl ?_); refine Kd.R_make0 (Kd.int .i64) _ 3 rfl (N := 14) rfl 41 _ _ rfl a0_0 rfl rfl Try.underlying41 (.int .i64 0) 8 info3 (by decide) (ok := fun _ => True) trivial (oT (by first | (with_reducible assumption) | assumption)) (Nat.le_trans (Nat.mul_le_mul_right _ (oT (by first | (with_reducible assumption) | assumption) : a0_0.toNat ≤ 35184372088832)) (by omega)) (Below.refl _ _) (Nat.le_refl _) ?_; intro v742 w13 ho14 hb hg_ hnew_; clear hg_ hnew_; (first | rw [← Ny741.out] at ho14 | (simp only [Int.reduceToNat] at ho14; rw [← Ny741.out] at ho14)); have n0_ := Aside0.mk (Kd.S_elder' (by (with_reducible repeat (first | apply Kd.S_alloc | apply Kd.S_drewN | apply Kd.S_drew)); exact HO740.out) (Kd.R_base ho14) hb); have n1_ := Aside0.mk (Kd.R_lower ho14 (below_size (bl1 HB GE736))); have n2_ := Aside0.mk (blk_below (bk BK736) hb); have n3_ := Aside0.mk (below_step (bl1 HB GE736) hb); clear HO740; clear BK736; clear HB; have HO740 := n0_; have HO743 := n1_; have BK736 := n2_; have HB := n3_; clear n0_ n1_ n2_ n3_; clear hb ho14; have hcz15_0 : w13.cell? ⟨gb736, 0, none⟩ = some (.int .i64 a0_0) := (blk_cell BK736.out 0).trans rfl; have hcz15_1 : w13.cell? ⟨gb736, 1, none⟩ = some (.slice A0_1 l0_1.length c0_1) := (blk_cell BK736.out 1).trans rfl; have hfz15_0 := blk_frozen BK736.out 0; have hfz15_1 := blk_frozen BK736.out 1))
    go_loopg [4, 17] k (fun kq v4 v17 w' => ∃ (x4_1 : List Int) (x17_1 : Int), v17 = .int .i64 x17_1 ∧ Aside0 (impl_ReachParts.l0 kq t738 x4_1 a0_0 x17_1 = some r) ∧ Aside0 (kq ≤ k) ∧ Aside0 (Kd.S (Kd.slice 3 (Kd.int .i64)) 41 w' w.heap.size (fun k_ => some k_ ≠ (v4 : Value).ownBlock) v739 t738) ∧ Aside0 (Kd.R (Kd.int .i64) 3 w' w.heap.size (fun _ => True) v4 x4_1) ∧ Aside0 (w'.heap[gb736]? = some (.cells #[.int .i64 a0_0, (.slice A0_1 l0_1.length c0_1)] 25 (0, 0))) ∧ Aside0 (Below w.heap.size w w'))
    case atStart => exact ⟨(y741), (0), (by first | rfl | (simp; done) | (simp [*]; done)), H', ⟨Nat.le_refl _⟩, ⟨by (with_reducible repeat (first | apply Kd.S_alloc | apply Kd.S_drewN | apply Kd.S_drew)); exact Kd.S_mono HO740.out (fun _ hk => hk.2)⟩, ⟨rk HO743⟩, ⟨bk BK736⟩, ⟨bl1 HB GE736⟩⟩
    case round =>
     clear H'
     try clear c1
     try clear p2
     try clear c3
     try clear c4
     try clear c5
     try clear c5b0
     try clear c5b1
     try clear c6
     try clear c6b0
     try clear c6b1
     try clear c9
     try clear hcz10_0
     try clear hcz10_1
     try clear hcz12_0
     try clear hcz12_1
     try clear hcz15_0
     try clear hcz15_1
     try clear hcz8_0
     try clear hcz8_1
     try clear hfz10_0
     try clear hfz10_1
     try clear hfz12_0
     try clear hfz12_1
     try clear hfz15_0
     try clear hfz15_1
     try clear hfz8_0
     try clear hfz8_1
     obtain ⟨x4_1, x17_1, rfl, HA, HK1, HO_3, HO_4, BK736, HB⟩ := hrel
     cases gk with
     | zero => exact absurd HA.out (by simp [impl_ReachParts.l0])
     | succ k1 =>
      have H := HA.out
      clear HA
      simp only [impl_ReachParts.l0] at H
      by_cases c16 : x17_1 < a0_0
      ·rw [if_pos c16] at H
       have c16b0 : decide (x17_1 < a0_0) = true := decide_eq_true c16
       clear c16
       have H' := Aside0.mk H
       clear H
       go_wp2
       go_loopg [6] k1 (fun kq v6 w' => ∃ (x6_2 : Int), v6 = .int .i64 x6_2 ∧ Aside0 (impl_ReachParts.l1 kq t738 x4_1 x17_1 x6_2 a0_0 x17_1 = some r) ∧ Aside0 (kq ≤ k1) ∧ Aside0 (Kd.S (Kd.slice 3 (Kd.int .i64)) 41 w' w.heap.size (fun k_ => some k_ ≠ (u4 : Value).ownBlock) v739 t738) ∧ Aside0 (Kd.R (Kd.int .i64) 3 w' w.heap.size (fun _ => True) u4 x4_1) ∧ Aside0 (w'.heap[gb736]? = some (.cells #[.int .i64 a0_0, (.slice A0_1 l0_1.length c0_1)] 25 (0, 0))) ∧ Aside0 (Below w.heap.size w w'))
       case atStart => exact ⟨(0), (by first | rfl | (simp; done) | (simp [*]; done)), H', ⟨Nat.le_refl _⟩, ⟨by (with_reducible repeat (first | apply Kd.S_alloc | apply Kd.S_drewN | apply Kd.S_drew)); exact HO_3.out⟩, ⟨rk HO_4⟩, ⟨bk BK736⟩, ⟨bl1 HB GE736⟩⟩
       case round =>
        clear H'
        try clear c1
        try clear p2
        try clear c3
        try clear c4
        try clear c5
        try clear c5b0
        try clear c5b1
        try clear c6
        try clear c6b0
        try clear c6b1
        try clear c9
        try clear c16
        try clear c16b0
        try clear hcz10_0
        try clear hcz10_1
        try clear hcz12_0
        try clear hcz12_1
        try clear hcz15_0
        try clear hcz15_1
        try clear hcz8_0
        try clear hcz8_1
        try clear hfz10_0
        try clear hfz10_1
        try clear hfz12_0
        try clear hfz12_1
        try clear hfz15_0
        try clear hfz15_1
        try clear hfz8_0
        try clear hfz8_1
        try clear p2
        obtain ⟨x6_2, rfl, HA, HK2, HO_3, HO_4, BK736, HB⟩ := hrel
        cases gk with
        | zero => exact absurd HA.out (by simp [impl_ReachParts.l1])
        | succ k2 =>
         have H := HA.out
         clear HA
         simp only [impl_ReachParts.l1] at H
         by_cases c17 : 0 ≤ x6_2
         ·rw [if_pos c17] at H
          have c17b0 : decide (0 ≤ x6_2) = true := decide_eq_true c17
          clear c17
          by_cases c18 : x6_2 < (t738.length : Int)
          ·rw [if_pos c18] at H
           have c18b0 : decide (x6_2 < (t738.length : Int)) = true := decide_eq_true c18
           clear c18
           by_cases c19 : 0 ≤ x17_1
           ·rw [if_pos c19] at H
            have c19b0 : decide (0 ≤ x17_1) = true := decide_eq_true c19
            clear c19
            by_cases c20 : x17_1 < ((rd_L5 t738 x6_2).length : Int)
            ·rw [if_pos c20] at H
             have c20b0 : decide (x17_1 < ((rd_L5 t738 x6_2).length : Int)) = true := decide_eq_true c20
             clear c20
             by_cases c21 : (rd (rd_L5 t738 x6_2) x17_1) = 99999
             ·rw [if_pos c21] at H
              have c21b0 : ((rd (rd_L5 t738 x6_2) x17_1) == 99999) = true := beq_iff_eq.mpr c21
              have c21b1 : ((rd (rd_L5 t738 x6_2) x17_1) != 99999) = false := bne_eq_false_iff_eq.mpr c21
              clear c21
              have H' := Aside0.mk H
              clear H
              obtain ⟨Ao22, co22, eo22⟩ := Kd.S_slice HO_3.out
              subst eo22
              have p744 : 0 ≤ (x6_2 : Int) := oT (by first | (with_reducible assumption) | assumption)
              have q744 : x6_2 < (t738.length : Int) := oT (by first | (with_reducible assumption) | assumption)
              obtain ⟨ad744, A744_0, c744_0, e744, hx744_0, hl744_0, hi744_0⟩ := at_L5 (Kd.S_reads' HO_3.out).2.2 x6_2 p744 q744
              cases e744
              obtain ⟨ce744, hce744, hMe744, hcc744⟩ := Kd.S_get HO_3.out [] x6_2 p744 (by first | exact q744 | exact oT (by first | (with_reducible assumption) | assumption) | (have e_ := (Kd.S_reads' HO_3.out).1; omega))
              obtain ⟨ve744_0, rfl, ge744_0⟩ := hMe744
              have hv744_0 := hcc744 0 _ rfl
              rw [Nat.add_zero, show ((Kd.slice 3 (Kd.int .i64))).sz = 1 from rfl, Nat.mul_one] at hv744_0
              replace hv744_0 := Option.some.inj (hv744_0.symm.trans hx744_0)
              rw [hv744_0] at ge744_0
              have HL744_0 := Aside0.mk (show Kd.R (Kd.int .i64) 3 _ _ _ _ (rd_L5 t738 x6_2) from ge744_0)
              clear hv744_0 ge744_0
              clear hcc744 hce744
              have HR744_0 := Aside0.mk hi744_0
              have HC744_0 := Aside0.mk hl744_0
              clear hi744_0 hl744_0
              replace p744 := eq_true p744
              replace q744 := eq_true q744
              have p745 : 0 ≤ (x17_1 : Int) := oT (by first | (with_reducible assumption) | assumption)
              have q745 : x17_1 < ((rd_L5 t738 x6_2).length : Int) := oT (by first | (with_reducible assumption) | assumption)
              obtain ⟨ad745, e745, hx745_0⟩ := Kd.at_int (by repeat (first | (with_reducible exact HR744_0.out) | (with_reducible refine Kd.C_alloc ?_ _) | (with_reducible refine Kd.C_drewN ?_ _) | (with_reducible refine Kd.C_drew ?_) | exact HR744_0.out)) x17_1 p745 q745
              cases e745
              replace p745 := eq_true p745
              replace q745 := eq_true q745
              go_wp2
              go_roundg k2
              case measure => have := HK1.out; have := HK2.out; omega
              case rel => exact ⟨(wrap64 (x6_2 + 1)), (by first | rfl | (simp; done) | (simp [*]; done)), H', ⟨by have := HK1.out; have := HK2.out; omega⟩, ⟨by (with_reducible repeat (first | apply Kd.S_alloc | apply Kd.S_drewN | apply Kd.S_drew)); exact HO_3.out⟩, ⟨rk HO_4⟩, ⟨bk BK736⟩, ⟨bl1 HB GE736⟩⟩
             ·rw [if_neg c21] at H
              have c21b0 : ((rd (rd_L5 t738 x6_2) x17_1) == 99999) = false := beq_eq_false_iff_ne.mpr c21
              have c21b1 : ((rd (rd_L5 t738 x6_2) x17_1) != 99999) = true := bne_iff_ne.mpr c21
              by_cases c23 : x17_1 < (t738.length : Int)
              ·rw [if_pos c23] at H
               have c23b0 : decide (x17_1 < (t738.length : Int)) = true := decide_eq_true c23
               clear c23
               by_cases c24 : x6_2 < ((rd_L5 t738 x17_1).length : Int)
               ·rw [if_pos c24] at H
                have c24b0 : decide (x6_2 < ((rd_L5 t738 x17_1).length : Int)) = true := decide_eq_true c24
                clear c24
                by_cases c25 : (rd (rd_L5 t738 x17_1) x6_2) = 99999
                ·rw [if_pos c25] at H
                 have c25b0 : ((rd (rd_L5 t738 x17_1) x6_2) == 99999) = true := beq_iff_eq.mpr c25
                 have c25b1 : ((rd (rd_L5 t738 x17_1) x6_2) != 99999) = false := bne_eq_false_iff_eq.mpr c25
                 clear c25
                 have H' := Aside0.mk H
                 clear H
                 obtain ⟨Ao26, co26, eo26⟩ := Kd.S_slice HO_3.out
                 subst eo26
                 have p744 : 0 ≤ (x6_2 : Int) := oT (by first | (with_reducible assumption) | assumption)
                 have q744 : x6_2 < (t738.length : Int) := oT (by first | (with_reducible assumption) | assumption)
                 obtain ⟨ad744, A744_0, c744_0, e744, hx744_0, hl744_0, hi744_0⟩ := at_L5 (Kd.S_reads' HO_3.out).2.2 x6_2 p744 q744
                 cases e744
                 obtain ⟨ce744, hce744, hMe744, hcc744⟩ := Kd.S_get HO_3.out [] x6_2 p744 (by first | exact q744 | exact oT (by first | (with_reducible assumption) | assumption) | (have e_ := (Kd.S_reads' HO_3.out).1; omega))
                 obtain ⟨ve744_0, rfl, ge744_0⟩ := hMe744
                 have hv744_0 := hcc744 0 _ rfl
                 rw [Nat.add_zero, show ((Kd.slice 3 (Kd.int .i64))).sz = 1 from rfl, Nat.mul_one] at hv744_0
                 replace hv744_0 := Option.some.inj (hv744_0.symm.trans hx744_0)
                 rw [hv744_0] at ge744_0
                 have HL744_0 := Aside0.mk (show Kd.R (Kd.int .i64) 3 _ _ _ _ (rd_L5 t738 x6_2) from ge744_0)
                 clear hv744_0 ge744_0
                 clear hcc744 hce744
                 have HR744_0 := Aside0.mk hi744_0
                 have HC744_0 := Aside0.mk hl744_0
                 clear hi744_0 hl744_0
                 replace p744 := eq_true p744
                 replace q744 := eq_true q744
                 have p745 : 0 ≤ (x17_1 : Int) := oT (by first | (with_reducible assumption) | assumption)
                 have q745 : x17_1 < ((rd_L5 t738 x6_2).length : Int) := oT (by first | (with_reducible assumption) | assumption)
                 obtain ⟨ad745, e745, hx745_0⟩ := Kd.at_int (by repeat (first | (with_reducible exact HR744_0.out) | (with_reducible refine Kd.C_alloc ?_ _) | (with_reducible refine Kd.C_drewN ?_ _) | (with_reducible refine Kd.C_drew ?_) | exact HR744_0.out)) x17_1 p745 q745
                 cases e745
                 replace p745 := eq_true p745
                 replace q745 := eq_true q745
                 have p746 : 0 ≤ (x17_1 : Int) := oT (by first | (with_reducible assumption) | assumption)
                 have q746 : x17_1 < (t738.length : Int) := oT (by first | (with_reducible assumption) | assumption)
                 obtain ⟨ad746, A746_0, c746_0, e746, hx746_0, hl746_0, hi746_0⟩ := at_L5 (Kd.S_reads' HO_3.out).2.2 x17_1 p746 q746
                 obtain rfl : ad744 = ad746 := (by injection e746)
                 obtain ⟨ce746, hce746, hMe746, hcc746⟩ := Kd.S_get HO_3.out [] x17_1 p746 (by first | exact q746 | exact oT (by first | (with_reducible assumption) | assumption) | (have e_ := (Kd.S_reads' HO_3.out).1; omega))
                 obtain ⟨ve746_0, rfl, ge746_0⟩ := hMe746
                 have hv746_0 := hcc746 0 _ rfl
                 rw [Nat.add_zero, show ((Kd.slice 3 (Kd.int .i64))).sz = 1 from rfl, Nat.mul_one] at hv746_0
                 replace hv746_0 := Option.some.inj (hv746_0.symm.trans hx746_0)
                 rw [hv746_0] at ge746_0
                 have HL746_0 := Aside0.mk (show Kd.R (Kd.int .i64) 3 _ _ _ _ (rd_L5 t738 x17_1) from ge746_0)
                 clear hv746_0 ge746_0
                 clear hcc746 hce746
                 have HR746_0 := Aside0.mk hi746_0
                 have HC746_0 := Aside0.mk hl746_0
                 clear hi746_0 hl746_0
                 replace p746 := eq_true p746
                 replace q746 := eq_true q746
                 have p747 : 0 ≤ (x6_2 : Int) := oT (by first | (with_reducible assumption) | assumption)
                 have q747 : x6_2 < ((rd_L5 t738 x17_1).length : Int) := oT (by first | (with_reducible assumption) | assumption)
                 obtain ⟨ad747, e747, hx747_0⟩ := Kd.at_int (by repeat (first | (with_reducible exact HR746_0.out) | (with_reducible refine Kd.C_alloc ?_ _) | (with_reducible refine Kd.C_drewN ?_ _) | (with_reducible refine Kd.C_drew ?_) | exact HR746_0.out)) x6_2 p747 q747
                 cases e747
                 replace p747 := eq_true p747
                 replace q747 := eq_true q747
                 go_wp2
                 go_roundg k2
                 case measure => have := HK1.out; have := HK2.out; omega
                 case rel => exact ⟨(wrap64 (x6_2 + 1)), (by first | rfl | (simp; done) | (simp [*]; done)), H', ⟨by have := HK1.out; have := HK2.out; omega⟩, ⟨by (with_reducible repeat (first | apply Kd.S_alloc | apply Kd.S_drewN | apply Kd.S_drew)); exact HO_3.out⟩, ⟨rk HO_4⟩, ⟨bk BK736⟩, ⟨bl1 HB GE736⟩⟩
                ·rw [if_neg c25] at H
                 have c25b0 : ((rd (rd_L5 t738 x17_1) x6_2) == 99999) = false := beq_eq_false_iff_ne.mpr c25
                 have c25b1 : ((rd (rd_L5 t738 x17_1) x6_2) != 99999) = true := bne_iff_ne.mpr c25
                 by_cases c27 : x4_1.length < 17592186044416
                 ·rw [if_pos c27] at H
                  have LMc27 := Aside0.mk c27
                  clear c27
                  obtain ⟨y748, hy748⟩ : ∃ y_ : List Int, y_ = (x4_1 ++ [x6_2]) := ⟨_, rfl⟩
                  replace H : (impl_ReachParts.l0 k2 t738 y748 a0_0 (wrap64 (x17_1 + 1))) = some r := by first | (rw [hy748]; with_reducible exact H) | (have H2_ := (Option.bind_some _ _).symm.trans H; rw [hy748]; with_reducible exact H2_) | (have H2_ := (Option.bind_some _ _).symm.trans H; with_reducible exact H2_) | with_reducible exact H | (rw [hy748]; exact H) | exact H
                  have Ny748 := Aside0.mk hy748
                  clear hy748
                  have H' := Aside0.mk H
                  clear H
                  obtain ⟨Ao28, co28, eo28⟩ := Kd.S_slice HO_3.out
                  subst eo28
                  have p744 : 0 ≤ (x6_2 : Int) := oT (by first | (with_reducible assumption) | assumption)
                  have q744 : x6_2 < (t738.length : Int) := oT (by first | (with_reducible assumption) | assumption)
                  obtain ⟨ad744, A744_0, c744_0, e744, hx744_0, hl744_0, hi744_0⟩ := at_L5 (Kd.S_reads' HO_3.out).2.2 x6_2 p744 q744
                  cases e744
                  obtain ⟨ce744, hce744, hMe744, hcc744⟩ := Kd.S_get HO_3.out [] x6_2 p744 (by first | exact q744 | exact oT (by first | (with_reducible assumption) | assumption) | (have e_ := (Kd.S_reads' HO_3.out).1; omega))
                  obtain ⟨ve744_0, rfl, ge744_0⟩ := hMe744
                  have hv744_0 := hcc744 0 _ rfl
                  rw [Nat.add_zero, show ((Kd.slice 3 (Kd.int .i64))).sz = 1 from rfl, Nat.mul_one] at hv744_0
                  replace hv744_0 := Option.some.inj (hv744_0.symm.trans hx744_0)
                  rw [hv744_0] at ge744_0
                  have HL744_0 := Aside0.mk (show Kd.R (Kd.int .i64) 3 _ _ _ _ (rd_L5 t738 x6_2) from ge744_0)
                  clear hv744_0 ge744_0
                  clear hcc744 hce744
                  have HR744_0 := Aside0.mk hi744_0
                  have HC744_0 := Aside0.mk hl744_0
                  clear hi744_0 hl744_0
                  replace p744 := eq_true p744
                  replace q744 := eq_true q744
                  have p745 : 0 ≤ (x17_1 : Int) := oT (by first | (with_reducible assumption) | assumption)
                  have q745 : x17_1 < ((rd_L5 t738 x6_2).length : Int) := oT (by first | (with_reducible assumption) | assumption)
                  obtain ⟨ad745, e745, hx745_0⟩ := Kd.at_int (by repeat (first | (with_reducible exact HR744_0.out) | (with_reducible refine Kd.C_alloc ?_ _) | (with_reducible refine Kd.C_drewN ?_ _) | (with_reducible refine Kd.C_drew ?_) | exact HR744_0.out)) x17_1 p745 q745
                  cases e745
                  replace p745 := eq_true p745
                  replace q745 := eq_true q745
                  have p746 : 0 ≤ (x17_1 : Int) := oT (by first | (with_reducible assumption) | assumption)
                  have q746 : x17_1 < (t738.length : Int) := oT (by first | (with_reducible assumption) | assumption)
                  obtain ⟨ad746, A746_0, c746_0, e746, hx746_0, hl746_0, hi746_0⟩ := at_L5 (Kd.S_reads' HO_3.out).2.2 x17_1 p746 q746
                  obtain rfl : ad744 = ad746 := (by injection e746)
                  obtain ⟨ce746, hce746, hMe746, hcc746⟩ := Kd.S_get HO_3.out [] x17_1 p746 (by first | exact q746 | exact oT (by first | (with_reducible assumption) | assumption) | (have e_ := (Kd.S_reads' HO_3.out).1; omega))
                  obtain ⟨ve746_0, rfl, ge746_0⟩ := hMe746
                  have hv746_0 := hcc746 0 _ rfl
                  rw [Nat.add_zero, show ((Kd.slice 3 (Kd.int .i64))).sz = 1 from rfl, Nat.mul_one] at hv746_0
                  replace hv746_0 := Option.some.inj (hv746_0.symm.trans hx746_0)
                  rw [hv746_0] at ge746_0
                  have HL746_0 := Aside0.mk (show Kd.R (Kd.int .i64) 3 _ _ _ _ (rd_L5 t738 x17_1) from ge746_0)
                  clear hv746_0 ge746_0
                  clear hcc746 hce746
                  have HR746_0 := Aside0.mk hi746_0
                  have HC746_0 := Aside0.mk hl746_0
                  clear hi746_0 hl746_0
                  replace p746 := eq_true p746
                  replace q746 := eq_true q746
                  have p747 : 0 ≤ (x6_2 : Int) := oT (by first | (with_reducible assumption) | assumption)
                  have q747 : x6_2 < ((rd_L5 t738 x17_1).length : Int) := oT (by first | (with_reducible assumption) | assumption)
                  obtain ⟨ad747, e747, hx747_0⟩ := Kd.at_int (by repeat (first | (with_reducible exact HR746_0.out) | (with_reducible refine Kd.C_alloc ?_ _) | (with_reducible refine Kd.C_drewN ?_ _) | (with_reducible refine Kd.C_drew ?_) | exact HR746_0.out)) x6_2 p747 q747
                  cases e747
                  replace p747 := eq_true p747
                  replace q747 := eq_true q747
                  go_wp2_with (first | ((with_reducible refine gate_builtin (b := .append) (xs := #[.tmp 40, .tmp 42]) rfl ?_); at_builtin; refine Kd.R_append (Kd.int .i64) (w0 := w) w.heap.size rfl (.tmp 40) (.tmp 42) 41 3 (.int .i64 0) 8 rfl Try.underlying41 info3 rfl (by decide) (by omega) u4 x4_1 x6_2 [.int .i64 x6_2] (fun _ => True) (fun _ => False) rfl rfl ?aP (fun _ hk => hk.elim) ?aF ?aO ?aB ?aS ?aL ?_; (case aP => exact rfl); (case aB => exact (bl1 HB GE736)); (case aF => exact (fun _ _ => trivial)); (case aO => exact (rk HO_4)); (case aS => exact (below_size (bl1 HB GE736))); (case aL => have := LMc27.out; omega); intro v749 w29 ho hb hg hat; rw [← Ny748.out] at ho; have n0_ := Aside0.mk (Kd.S_after (ok := (fun _ => True)) (by (with_reducible repeat (first | apply Kd.S_alloc | apply Kd.S_drewN | apply Kd.S_drew)); exact Kd.S_mono HO_3.out (fun _ hk => ⟨trivial, hk⟩)) hg hat); have n1_ := Aside0.mk (blk_grown (bk BK736) hg (Kd.R_ne HO_4.out BK736.out (by decide))); have n2_ := Aside0.mk (Kd.R_after (ok := (fun k_ => some k_ ≠ (.slice (some ad744) t738.length co28 : Value).ownBlock)) (by (with_reducible repeat (first | apply Kd.R_alloc | apply Kd.R_drewN | apply Kd.R_drew)); exact Kd.R_mono HL744_0.out (fun _ hk => ⟨hk.2, hk.1⟩)) hg hat); have n3_ := Aside0.mk (Kd.R_after (ok := (fun k_ => some k_ ≠ (.slice (some ad744) t738.length co28 : Value).ownBlock)) (by (with_reducible repeat (first | apply Kd.R_alloc | apply Kd.R_drewN | apply Kd.R_drew)); exact Kd.R_mono HL746_0.out (fun _ hk => ⟨hk.2, hk.1⟩)) hg hat); have n4_ := Aside0.mk (hb); have n5_ := Aside0.mk (ho); clear HO_3; clear BK736; clear HL744_0; clear HL746_0; clear HB; clear HO_4; have HO_3 := n0_; have BK736 := n1_; have HL744_0 := n2_; have HL746_0 := n3_; have HB := n4_; have HO750 := n5_; clear n0_ n1_ n2_ n3_ n4_ n5_; clear ho hb hg hat))
                  go_roundg k2
                  case measure => have := HK1.out; have := HK2.out; omega
                  case rel => exact ⟨(y748), (wrap64 (x17_1 + 1)), (by first | rfl | (simp; done) | (simp [*]; done)), H', ⟨by have := HK1.out; have := HK2.out; omega⟩, ⟨by (with_reducible repeat (first | apply Kd.S_alloc | apply Kd.S_drewN | apply Kd.S_drew)); exact Kd.S_mono HO_3.out (fun _ hk => hk.2)⟩, ⟨rk HO750⟩, ⟨bk BK736⟩, ⟨bl1 HB GE736⟩⟩
                 ·rw [if_neg c27] at H
                  exact absurd H (by simp)
               ·rw [if_neg c24] at H
                exact absurd H (by simp)
              ·rw [if_neg c23] at H
               exact absurd H (by simp)
            ·rw [if_neg c20] at H
             exact absurd H (by simp)
           ·rw [if_neg c19] at H
            exact absurd H (by simp)
          ·rw [if_neg c18] at H
           exact absurd H (by simp)
         ·rw [if_neg c17] at H
          exact absurd H (by simp)
      ·rw [if_neg c16] at H
       have c16b0 : decide (x17_1 < a0_0) = false := decide_eq_false c16
       clear c16
       obtain rfl := Option.some.inj H
       go_wp2
       go_ret
       exact ⟨_, by first | rfl | (simp [errW_none, errW_some] <;> rfl) | (simp [*, errW_none, errW_some] <;> rfl), rk HO_4, bl1 HB GE736⟩
   ·rw [if_neg c6] at H
    exact absurd H (by simp)
  ·rw [if_neg c5] at H
   exact absurd H (by simp)
 ·replace c3 := Bool.eq_false_iff.mpr c3
  subst c3
  rw [if_neg (show ¬ (false = true) by decide)] at H
  obtain rfl := Option.some.inj H
  go_enter Try.func43, Try.ntmps43
  go_wp2_with (first | ((with_reducible refine gate_dst (N := 1) rfl ?_); refine box_event ?hg (N := 1) ?hd (cs := #[.int .i64 a0_0, .slice A0_1 l0_1.length c0_1]) (t := 25) ?hr ?_; (case hd => rfl); (case hg => rfl); (case hr => first | (go_simp; done) | (go_simp; rfl)); intro gb736 hg w30 hbox hb; have n0_ := Aside0.mk (below_step (bl HB) hb); have n1_ := Aside0.mk (hbox); have n2_ := Aside0.mk ((by rw [hg]; exact (below_size (bl HB)) : w.heap.size ≤ gb736)); have n3_ := Aside0.mk ((by rw [hg]; exact (below_size (bl HB)) : w.heap.size ≤ gb736)); clear HB; have HB := n0_; have BK736 := n1_; have GW736 := n2_; have GE736 := n3_; clear n0_ n1_ n2_ n3_; clear hb hbox hg; have hcz31_0 : w30.cell? ⟨gb736, 0, none⟩ = some (.int .i64 a0_0) := (blk_cell BK736.out 0).trans rfl; have hcz31_1 : w30.cell? ⟨gb736, 1, none⟩ = some (.slice A0_1 l0_1.length c0_1) := (blk_cell BK736.out 1).trans rfl; have hfz31_0 := blk_frozen BK736.out 0; have hfz31_1 := blk_frozen BK736.out 1) | ((with_reducible refine gate_callee (f := 19) rfl ?_); refine goesL_ (some 8) rfl rfl Try.func19 (by kernel_rfl) rfl #[.agg #[.int .i64 a0_0, .slice A0_1 l0_1.length c0_1]] rfl (by (try simp only [List.map_toArray, List.map_cons, List.map_nil]); first | done | rfl | (simp only [List.length_drop, List.length_take]; rfl)) ?_; (with_reducible refine (impl_NetOk.calls a0_0 _ _ l0_1 false _ ?side1 ?side2 A2.out).mono ?_); (case side1 => repeat (first | exact (Kd.C_below HR0_1.out HB.out) | (with_reducible refine Kd.C_alloc ?_ _) | (with_reducible refine Kd.C_drewN ?_ _) | (with_reducible refine Kd.C_drew ?_))); (case side2 => exact HC0_1.out); rintro e w32 ⟨rfl, hb⟩; refine ⟨_, rfl, ?_⟩; have n0_ := Aside0.mk (blk_below (bk BK736) hb); have n1_ := Aside0.mk (below_step (bl1 HB GE736) hb); clear BK736; clear HB; have BK736 := n0_; have HB := n1_; clear n0_ n1_; (try clear hb); (try clear hb2); (try clear hk); (try clear hi)))
  go_ret
  exact ⟨_, by first | rfl | (simp [errW_none, errW_some] <;> rfl) | (simp [*, errW_none, errW_some] <;> rfl), by first | exact Kd.R_nil _ _ _ _ _ | exact Kd.N_nil _ _ _ _ _ | exact Kd.V_nil _ _ _ _ _ | exact Kd.Q_nil _ _ _ _ _ | exact Kd.S_nil _ _ _ _ _, bl1 HB GE736⟩

end Go.Proofs.Ythgihpbpebbebaa.F
