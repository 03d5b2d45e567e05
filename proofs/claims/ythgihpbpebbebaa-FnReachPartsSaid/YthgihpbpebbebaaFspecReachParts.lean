-- Printed by wip/px/px.py of this claim's repository (the kit's printer, extended there). Lean checks it.
import Derived.Test.YthgihpbpebbebaaFKinds
import Derived.Test.YthgihpbpebbebaaFspecl1Ok
import Derived.Test.YthgihpbpebbebaaFspecl3All
import Derived.Test.YthgihpbpebbebaaFspecl1Back
namespace Go.Proofs.Ythgihpbpebbebaa.F
open Go.RowKit Go.Proofs.YthgihpbpebbebaaW.PrintWords Go.Proofs.YthgihpbpebbebaaW.PrintLast Go.Proofs.YthgihpbpebbebaaW.PrintMore
attribute [local go_sem] max2_int min2_int max_two min_two max_three min_three max_four min_four   -- for this text's walks alone
set_option linter.unusedVariables false
set_option linter.unusedSimpArgs false

/-! ### spec_ReachParts: function 45 -/
mutual
def spec_ReachParts.l0 : Nat → List Int → Int → Int → List (S31) → Option (List Int)
 | 0, _, _, _, _ => none
 | k + 1, x3, x4, x775000, x775001 => if x4 < x775000 then ((spec_l3All.f k x775000 x775001 x4).bind fun t779 => ((spec_l1Back.f k x775000 x775001).bind fun bt782 => ((spec_l3All.f k bt782.1 bt782.2 x4).bind fun t786 => (spec_ReachParts.l1 k x3 x4 t779 t786 0 x775000 x775001)))) else (some x3)
def spec_ReachParts.l1 : Nat → List Int → Int → List Int → List Int → Int → Int → List (S31) → Option (List Int)
 | 0, _, _, _, _, _, _, _ => none
 | k + 1, x3, x4, x5, x6, x7, x775000, x775001 => if x7 < x775000 then (if 0 ≤ x7 then (if x7 < (x5.length : Int) then (if (rd x5 x7) < 99999 then (if x7 < (x6.length : Int) then (if (rd x6 x7) < 99999 then (if x3.length < 17592186044416 then (spec_ReachParts.l0 k (x3 ++ [x7]) (wrap64 (x4 + 1)) x775000 x775001) else (none)) else (spec_ReachParts.l1 k x3 x4 x5 x6 (wrap64 (x7 + 1)) x775000 x775001)) else (none)) else (spec_ReachParts.l1 k x3 x4 x5 x6 (wrap64 (x7 + 1)) x775000 x775001)) else (none)) else (none)) else (spec_ReachParts.l0 k x3 (wrap64 (x4 + 1)) x775000 x775001)
end
def spec_ReachParts.f (k : Nat) (a0_0 : Int) (l0_1 : List (S31)) : Option (List Int) := (spec_l1Ok.f k a0_0 l0_1).bind fun t778 => (if t778 = true then (spec_ReachParts.l0 k (([] : List Int)) 0 a0_0 l0_1) else (some ([] : List Int)))
theorem spec_ReachParts.mono_l : ∀ k, (∀ y0 y1 y2 y3, LeO (spec_ReachParts.l0 k y0 y1 y2 y3) (spec_ReachParts.l0 (k + 1) y0 y1 y2 y3)) ∧ (∀ y0 y1 y2 y3 y4 y5 y6, LeO (spec_ReachParts.l1 k y0 y1 y2 y3 y4 y5 y6) (spec_ReachParts.l1 (k + 1) y0 y1 y2 y3 y4 y5 y6))
 | 0 => ⟨fun _ _ _ _ r h => by simp [spec_ReachParts.l0] at h, fun _ _ _ _ _ _ _ r h => by simp [spec_ReachParts.l1] at h⟩
 | k + 1 => by
  obtain ⟨ih0, ih1⟩ := spec_ReachParts.mono_l k
  refine ⟨?_, ?_⟩
  ·intro y0 y1 y2 y3
   unfold spec_ReachParts.l0
   repeat' first
   | (with_reducible exact ih0 _ _ _ _)
   | (with_reducible exact ih1 _ _ _ _ _ _ _)
   | (with_reducible exact spec_l1Back.mono _ _ _)
   | (with_reducible exact spec_l1Ok.mono _ _ _)
   | (with_reducible exact spec_l3All.mono _ _ _ _)
   | (with_reducible exact LeO.refl _)
   | (with_reducible exact LeO.none _)
   | (with_reducible refine LeO.ite ?_ ?_)
   | (with_reducible refine LeO.bind ?_ (fun _ => ?_))
   | exact ih0 _ _ _ _
   | exact ih1 _ _ _ _ _ _ _
   | exact spec_l1Back.mono _ _ _
   | exact spec_l1Ok.mono _ _ _
   | exact spec_l3All.mono _ _ _ _
   | exact LeO.none _
   | refine LeO.ite ?_ ?_
   | refine LeO.bind ?_ (fun _ => ?_)
  ·intro y0 y1 y2 y3 y4 y5 y6
   unfold spec_ReachParts.l1
   repeat' first
   | (with_reducible exact ih0 _ _ _ _)
   | (with_reducible exact ih1 _ _ _ _ _ _ _)
   | (with_reducible exact spec_l1Back.mono _ _ _)
   | (with_reducible exact spec_l1Ok.mono _ _ _)
   | (with_reducible exact spec_l3All.mono _ _ _ _)
   | (with_reducible exact LeO.refl _)
   | (with_reducible exact LeO.none _)
   | (with_reducible refine LeO.ite ?_ ?_)
   | (with_reducible refine LeO.bind ?_ (fun _ => ?_))
   | exact ih0 _ _ _ _
   | exact ih1 _ _ _ _ _ _ _
   | exact spec_l1Back.mono _ _ _
   | exact spec_l1Ok.mono _ _ _
   | exact spec_l3All.mono _ _ _ _
   | exact LeO.none _
   | refine LeO.ite ?_ ?_
   | refine LeO.bind ?_ (fun _ => ?_)
theorem spec_ReachParts.mono : ∀ a0 a1 k, LeO (spec_ReachParts.f k a0 a1) (spec_ReachParts.f (k + 1) a0 a1) := by
 intro a0 a1 k
 obtain ⟨ih0, ih1⟩ := spec_ReachParts.mono_l k
 unfold spec_ReachParts.f
 repeat' first
   | (with_reducible exact ih0 _ _ _ _)
   | (with_reducible exact ih1 _ _ _ _ _ _ _)
   | (with_reducible exact spec_l1Back.mono _ _ _)
   | (with_reducible exact spec_l1Ok.mono _ _ _)
   | (with_reducible exact spec_l3All.mono _ _ _ _)
   | (with_reducible exact LeO.refl _)
   | (with_reducible exact LeO.none _)
   | (with_reducible refine LeO.ite ?_ ?_)
   | (with_reducible refine LeO.bind ?_ (fun _ => ?_))
   | exact ih0 _ _ _ _
   | exact ih1 _ _ _ _ _ _ _
   | exact spec_l1Back.mono _ _ _
   | exact spec_l1Ok.mono _ _ _
   | exact spec_l3All.mono _ _ _ _
   | exact LeO.none _
   | refine LeO.ite ?_ ?_
   | refine LeO.bind ?_ (fun _ => ?_)
set_option maxHeartbeats 8000000 in
set_option maxRecDepth 100000 in
theorem spec_ReachParts.calls (k : Nat) (a0_0 : Int) (A0_1 : Option Addr) (c0_1 : Nat) (l0_1 : List (S31)) (r : List Int) (w : World) (hr0_1 : Kd.C k31 w A0_1 l0_1.length l0_1) (hc0_1 : l0_1.length ≤ c0_1) (h : spec_ReachParts.f k a0_0 l0_1 = some r) :
  Calls Try.prog 45 #[.agg #[.int .i64 a0_0, .slice A0_1 l0_1.length c0_1]] w fun e w' => ∃ v0_ : Value, e = .returned (v0_) ∧ Kd.R (Kd.int .i64) 3 w' w.heap.size (fun _ => True) v0_ r ∧ Below w.heap.size w w' := by
 have hu25 := Try.underlying25
 have HR0_1 := Aside0.mk hr0_1
 have HC0_1 := Aside0.mk hc0_1
 clear hr0_1 hc0_1
 have HB := Aside0.mk (Below.refl w.heap.size w)
 have H : ((spec_l1Ok.f k a0_0 l0_1).bind fun t778 => (if t778 = true then (spec_ReachParts.l0 k (([] : List Int)) 0 a0_0 l0_1) else (some ([] : List Int)))) = some r := h
 clear h
 obtain ⟨y775, hy775⟩ : ∃ y_ : List Int, y_ = (([] : List Int)) := ⟨_, rfl⟩
 replace H : ((spec_l1Ok.f k a0_0 l0_1).bind fun t778 => (if t778 = true then (spec_ReachParts.l0 k y775 0 a0_0 l0_1) else (some ([] : List Int)))) = some r := by first | (rw [hy775]; with_reducible exact H) | (have H2_ := (Option.bind_some _ _).symm.trans H; rw [hy775]; with_reducible exact H2_) | (have H2_ := (Option.bind_some _ _).symm.trans H; with_reducible exact H2_) | with_reducible exact H | (rw [hy775]; exact H) | exact H
 have Ny775 := Aside0.mk hy775
 clear hy775
 replace H := Option.bind_eq_some_iff.mp H
 obtain ⟨t778, A20, H⟩ := H
 have A2 := Aside0.mk A20
 clear A20
 by_cases c3 : t778 = true
 ·subst c3
  rw [if_pos rfl] at H
  have H' := Aside0.mk H
  clear H
  go_enter Try.func45, Try.ntmps45
  go_wp2_with (first | ((with_reducible refine gate_dst (N := 1) rfl ?_); refine box_event ?hg (N := 1) ?hd (cs := #[.int .i64 a0_0, .slice A0_1 l0_1.length c0_1]) (t := 25) ?hr ?_; (case hd => rfl); (case hg => rfl); (case hr => first | (go_simp; done) | (go_simp; rfl)); intro gb774 hg w4 hbox hb; have n0_ := Aside0.mk (below_step (bl HB) hb); have n1_ := Aside0.mk (hbox); have n2_ := Aside0.mk ((by rw [hg]; exact (below_size (bl HB)) : w.heap.size ≤ gb774)); have n3_ := Aside0.mk ((by rw [hg]; exact (below_size (bl HB)) : w.heap.size ≤ gb774)); clear HB; have HB := n0_; have BK774 := n1_; have GW774 := n2_; have GE774 := n3_; clear n0_ n1_ n2_ n3_; clear hb hbox hg) | ((with_reducible refine gate_dst (N := 8) rfl ?_); refine Kd.R_lit (Kd.int .i64) _ 3 ?hg (N := 8) ?hd (xs := ([] : List Int)) (inner := []) (ok := fun _ => True) (okp := fun _ => True) ?hr ?hp (fun _ hk => hk) trivial (Below.refl _ _) (Nat.le_refl _) (by simp) ?_; (case hd => rfl); (case hg => rfl); (case hr => first | (go_simp; done) | (go_simp; rfl)); (case hp => exact (Reps.none _ _)); intro v776 w5 ho6 hb hg_ hnew_; clear hg_ hnew_; (first | rw [← Ny775.out] at ho6 | (simp only [Int.reduceToNat] at ho6; rw [← Ny775.out] at ho6)); have n0_ := Aside0.mk (Kd.R_lower ho6 (below_size (bl1 HB GE774))); have n1_ := Aside0.mk (blk_below (bk BK774) hb); have n2_ := Aside0.mk (below_step (bl1 HB GE774) hb); clear BK774; clear HB; have HO777 := n0_; have BK774 := n1_; have HB := n2_; clear n0_ n1_ n2_; clear hb ho6; have hcz7_0 : w5.cell? ⟨gb774, 0, none⟩ = some (.int .i64 a0_0) := (blk_cell BK774.out 0).trans rfl; have hcz7_1 : w5.cell? ⟨gb774, 1, none⟩ = some (.slice A0_1 l0_1.length c0_1) := (blk_cell BK774.out 1).trans rfl; have hfz7_0 := blk_frozen BK774.out 0; have hfz7_1 := blk_frozen BK774.out 1) | ((with_reducible refine gate_callee (f := 62) rfl ?_); refine goesL_ (some 10) rfl rfl Try.func62 (by kernel_rfl) rfl #[.agg #[.int .i64 a0_0, .slice A0_1 l0_1.length c0_1]] rfl (by (try simp only [List.map_toArray, List.map_cons, List.map_nil]); first | done | rfl | (simp only [List.length_drop, List.length_take]; rfl)) ?_; (with_reducible refine (spec_l1Ok.calls k a0_0 _ _ l0_1 true _ ?side1 ?side2 A2.out).mono ?_); (case side1 => repeat (first | exact (Kd.C_below HR0_1.out HB.out) | (with_reducible refine Kd.C_alloc ?_ _) | (with_reducible refine Kd.C_drewN ?_ _) | (with_reducible refine Kd.C_drew ?_))); (case side2 => exact HC0_1.out); rintro e w8 ⟨rfl, hb⟩; refine ⟨_, rfl, ?_⟩; have n0_ := Aside0.mk (Kd.R_below (rk HO777) hb); have n1_ := Aside0.mk (blk_below (bk BK774) hb); have n2_ := Aside0.mk (below_step (bl1 HB GE774) hb); clear HO777; clear BK774; clear HB; have HO777 := n0_; have BK774 := n1_; have HB := n2_; clear n0_ n1_ n2_; (try clear hb); (try clear hb2); (try clear hk); (try clear hi)))
  go_loopg [3, 4] k (fun kq v3 v4 w' => ∃ (x3_1 : List Int) (x4_1 : Int), v4 = .int .i64 x4_1 ∧ Aside0 (spec_ReachParts.l0 kq x3_1 x4_1 a0_0 l0_1 = some r) ∧ Aside0 (kq ≤ k) ∧ Aside0 (Kd.R (Kd.int .i64) 3 w' w.heap.size (fun _ => True) v3 x3_1) ∧ Aside0 (w'.heap[gb774]? = some (.cells #[.int .i64 a0_0, (.slice A0_1 l0_1.length c0_1)] 25 (0, 0))) ∧ Aside0 (Below w.heap.size w w'))
  case atStart => exact ⟨(y775), (0), (by first | rfl | (simp; done) | (simp [*]; done)), H', ⟨Nat.le_refl _⟩, ⟨rk HO777⟩, ⟨bk BK774⟩, ⟨bl1 HB GE774⟩⟩
  case round =>
   clear H'
   try clear p2
   try clear c3
   try clear c4
   try clear c6
   try clear hcz7_0
   try clear hcz7_1
   try clear hfz7_0
   try clear hfz7_1
   obtain ⟨x3_1, x4_1, rfl, HA, HK1, HO_3, BK774, HB⟩ := hrel
   cases gk with
   | zero => exact absurd HA.out (by simp [spec_ReachParts.l0])
   | succ k1 =>
    have H := HA.out
    clear HA
    simp only [spec_ReachParts.l0] at H
    by_cases c9 : x4_1 < a0_0
    ·rw [if_pos c9] at H
     have c9b0 : decide (x4_1 < a0_0) = true := decide_eq_true c9
     clear c9
     replace H := Option.bind_eq_some_iff.mp H
     obtain ⟨t779, A100, H⟩ := H
     have A10 := Aside0.mk A100
     clear A100
     replace H := Option.bind_eq_some_iff.mp H
     obtain ⟨⟨t782, t783⟩, A110, H⟩ := H
     have A11 := Aside0.mk A110
     clear A110
     replace H := Option.bind_eq_some_iff.mp H
     obtain ⟨t786, A120, H⟩ := H
     have A12 := Aside0.mk A120
     clear A120
     have H' := Aside0.mk H
     clear H
     have hcz13_0 : wr.cell? ⟨gb774, 0, none⟩ = some (.int .i64 a0_0) := (blk_cell BK774.out 0).trans rfl
     have hcz13_1 : wr.cell? ⟨gb774, 1, none⟩ = some (.slice A0_1 l0_1.length c0_1) := (blk_cell BK774.out 1).trans rfl
     have hfz13_0 := blk_frozen BK774.out 0
     have hfz13_1 := blk_frozen BK774.out 1
     go_wp2_with (first | ((with_reducible refine gate_callee (f := 90) rfl ?_); refine goesL_ (some 20) rfl rfl Try.func90 (by kernel_rfl) rfl #[.agg #[.int .i64 a0_0, .slice A0_1 l0_1.length c0_1], .int .i64 x4_1] rfl (by (try simp only [List.map_toArray, List.map_cons, List.map_nil]); first | done | rfl | (simp only [List.length_drop, List.length_take]; rfl)) ?_; (with_reducible refine (spec_l3All.calls k1 a0_0 _ _ l0_1 x4_1 t779 _ ?side1 ?side2 A10.out).mono ?_); (case side1 => repeat (first | exact (Kd.C_below HR0_1.out HB.out) | (with_reducible refine Kd.C_alloc ?_ _) | (with_reducible refine Kd.C_drewN ?_ _) | (with_reducible refine Kd.C_drew ?_))); (case side2 => exact HC0_1.out); rintro e w14 ⟨v780, rfl, ho0, hb⟩; refine ⟨_, rfl, ?_⟩; have n0_ := Aside0.mk (Kd.R_elder' (rk HO_3) (Kd.R_base ho0) hb); have n1_ := Aside0.mk (Kd.R_lower (Kd.R_new' ho0 (Kd.R_lt (rk HO_3))) (below_size (bl1 HB GE774))); have n2_ := Aside0.mk (blk_below (bk BK774) hb); have n3_ := Aside0.mk (below_step (bl1 HB GE774) hb); clear HO_3; clear BK774; clear HB; have HO_3 := n0_; have HO781 := n1_; have BK774 := n2_; have HB := n3_; clear n0_ n1_ n2_ n3_; (try clear hb); (try clear hb2); (try clear hk); (try clear hi); (try clear ho0); have hcz15_0 : w14.cell? ⟨gb774, 0, none⟩ = some (.int .i64 a0_0) := (blk_cell BK774.out 0).trans rfl; have hcz15_1 : w14.cell? ⟨gb774, 1, none⟩ = some (.slice A0_1 l0_1.length c0_1) := (blk_cell BK774.out 1).trans rfl; have hfz15_0 := blk_frozen BK774.out 0; have hfz15_1 := blk_frozen BK774.out 1) | ((with_reducible refine gate_callee (f := 94) rfl ?_); refine goesL_ (some 22) rfl rfl Try.func94 (by kernel_rfl) rfl #[.agg #[.int .i64 a0_0, .slice A0_1 l0_1.length c0_1]] rfl (by (try simp only [List.map_toArray, List.map_cons, List.map_nil]); first | done | rfl | (simp only [List.length_drop, List.length_take]; rfl)) ?_; (with_reducible refine (spec_l1Back.calls k1 a0_0 _ _ l0_1 t782 t783 _ ?side1 ?side2 A11.out).mono ?_); (case side1 => repeat (first | exact (Kd.C_below HR0_1.out HB.out) | (with_reducible refine Kd.C_alloc ?_ _) | (with_reducible refine Kd.C_drewN ?_ _) | (with_reducible refine Kd.C_drew ?_))); (case side2 => exact HC0_1.out); rintro e w16 ⟨v784, rfl, ho0, hb⟩; refine ⟨_, rfl, ?_⟩; have n0_ := Aside0.mk (Kd.R_below (rk HO_3) hb); have n1_ := Aside0.mk (Kd.R_below (rk HO781) hb); have n2_ := Aside0.mk (Kd.R_lower ho0 (below_size (bl1 HB GE774))); have n3_ := Aside0.mk (blk_below (bk BK774) hb); have n4_ := Aside0.mk (below_step (bl1 HB GE774) hb); clear HO_3; clear HO781; clear BK774; clear HB; have HO_3 := n0_; have HO781 := n1_; have HO785 := n2_; have BK774 := n3_; have HB := n4_; clear n0_ n1_ n2_ n3_ n4_; (try clear hb); (try clear hb2); (try clear hk); (try clear hi); (try clear ho0); obtain ⟨Ao17, co17, eo17⟩ := Kd.R_slice HO785.out; subst eo17) | ((with_reducible refine gate_callee (f := 90) rfl ?_); refine goesL_ (some 24) rfl rfl Try.func90 (by kernel_rfl) rfl #[.agg #[.int .i64 t782, .slice Ao17 t783.length co17], .int .i64 x4_1] rfl (by (try simp only [List.map_toArray, List.map_cons, List.map_nil]); first | done | rfl | (simp only [List.length_drop, List.length_take]; rfl)) ?_; (with_reducible refine (spec_l3All.calls k1 t782 _ _ t783 x4_1 t786 _ ?side1 ?side2 A12.out).mono ?_); (case side1 => repeat (first | exact (Kd.R_reads' HO785.out).2.2 | (with_reducible refine Kd.C_alloc ?_ _) | (with_reducible refine Kd.C_drewN ?_ _) | (with_reducible refine Kd.C_drew ?_))); (case side2 => exact (Kd.R_reads' HO785.out).2.1); rintro e w18 ⟨v787, rfl, ho0, hb⟩; refine ⟨_, rfl, ?_⟩; have n0_ := Aside0.mk (Kd.R_elder' (rk HO_3) (Kd.R_base ho0) hb); have n1_ := Aside0.mk (Kd.R_elder' (rk HO781) (Kd.R_base ho0) hb); have n2_ := Aside0.mk (Kd.R_below (rk HO785) hb); have n3_ := Aside0.mk (Kd.R_lower (Kd.R_new' (Kd.R_new' ho0 (Kd.R_lt (rk HO_3))) (Kd.R_lt (rk HO781))) (below_size (bl1 HB GE774))); have n4_ := Aside0.mk (blk_below (bk BK774) hb); have n5_ := Aside0.mk (below_step (bl1 HB GE774) hb); clear HO_3; clear HO781; clear HO785; clear BK774; clear HB; have HO_3 := n0_; have HO781 := n1_; have HO785 := n2_; have HO788 := n3_; have BK774 := n4_; have HB := n5_; clear n0_ n1_ n2_ n3_ n4_ n5_; (try clear hb); (try clear hb2); (try clear hk); (try clear hi); (try clear ho0)))
     go_loopg [3, 7] k1 (fun kq v3 v7 w' => ∃ (x3_2 : List Int) (x7_2 : Int), v7 = .int .i64 x7_2 ∧ Aside0 (spec_ReachParts.l1 kq x3_2 x4_1 t779 t786 x7_2 a0_0 l0_1 = some r) ∧ Aside0 (kq ≤ k1) ∧ Aside0 (Kd.R (Kd.int .i64) 3 w' w.heap.size (fun k_ => some k_ ≠ (v780 : Value).ownBlock ∧ some k_ ≠ (v787 : Value).ownBlock) v3 x3_2) ∧ Aside0 (Kd.R (Kd.int .i64) 3 w' w.heap.size (fun k_ => some k_ ≠ (v3 : Value).ownBlock ∧ some k_ ≠ (v787 : Value).ownBlock) v780 t779) ∧ Aside0 (Kd.R (Kd.int .i64) 3 w' w.heap.size (fun k_ => some k_ ≠ (v3 : Value).ownBlock ∧ some k_ ≠ (v780 : Value).ownBlock) v787 t786) ∧ Aside0 (w'.heap[gb774]? = some (.cells #[.int .i64 a0_0, (.slice A0_1 l0_1.length c0_1)] 25 (0, 0))) ∧ Aside0 (Below w.heap.size w w'))
     case atStart => exact ⟨(x3_1), (0), (by first | rfl | (simp; done) | (simp [*]; done)), H', ⟨Nat.le_refl _⟩, ⟨by (with_reducible repeat (first | apply Kd.R_alloc | apply Kd.R_drewN | apply Kd.R_drew)); exact Kd.R_mono HO_3.out (fun _ hk => ⟨hk.1.2, hk.2⟩)⟩, ⟨by (with_reducible repeat (first | apply Kd.R_alloc | apply Kd.R_drewN | apply Kd.R_drew)); exact Kd.R_mono HO781.out (fun _ hk => ⟨hk.1.2, hk.2⟩)⟩, ⟨by (with_reducible repeat (first | apply Kd.R_alloc | apply Kd.R_drewN | apply Kd.R_drew)); exact Kd.R_mono HO788.out (fun _ hk => ⟨hk.1.2, hk.2⟩)⟩, ⟨bk BK774⟩, ⟨bl1 HB GE774⟩⟩
     case round =>
      clear H'
      try clear p2
      try clear c3
      try clear c4
      try clear c6
      try clear c9
      try clear c9b0
      try clear hcz13_0
      try clear hcz13_1
      try clear hcz15_0
      try clear hcz15_1
      try clear hcz7_0
      try clear hcz7_1
      try clear hfz13_0
      try clear hfz13_1
      try clear hfz15_0
      try clear hfz15_1
      try clear hfz7_0
      try clear hfz7_1
      try clear p2
      obtain ⟨x3_2, x7_2, rfl, HA, HK2, HO_3, HO_5, HO_6, BK774, HB⟩ := hrel
      cases gk with
      | zero => exact absurd HA.out (by simp [spec_ReachParts.l1])
      | succ k2 =>
       have H := HA.out
       clear HA
       simp only [spec_ReachParts.l1] at H
       by_cases c19 : x7_2 < a0_0
       ·rw [if_pos c19] at H
        have c19b0 : decide (x7_2 < a0_0) = true := decide_eq_true c19
        clear c19
        by_cases c20 : 0 ≤ x7_2
        ·rw [if_pos c20] at H
         have c20b0 : decide (0 ≤ x7_2) = true := decide_eq_true c20
         clear c20
         by_cases c21 : x7_2 < (t779.length : Int)
         ·rw [if_pos c21] at H
          have c21b0 : decide (x7_2 < (t779.length : Int)) = true := decide_eq_true c21
          clear c21
          by_cases c22 : (rd t779 x7_2) < 99999
          ·rw [if_pos c22] at H
           have c22b0 : decide ((rd t779 x7_2) < 99999) = true := decide_eq_true c22
           clear c22
           by_cases c23 : x7_2 < (t786.length : Int)
           ·rw [if_pos c23] at H
            have c23b0 : decide (x7_2 < (t786.length : Int)) = true := decide_eq_true c23
            clear c23
            by_cases c24 : (rd t786 x7_2) < 99999
            ·rw [if_pos c24] at H
             have c24b0 : decide ((rd t786 x7_2) < 99999) = true := decide_eq_true c24
             clear c24
             by_cases c25 : x3_2.length < 17592186044416
             ·rw [if_pos c25] at H
              have LMc25 := Aside0.mk c25
              clear c25
              obtain ⟨y791, hy791⟩ : ∃ y_ : List Int, y_ = (x3_2 ++ [x7_2]) := ⟨_, rfl⟩
              replace H : (spec_ReachParts.l0 k2 y791 (wrap64 (x4_1 + 1)) a0_0 l0_1) = some r := by first | (rw [hy791]; with_reducible exact H) | (have H2_ := (Option.bind_some _ _).symm.trans H; rw [hy791]; with_reducible exact H2_) | (have H2_ := (Option.bind_some _ _).symm.trans H; with_reducible exact H2_) | with_reducible exact H | (rw [hy791]; exact H) | exact H
              have Ny791 := Aside0.mk hy791
              clear hy791
              have H' := Aside0.mk H
              clear H
              have hcz26_0 : wr.cell? ⟨gb774, 0, none⟩ = some (.int .i64 a0_0) := (blk_cell BK774.out 0).trans rfl
              have hcz26_1 : wr.cell? ⟨gb774, 1, none⟩ = some (.slice A0_1 l0_1.length c0_1) := (blk_cell BK774.out 1).trans rfl
              have hfz26_0 := blk_frozen BK774.out 0
              have hfz26_1 := blk_frozen BK774.out 1
              obtain ⟨Ao27, co27, eo27⟩ := Kd.R_slice HO_5.out
              subst eo27
              have p789 : 0 ≤ (x7_2 : Int) := oT (by first | (with_reducible assumption) | assumption)
              have q789 : x7_2 < (t779.length : Int) := oT (by first | (with_reducible assumption) | assumption)
              obtain ⟨ad789, e789, hx789_0⟩ := Kd.at_int (Kd.R_reads' HO_5.out).2.2 x7_2 p789 q789
              cases e789
              replace p789 := eq_true p789
              replace q789 := eq_true q789
              obtain ⟨Ao28, co28, eo28⟩ := Kd.R_slice HO_6.out
              subst eo28
              have p790 : 0 ≤ (x7_2 : Int) := oT (by first | (with_reducible assumption) | assumption)
              have q790 : x7_2 < (t786.length : Int) := oT (by first | (with_reducible assumption) | assumption)
              obtain ⟨ad790, e790, hx790_0⟩ := Kd.at_int (Kd.R_reads' HO_6.out).2.2 x7_2 p790 q790
              cases e790
              replace p790 := eq_true p790
              replace q790 := eq_true q790
              go_wp2_with (first | ((with_reducible refine gate_builtin (b := .append) (xs := #[.tmp 43, .tmp 45]) rfl ?_); at_builtin; refine Kd.R_append (Kd.int .i64) (w0 := w) w.heap.size rfl (.tmp 43) (.tmp 45) 41 3 (.int .i64 0) 8 rfl Try.underlying41 info3 rfl (by decide) (by omega) u3 x3_2 x7_2 [.int .i64 x7_2] (fun k_ => some k_ ≠ (.slice (some ad789) t779.length co27 : Value).ownBlock ∧ some k_ ≠ (.slice (some ad790) t786.length co28 : Value).ownBlock) (fun _ => False) rfl rfl ?aP (fun _ hk => hk.elim) ?aF ?aO ?aB ?aS ?aL ?_; (case aP => exact rfl); (case aB => exact (bl1 HB GE774)); (case aF => exact (fun k_ hk => ⟨Kd.fresh' (Kd.R_lt (rk HO_5)) k_ hk, Kd.fresh' (Kd.R_lt (rk HO_6)) k_ hk⟩)); (case aO => exact (rk HO_3)); (case aS => exact (below_size (bl1 HB GE774))); (case aL => have := LMc25.out; omega); intro v792 w29 ho hb hg hat; rw [← Ny791.out] at ho; have n0_ := Aside0.mk (Kd.R_after (ok := (fun k_ => some k_ ≠ (.slice (some ad790) t786.length co28 : Value).ownBlock)) (by (with_reducible repeat (first | apply Kd.R_alloc | apply Kd.R_drewN | apply Kd.R_drew)); exact Kd.R_mono HO_5.out (fun _ hk => ⟨hk.2, hk.1⟩)) hg hat); have n1_ := Aside0.mk (Kd.R_after (ok := (fun k_ => some k_ ≠ (.slice (some ad789) t779.length co27 : Value).ownBlock)) (by (with_reducible repeat (first | apply Kd.R_alloc | apply Kd.R_drewN | apply Kd.R_drew)); exact Kd.R_mono HO_6.out (fun _ hk => ⟨hk.2, hk.1⟩)) hg hat); have n2_ := Aside0.mk (blk_grown (bk BK774) hg (Kd.R_ne HO_3.out BK774.out (by decide))); have n3_ := Aside0.mk (hb); have n4_ := Aside0.mk (ho); clear HO_5; clear HO_6; clear BK774; clear HB; clear HO_3; have HO_5 := n0_; have HO_6 := n1_; have BK774 := n2_; have HB := n3_; have HO793 := n4_; clear n0_ n1_ n2_ n3_ n4_; clear ho hb hg hat))
              go_roundg k2
              case measure => have := HK1.out; have := HK2.out; omega
              case rel => exact ⟨(y791), (wrap64 (x4_1 + 1)), (by first | rfl | (simp; done) | (simp [*]; done)), H', ⟨by have := HK1.out; have := HK2.out; omega⟩, ⟨by (with_reducible repeat (first | apply Kd.R_alloc | apply Kd.R_drewN | apply Kd.R_drew)); exact Kd.R_mono HO793.out (fun _ hk => trivial)⟩, ⟨bk BK774⟩, ⟨bl1 HB GE774⟩⟩
             ·rw [if_neg c25] at H
              exact absurd H (by simp)
            ·rw [if_neg c24] at H
             have c24b0 : decide ((rd t786 x7_2) < 99999) = false := decide_eq_false c24
             clear c24
             have H' := Aside0.mk H
             clear H
             have hcz30_0 : wr.cell? ⟨gb774, 0, none⟩ = some (.int .i64 a0_0) := (blk_cell BK774.out 0).trans rfl
             have hcz30_1 : wr.cell? ⟨gb774, 1, none⟩ = some (.slice A0_1 l0_1.length c0_1) := (blk_cell BK774.out 1).trans rfl
             have hfz30_0 := blk_frozen BK774.out 0
             have hfz30_1 := blk_frozen BK774.out 1
             obtain ⟨Ao31, co31, eo31⟩ := Kd.R_slice HO_5.out
             subst eo31
             have p789 : 0 ≤ (x7_2 : Int) := oT (by first | (with_reducible assumption) | assumption)
             have q789 : x7_2 < (t779.length : Int) := oT (by first | (with_reducible assumption) | assumption)
             obtain ⟨ad789, e789, hx789_0⟩ := Kd.at_int (Kd.R_reads' HO_5.out).2.2 x7_2 p789 q789
             cases e789
             replace p789 := eq_true p789
             replace q789 := eq_true q789
             obtain ⟨Ao32, co32, eo32⟩ := Kd.R_slice HO_6.out
             subst eo32
             have p790 : 0 ≤ (x7_2 : Int) := oT (by first | (with_reducible assumption) | assumption)
             have q790 : x7_2 < (t786.length : Int) := oT (by first | (with_reducible assumption) | assumption)
             obtain ⟨ad790, e790, hx790_0⟩ := Kd.at_int (Kd.R_reads' HO_6.out).2.2 x7_2 p790 q790
             cases e790
             replace p790 := eq_true p790
             replace q790 := eq_true q790
             go_wp2
             go_roundg k2
             case measure => have := HK1.out; have := HK2.out; omega
             case rel => exact ⟨(x3_2), (wrap64 (x7_2 + 1)), (by first | rfl | (simp; done) | (simp [*]; done)), H', ⟨by have := HK1.out; have := HK2.out; omega⟩, ⟨rk HO_3⟩, ⟨rk HO_5⟩, ⟨rk HO_6⟩, ⟨bk BK774⟩, ⟨bl1 HB GE774⟩⟩
           ·rw [if_neg c23] at H
            exact absurd H (by simp)
          ·rw [if_neg c22] at H
           have c22b0 : decide ((rd t779 x7_2) < 99999) = false := decide_eq_false c22
           clear c22
           have H' := Aside0.mk H
           clear H
           have hcz33_0 : wr.cell? ⟨gb774, 0, none⟩ = some (.int .i64 a0_0) := (blk_cell BK774.out 0).trans rfl
           have hcz33_1 : wr.cell? ⟨gb774, 1, none⟩ = some (.slice A0_1 l0_1.length c0_1) := (blk_cell BK774.out 1).trans rfl
           have hfz33_0 := blk_frozen BK774.out 0
           have hfz33_1 := blk_frozen BK774.out 1
           obtain ⟨Ao34, co34, eo34⟩ := Kd.R_slice HO_5.out
           subst eo34
           have p789 : 0 ≤ (x7_2 : Int) := oT (by first | (with_reducible assumption) | assumption)
           have q789 : x7_2 < (t779.length : Int) := oT (by first | (with_reducible assumption) | assumption)
           obtain ⟨ad789, e789, hx789_0⟩ := Kd.at_int (Kd.R_reads' HO_5.out).2.2 x7_2 p789 q789
           cases e789
           replace p789 := eq_true p789
           replace q789 := eq_true q789
           go_wp2
           go_roundg k2
           case measure => have := HK1.out; have := HK2.out; omega
           case rel => exact ⟨(x3_2), (wrap64 (x7_2 + 1)), (by first | rfl | (simp; done) | (simp [*]; done)), H', ⟨by have := HK1.out; have := HK2.out; omega⟩, ⟨rk HO_3⟩, ⟨rk HO_5⟩, ⟨rk HO_6⟩, ⟨bk BK774⟩, ⟨bl1 HB GE774⟩⟩
         ·rw [if_neg c21] at H
          exact absurd H (by simp)
        ·rw [if_neg c20] at H
         exact absurd H (by simp)
       ·rw [if_neg c19] at H
        have c19b0 : decide (x7_2 < a0_0) = false := decide_eq_false c19
        clear c19
        have H' := Aside0.mk H
        clear H
        have hcz35_0 : wr.cell? ⟨gb774, 0, none⟩ = some (.int .i64 a0_0) := (blk_cell BK774.out 0).trans rfl
        have hcz35_1 : wr.cell? ⟨gb774, 1, none⟩ = some (.slice A0_1 l0_1.length c0_1) := (blk_cell BK774.out 1).trans rfl
        have hfz35_0 := blk_frozen BK774.out 0
        have hfz35_1 := blk_frozen BK774.out 1
        go_wp2
        go_roundg k2
        case measure => have := HK1.out; have := HK2.out; omega
        case rel => exact ⟨(x3_2), (wrap64 (x4_1 + 1)), (by first | rfl | (simp; done) | (simp [*]; done)), H', ⟨by have := HK1.out; have := HK2.out; omega⟩, ⟨by (with_reducible repeat (first | apply Kd.R_alloc | apply Kd.R_drewN | apply Kd.R_drew)); exact Kd.R_mono HO_3.out (fun _ hk => trivial)⟩, ⟨bk BK774⟩, ⟨bl1 HB GE774⟩⟩
    ·rw [if_neg c9] at H
     have c9b0 : decide (x4_1 < a0_0) = false := decide_eq_false c9
     clear c9
     obtain rfl := Option.some.inj H
     have hcz36_0 : wr.cell? ⟨gb774, 0, none⟩ = some (.int .i64 a0_0) := (blk_cell BK774.out 0).trans rfl
     have hcz36_1 : wr.cell? ⟨gb774, 1, none⟩ = some (.slice A0_1 l0_1.length c0_1) := (blk_cell BK774.out 1).trans rfl
     have hfz36_0 := blk_frozen BK774.out 0
     have hfz36_1 := blk_frozen BK774.out 1
     go_wp2
     go_ret
     exact ⟨_, by first | rfl | (simp [errW_none, errW_some] <;> rfl) | (simp [*, errW_none, errW_some] <;> rfl), rk HO_3, bl1 HB GE774⟩
 ·replace c3 := Bool.eq_false_iff.mpr c3
  subst c3
  rw [if_neg (show ¬ (false = true) by decide)] at H
  obtain rfl := Option.some.inj H
  go_enter Try.func45, Try.ntmps45
  go_wp2_with (first | ((with_reducible refine gate_dst (N := 1) rfl ?_); refine box_event ?hg (N := 1) ?hd (cs := #[.int .i64 a0_0, .slice A0_1 l0_1.length c0_1]) (t := 25) ?hr ?_; (case hd => rfl); (case hg => rfl); (case hr => first | (go_simp; done) | (go_simp; rfl)); intro gb774 hg w37 hbox hb; have n0_ := Aside0.mk (below_step (bl HB) hb); have n1_ := Aside0.mk (hbox); have n2_ := Aside0.mk ((by rw [hg]; exact (below_size (bl HB)) : w.heap.size ≤ gb774)); have n3_ := Aside0.mk ((by rw [hg]; exact (below_size (bl HB)) : w.heap.size ≤ gb774)); clear HB; have HB := n0_; have BK774 := n1_; have GW774 := n2_; have GE774 := n3_; clear n0_ n1_ n2_ n3_; clear hb hbox hg) | ((with_reducible refine gate_dst (N := 8) rfl ?_); refine Kd.R_lit (Kd.int .i64) _ 3 ?hg (N := 8) ?hd (xs := ([] : List Int)) (inner := []) (ok := fun _ => True) (okp := fun _ => True) ?hr ?hp (fun _ hk => hk) trivial (Below.refl _ _) (Nat.le_refl _) (by simp) ?_; (case hd => rfl); (case hg => rfl); (case hr => first | (go_simp; done) | (go_simp; rfl)); (case hp => exact (Reps.none _ _)); intro v776 w38 ho39 hb hg_ hnew_; clear hg_ hnew_; (first | rw [← Ny775.out] at ho39 | (simp only [Int.reduceToNat] at ho39; rw [← Ny775.out] at ho39)); have n0_ := Aside0.mk (Kd.R_lower ho39 (below_size (bl1 HB GE774))); have n1_ := Aside0.mk (blk_below (bk BK774) hb); have n2_ := Aside0.mk (below_step (bl1 HB GE774) hb); clear BK774; clear HB; have HO777 := n0_; have BK774 := n1_; have HB := n2_; clear n0_ n1_ n2_; clear hb ho39; have hcz40_0 : w38.cell? ⟨gb774, 0, none⟩ = some (.int .i64 a0_0) := (blk_cell BK774.out 0).trans rfl; have hcz40_1 : w38.cell? ⟨gb774, 1, none⟩ = some (.slice A0_1 l0_1.length c0_1) := (blk_cell BK774.out 1).trans rfl; have hfz40_0 := blk_frozen BK774.out 0; have hfz40_1 := blk_frozen BK774.out 1) | ((with_reducible refine gate_callee (f := 62) rfl ?_); refine goesL_ (some 10) rfl rfl Try.func62 (by kernel_rfl) rfl #[.agg #[.int .i64 a0_0, .slice A0_1 l0_1.length c0_1]] rfl (by (try simp only [List.map_toArray, List.map_cons, List.map_nil]); first | done | rfl | (simp only [List.length_drop, List.length_take]; rfl)) ?_; (with_reducible refine (spec_l1Ok.calls k a0_0 _ _ l0_1 false _ ?side1 ?side2 A2.out).mono ?_); (case side1 => repeat (first | exact (Kd.C_below HR0_1.out HB.out) | (with_reducible refine Kd.C_alloc ?_ _) | (with_reducible refine Kd.C_drewN ?_ _) | (with_reducible refine Kd.C_drew ?_))); (case side2 => exact HC0_1.out); rintro e w41 ⟨rfl, hb⟩; refine ⟨_, rfl, ?_⟩; have n0_ := Aside0.mk (Kd.R_below (rk HO777) hb); have n1_ := Aside0.mk (blk_below (bk BK774) hb); have n2_ := Aside0.mk (below_step (bl1 HB GE774) hb); clear HO777; clear BK774; clear HB; have HO777 := n0_; have BK774 := n1_; have HB := n2_; clear n0_ n1_ n2_; (try clear hb); (try clear hb2); (try clear hk); (try clear hi)))
  go_ret
  exact ⟨_, by first | rfl | (simp [errW_none, errW_some] <;> rfl) | (simp [*, errW_none, errW_some] <;> rfl), by first | exact Kd.R_nil _ _ _ _ _ | exact Kd.N_nil _ _ _ _ _ | exact Kd.V_nil _ _ _ _ _ | exact Kd.Q_nil _ _ _ _ _ | exact Kd.S_nil _ _ _ _ _, bl1 HB GE774⟩

end Go.Proofs.Ythgihpbpebbebaa.F
