-- Printed by wip/px/px.py of this claim's repository (the kit's printer, extended there). Lean checks it.
import Derived.Test.YthgihpbpebbebaaFKinds
import Derived.Test.YthgihpbpebbebaaFspecl1In
import Derived.Test.YthgihpbpebbebaaFspecl1Ok
import Derived.Test.YthgihpbpebbebaaFspecl3All
namespace Go.Proofs.Ythgihpbpebbebaa.F
open Go.RowKit Go.Proofs.YthgihpbpebbebaaW.PrintWords Go.Proofs.YthgihpbpebbebaaW.PrintLast Go.Proofs.YthgihpbpebbebaaW.PrintMore
attribute [local go_sem] max2_int min2_int max_two min_two max_three min_three max_four min_four   -- for this text's walks alone
set_option linter.unusedVariables false
set_option linter.unusedSimpArgs false

/-! ### spec_ReachArcs: function 51 -/
mutual
def spec_ReachArcs.j0 : Nat → Int → Int → List Int → Bool → Int → List (S31) → Option (List Int)
 | 0, _, _, _, _, _, _ => none
 | k + 1, x1, x2, x7, x23, x917000, x917001 => if x23 = true then (some ([] : List Int)) else ((spec_l3All.f k x917000 x917001 x1).bind fun t922 => (spec_ReachArcs.l0 k x2 x7 t922 0 x917000 x917001))
def spec_ReachArcs.l0 : Nat → Int → List Int → List Int → Int → Int → List (S31) → Option (List Int)
 | 0, _, _, _, _, _, _ => none
 | k + 1, x2, x7, x8, x9, x917000, x917001 => if x9 < (x917001.length : Int) then (if 0 ≤ x9 then (if 0 ≤ ((rd_T31 x917001 x9).f0) then (if ((rd_T31 x917001 x9).f0) < (x8.length : Int) then (if (rd x8 ((rd_T31 x917001 x9).f0)) ≥ 99999 then (spec_ReachArcs.j2 k x2 x7 x8 x9 ((rd_T31 x917001 x9).f2) true x917000 x917001 ((rd_T31 x917001 x9).f0) ((rd_T31 x917001 x9).f1) ((rd_T31 x917001 x9).f2) ((rd_T31 x917001 x9).f3) ((rd_T31 x917001 x9).f4)) else (spec_ReachArcs.j2 k x2 x7 x8 x9 ((rd_T31 x917001 x9).f2) (decide ((rd x8 ((rd_T31 x917001 x9).f0)) > x2)) x917000 x917001 ((rd_T31 x917001 x9).f0) ((rd_T31 x917001 x9).f1) ((rd_T31 x917001 x9).f2) ((rd_T31 x917001 x9).f3) ((rd_T31 x917001 x9).f4))) else (none)) else (none)) else (none)) else (some x7)
def spec_ReachArcs.j2 : Nat → Int → List Int → List Int → Int → Int → Bool → Int → List (S31) → Int → Int → Int → Int → Int → Option (List Int)
 | 0, _, _, _, _, _, _, _, _, _, _, _, _, _ => none
 | k + 1, x2, x7, x8, x9, x11, x55, x917000, x917001, x927000, x927001, x927002, x927003, x927004 => if x55 = true then (if x7.length < 17592186044416 then (spec_ReachArcs.l0 k x2 (x7 ++ [(-1)]) x8 (wrap64 (x9 + 1)) x917000 x917001) else (none)) else (if 0 ≤ x927000 then (if x927000 < (x8.length : Int) then (if (wrap64 (x2 - (rd x8 x927000))) < x11 then (if x7.length < 17592186044416 then (spec_ReachArcs.l0 k x2 (x7 ++ [wrap64 (x2 - (rd x8 x927000))]) x8 (wrap64 (x9 + 1)) x917000 x917001) else (none)) else (if x7.length < 17592186044416 then (spec_ReachArcs.l0 k x2 (x7 ++ [x11]) x8 (wrap64 (x9 + 1)) x917000 x917001) else (none))) else (none)) else (none))
end
def spec_ReachArcs.f (k : Nat) (a0_0 : Int) (l0_1 : List (S31)) (a1 : Int) (a2 : Int) : Option (List Int) := (some (([] : List Int) : List Int)).bind fun y917 => ((spec_l1Ok.f k a0_0 l0_1).bind fun t920 => (if t920 = true then ((spec_l1In.f a1 0 (wrap64 (a0_0 - 1))).bind fun t921 => (spec_ReachArcs.j0 k a1 a2 y917 (!t921) a0_0 l0_1)) else (spec_ReachArcs.j0 k a1 a2 y917 true a0_0 l0_1)))
theorem spec_ReachArcs.mono_l : ∀ k, (∀ y0 y1 y2 y3 y4 y5, LeO (spec_ReachArcs.j0 k y0 y1 y2 y3 y4 y5) (spec_ReachArcs.j0 (k + 1) y0 y1 y2 y3 y4 y5)) ∧ (∀ y0 y1 y2 y3 y4 y5, LeO (spec_ReachArcs.l0 k y0 y1 y2 y3 y4 y5) (spec_ReachArcs.l0 (k + 1) y0 y1 y2 y3 y4 y5)) ∧ (∀ y0 y1 y2 y3 y4 y5 y6 y7 y8 y9 y10 y11 y12, LeO (spec_ReachArcs.j2 k y0 y1 y2 y3 y4 y5 y6 y7 y8 y9 y10 y11 y12) (spec_ReachArcs.j2 (k + 1) y0 y1 y2 y3 y4 y5 y6 y7 y8 y9 y10 y11 y12))
 | 0 => ⟨fun _ _ _ _ _ _ r h => by simp [spec_ReachArcs.j0] at h, fun _ _ _ _ _ _ r h => by simp [spec_ReachArcs.l0] at h, fun _ _ _ _ _ _ _ _ _ _ _ _ _ r h => by simp [spec_ReachArcs.j2] at h⟩
 | k + 1 => by
  obtain ⟨ih0, ih1, ih2⟩ := spec_ReachArcs.mono_l k
  refine ⟨?_, ?_, ?_⟩
  ·intro y0 y1 y2 y3 y4 y5
   unfold spec_ReachArcs.j0
   repeat' first
   | (with_reducible exact ih0 _ _ _ _ _ _)
   | (with_reducible exact ih1 _ _ _ _ _ _)
   | (with_reducible exact ih2 _ _ _ _ _ _ _ _ _ _ _ _ _)
   | (with_reducible exact spec_l1Ok.mono _ _ _)
   | (with_reducible exact spec_l3All.mono _ _ _ _)
   | (with_reducible exact LeO.refl _)
   | (with_reducible exact LeO.none _)
   | (with_reducible refine LeO.ite ?_ ?_)
   | (with_reducible refine LeO.bind ?_ (fun _ => ?_))
   | exact ih0 _ _ _ _ _ _
   | exact ih1 _ _ _ _ _ _
   | exact ih2 _ _ _ _ _ _ _ _ _ _ _ _ _
   | exact spec_l1Ok.mono _ _ _
   | exact spec_l3All.mono _ _ _ _
   | exact LeO.none _
   | refine LeO.ite ?_ ?_
   | refine LeO.bind ?_ (fun _ => ?_)
  ·intro y0 y1 y2 y3 y4 y5
   unfold spec_ReachArcs.l0
   repeat' first
   | (with_reducible exact ih0 _ _ _ _ _ _)
   | (with_reducible exact ih1 _ _ _ _ _ _)
   | (with_reducible exact ih2 _ _ _ _ _ _ _ _ _ _ _ _ _)
   | (with_reducible exact spec_l1Ok.mono _ _ _)
   | (with_reducible exact spec_l3All.mono _ _ _ _)
   | (with_reducible exact LeO.refl _)
   | (with_reducible exact LeO.none _)
   | (with_reducible refine LeO.ite ?_ ?_)
   | (with_reducible refine LeO.bind ?_ (fun _ => ?_))
   | exact ih0 _ _ _ _ _ _
   | exact ih1 _ _ _ _ _ _
   | exact ih2 _ _ _ _ _ _ _ _ _ _ _ _ _
   | exact spec_l1Ok.mono _ _ _
   | exact spec_l3All.mono _ _ _ _
   | exact LeO.none _
   | refine LeO.ite ?_ ?_
   | refine LeO.bind ?_ (fun _ => ?_)
  ·intro y0 y1 y2 y3 y4 y5 y6 y7 y8 y9 y10 y11 y12
   unfold spec_ReachArcs.j2
   repeat' first
   | (with_reducible exact ih0 _ _ _ _ _ _)
   | (with_reducible exact ih1 _ _ _ _ _ _)
   | (with_reducible exact ih2 _ _ _ _ _ _ _ _ _ _ _ _ _)
   | (with_reducible exact spec_l1Ok.mono _ _ _)
   | (with_reducible exact spec_l3All.mono _ _ _ _)
   | (with_reducible exact LeO.refl _)
   | (with_reducible exact LeO.none _)
   | (with_reducible refine LeO.ite ?_ ?_)
   | (with_reducible refine LeO.bind ?_ (fun _ => ?_))
   | exact ih0 _ _ _ _ _ _
   | exact ih1 _ _ _ _ _ _
   | exact ih2 _ _ _ _ _ _ _ _ _ _ _ _ _
   | exact spec_l1Ok.mono _ _ _
   | exact spec_l3All.mono _ _ _ _
   | exact LeO.none _
   | refine LeO.ite ?_ ?_
   | refine LeO.bind ?_ (fun _ => ?_)
theorem spec_ReachArcs.mono : ∀ a0 a1 a2 a3 k, LeO (spec_ReachArcs.f k a0 a1 a2 a3) (spec_ReachArcs.f (k + 1) a0 a1 a2 a3) := by
 intro a0 a1 a2 a3 k
 obtain ⟨ih0, ih1, ih2⟩ := spec_ReachArcs.mono_l k
 unfold spec_ReachArcs.f
 repeat' first
   | (with_reducible exact ih0 _ _ _ _ _ _)
   | (with_reducible exact ih1 _ _ _ _ _ _)
   | (with_reducible exact ih2 _ _ _ _ _ _ _ _ _ _ _ _ _)
   | (with_reducible exact spec_l1Ok.mono _ _ _)
   | (with_reducible exact spec_l3All.mono _ _ _ _)
   | (with_reducible exact LeO.refl _)
   | (with_reducible exact LeO.none _)
   | (with_reducible refine LeO.ite ?_ ?_)
   | (with_reducible refine LeO.bind ?_ (fun _ => ?_))
   | exact ih0 _ _ _ _ _ _
   | exact ih1 _ _ _ _ _ _
   | exact ih2 _ _ _ _ _ _ _ _ _ _ _ _ _
   | exact spec_l1Ok.mono _ _ _
   | exact spec_l3All.mono _ _ _ _
   | exact LeO.none _
   | refine LeO.ite ?_ ?_
   | refine LeO.bind ?_ (fun _ => ?_)
set_option maxHeartbeats 8000000 in
set_option maxRecDepth 100000 in
theorem spec_ReachArcs.calls (k : Nat) (a0_0 : Int) (A0_1 : Option Addr) (c0_1 : Nat) (l0_1 : List (S31)) (a1 : Int) (a2 : Int) (r : List Int) (w : World) (hr0_1 : Kd.C k31 w A0_1 l0_1.length l0_1) (hc0_1 : l0_1.length ≤ c0_1) (h : spec_ReachArcs.f k a0_0 l0_1 a1 a2 = some r) :
  Calls Try.prog 51 #[.agg #[.int .i64 a0_0, .slice A0_1 l0_1.length c0_1], .int .i64 a1, .int .i64 a2] w fun e w' => ∃ v0_ : Value, e = .returned (v0_) ∧ Kd.R (Kd.int .i64) 3 w' w.heap.size (fun _ => True) v0_ r ∧ Below w.heap.size w w' := by
 have hu25 := Try.underlying25
 have hu31 := Try.underlying31
 have HR0_1 := Aside0.mk hr0_1
 have HC0_1 := Aside0.mk hc0_1
 clear hr0_1 hc0_1
 have HB := Aside0.mk (Below.refl w.heap.size w)
 have H : ((some (([] : List Int) : List Int)).bind fun y917 => ((spec_l1Ok.f k a0_0 l0_1).bind fun t920 => (if t920 = true then ((spec_l1In.f a1 0 (wrap64 (a0_0 - 1))).bind fun t921 => (spec_ReachArcs.j0 k a1 a2 y917 (!t921) a0_0 l0_1)) else (spec_ReachArcs.j0 k a1 a2 y917 true a0_0 l0_1)))) = some r := h
 clear h
 obtain ⟨y917, hy917⟩ : ∃ y_ : List Int, y_ = (([] : List Int)) := ⟨_, rfl⟩
 replace H : ((spec_l1Ok.f k a0_0 l0_1).bind fun t920 => (if t920 = true then ((spec_l1In.f a1 0 (wrap64 (a0_0 - 1))).bind fun t921 => (spec_ReachArcs.j0 k a1 a2 y917 (!t921) a0_0 l0_1)) else (spec_ReachArcs.j0 k a1 a2 y917 true a0_0 l0_1))) = some r := by first | (rw [hy917]; with_reducible exact H) | (have H2_ := (Option.bind_some _ _).symm.trans H; rw [hy917]; with_reducible exact H2_) | (have H2_ := (Option.bind_some _ _).symm.trans H; with_reducible exact H2_) | with_reducible exact H | (rw [hy917]; exact H) | exact H
 have Ny917 := Aside0.mk hy917
 clear hy917
 have HC4 := Aside0.mk H
 clear H
 go_enter Try.func51, Try.ntmps51
 go_upto_region 2 with (first | ((with_reducible refine gate_dst (N := 3) rfl ?_); refine box_event ?hg (N := 3) ?hd (cs := #[.int .i64 a0_0, .slice A0_1 l0_1.length c0_1]) (t := 25) ?hr ?_; (case hd => rfl); (case hg => rfl); (case hr => first | (go_simp; done) | (go_simp; rfl)); intro gb916 hg w5 hbox hb; have n0_ := Aside0.mk (below_step (bl HB) hb); have n1_ := Aside0.mk (hbox); have n2_ := Aside0.mk ((by rw [hg]; exact (below_size (bl HB)) : w.heap.size ≤ gb916)); have n3_ := Aside0.mk ((by rw [hg]; exact (below_size (bl HB)) : w.heap.size ≤ gb916)); clear HB; have HB := n0_; have BK916 := n1_; have GW916 := n2_; have GE916 := n3_; clear n0_ n1_ n2_ n3_; clear hb hbox hg) | ((with_reducible refine gate_dst (N := 12) rfl ?_); refine Kd.R_lit (Kd.int .i64) _ 3 ?hg (N := 12) ?hd (xs := ([] : List Int)) (inner := []) (ok := fun _ => True) (okp := fun _ => True) ?hr ?hp (fun _ hk => hk) trivial (Below.refl _ _) (Nat.le_refl _) (by simp) ?_; (case hd => rfl); (case hg => rfl); (case hr => first | (go_simp; done) | (go_simp; rfl)); (case hp => exact (Reps.none _ _)); intro v918 w6 ho7 hb hg_ hnew_; clear hg_ hnew_; (first | rw [← Ny917.out] at ho7 | (simp only [Int.reduceToNat] at ho7; rw [← Ny917.out] at ho7)); have n0_ := Aside0.mk (Kd.R_lower ho7 (below_size (bl1 HB GE916))); have n1_ := Aside0.mk (blk_below (bk BK916) hb); have n2_ := Aside0.mk (below_step (bl1 HB GE916) hb); clear BK916; clear HB; have HO919 := n0_; have BK916 := n1_; have HB := n2_; clear n0_ n1_ n2_; clear hb ho7))
 (try simp only [Act.put, List.setIfInBounds_toArray, List.set_cons_zero, List.set_cons_succ])
 go_cut [23] (fun v23 wc => ∃ (kq : Nat) (x23_3 : Bool), v23 = .bool x23_3 ∧ Aside0 (spec_ReachArcs.j0 kq a1 a2 y917 x23_3 a0_0 l0_1 = some r) ∧ Aside0 (kq ≤ k) ∧ Aside0 (Kd.R (Kd.int .i64) 3 wc w.heap.size (fun _ => True) v918 y917) ∧ Aside0 (wc.heap[gb916]? = some (.cells #[.int .i64 a0_0, (.slice A0_1 l0_1.length c0_1)] 25 (0, 0))) ∧ Aside0 (Below w.heap.size w wc))
 case first =>
  have H := HC4.out
  clear HC4
  replace H := Option.bind_eq_some_iff.mp H
  obtain ⟨t920, A80, H⟩ := H
  have A8 := Aside0.mk A80
  clear A80
  by_cases c9 : t920 = true
  ·subst c9
   rw [if_pos rfl] at H
   replace H := Option.bind_eq_some_iff.mp H
   obtain ⟨t921, A100, H⟩ := H
   have A10 := Aside0.mk A100
   clear A100
   have H' := Aside0.mk H
   clear H
   have hcz11_0 : w6.cell? ⟨gb916, 0, none⟩ = some (.int .i64 a0_0) := (blk_cell BK916.out 0).trans rfl
   have hcz11_1 : w6.cell? ⟨gb916, 1, none⟩ = some (.slice A0_1 l0_1.length c0_1) := (blk_cell BK916.out 1).trans rfl
   have hfz11_0 := blk_frozen BK916.out 0
   have hfz11_1 := blk_frozen BK916.out 1
   go_wp2_with (first | ((with_reducible refine gate_callee (f := 62) rfl ?_); refine goesL_ (some 14) rfl rfl Try.func62 (by kernel_rfl) rfl #[.agg #[.int .i64 a0_0, .slice A0_1 l0_1.length c0_1]] rfl (by (try simp only [List.map_toArray, List.map_cons, List.map_nil]); first | done | rfl | (simp only [List.length_drop, List.length_take]; rfl)) ?_; (with_reducible refine (spec_l1Ok.calls k a0_0 _ _ l0_1 true _ ?side1 ?side2 A8.out).mono ?_); (case side1 => repeat (first | exact (Kd.C_below HR0_1.out HB.out) | (with_reducible refine Kd.C_alloc ?_ _) | (with_reducible refine Kd.C_drewN ?_ _) | (with_reducible refine Kd.C_drew ?_))); (case side2 => exact HC0_1.out); rintro e w12 ⟨rfl, hb⟩; refine ⟨_, rfl, ?_⟩; have n0_ := Aside0.mk (Kd.R_below (rk HO919) hb); have n1_ := Aside0.mk (blk_below (bk BK916) hb); have n2_ := Aside0.mk (below_step (bl1 HB GE916) hb); clear HO919; clear BK916; clear HB; have HO919 := n0_; have BK916 := n1_; have HB := n2_; clear n0_ n1_ n2_; (try clear hb); (try clear hb2); (try clear hk); (try clear hi); have hcz13_0 : w12.cell? ⟨gb916, 0, none⟩ = some (.int .i64 a0_0) := (blk_cell BK916.out 0).trans rfl; have hcz13_1 : w12.cell? ⟨gb916, 1, none⟩ = some (.slice A0_1 l0_1.length c0_1) := (blk_cell BK916.out 1).trans rfl; have hfz13_0 := blk_frozen BK916.out 0; have hfz13_1 := blk_frozen BK916.out 1) | (go_at_call 63; (with_reducible refine (spec_l1In.calls a1 0 (wrap64 (a0_0 - 1)) t921 _ A10.out).mono ?_); rintro e w' ⟨rfl, ⟨nd, rfl⟩⟩))
   go_meet
   case rel => exact ⟨_, (!t921), (by first | rfl | (simp; done) | (simp [*]; done)), H', ⟨by first | omega | exact Nat.le_refl _⟩, ⟨rk HO919⟩, ⟨bk BK916⟩, ⟨bl1 HB GE916⟩⟩
  ·replace c9 := Bool.eq_false_iff.mpr c9
   subst c9
   rw [if_neg (show ¬ (false = true) by decide)] at H
   have H' := Aside0.mk H
   clear H
   have hcz14_0 : w6.cell? ⟨gb916, 0, none⟩ = some (.int .i64 a0_0) := (blk_cell BK916.out 0).trans rfl
   have hcz14_1 : w6.cell? ⟨gb916, 1, none⟩ = some (.slice A0_1 l0_1.length c0_1) := (blk_cell BK916.out 1).trans rfl
   have hfz14_0 := blk_frozen BK916.out 0
   have hfz14_1 := blk_frozen BK916.out 1
   go_wp2_with (first | ((with_reducible refine gate_callee (f := 62) rfl ?_); refine goesL_ (some 14) rfl rfl Try.func62 (by kernel_rfl) rfl #[.agg #[.int .i64 a0_0, .slice A0_1 l0_1.length c0_1]] rfl (by (try simp only [List.map_toArray, List.map_cons, List.map_nil]); first | done | rfl | (simp only [List.length_drop, List.length_take]; rfl)) ?_; (with_reducible refine (spec_l1Ok.calls k a0_0 _ _ l0_1 false _ ?side1 ?side2 A8.out).mono ?_); (case side1 => repeat (first | exact (Kd.C_below HR0_1.out HB.out) | (with_reducible refine Kd.C_alloc ?_ _) | (with_reducible refine Kd.C_drewN ?_ _) | (with_reducible refine Kd.C_drew ?_))); (case side2 => exact HC0_1.out); rintro e w15 ⟨rfl, hb⟩; refine ⟨_, rfl, ?_⟩; have n0_ := Aside0.mk (Kd.R_below (rk HO919) hb); have n1_ := Aside0.mk (blk_below (bk BK916) hb); have n2_ := Aside0.mk (below_step (bl1 HB GE916) hb); clear HO919; clear BK916; clear HB; have HO919 := n0_; have BK916 := n1_; have HB := n2_; clear n0_ n1_ n2_; (try clear hb); (try clear hb2); (try clear hk); (try clear hi)))
   go_meet
   case rel => exact ⟨_, (true), (by first | rfl | (simp; done) | (simp [*]; done)), H', ⟨by first | omega | exact Nat.le_refl _⟩, ⟨rk HO919⟩, ⟨bk BK916⟩, ⟨bl1 HB GE916⟩⟩
 case rest =>
  clear HC4
  try clear p2
  try clear c5
  try clear c6
  try clear p6
  try clear c9
  try clear hcz11_0
  try clear hcz11_1
  try clear hcz13_0
  try clear hcz13_1
  try clear hcz14_0
  try clear hcz14_1
  try clear hfz11_0
  try clear hfz11_1
  try clear hfz13_0
  try clear hfz13_1
  try clear hfz14_0
  try clear hfz14_1
  obtain ⟨kq, x23_3, rfl, HA, HJ3, HO_7, BK916, HB⟩ := hcut
  cases kq with
  | zero => exact absurd HA.out (by simp [spec_ReachArcs.j0])
  | succ kj3 =>
   have H := HA.out
   clear HA
   simp only [spec_ReachArcs.j0] at H
   by_cases c16 : x23_3 = true
   ·subst c16
    rw [if_pos rfl] at H
    obtain rfl := Option.some.inj H
    go_wp2
    go_ret
    exact ⟨_, by first | rfl | (simp [errW_none, errW_some] <;> rfl) | (simp [*, errW_none, errW_some] <;> rfl), by first | exact Kd.R_nil _ _ _ _ _ | exact Kd.N_nil _ _ _ _ _ | exact Kd.V_nil _ _ _ _ _ | exact Kd.Q_nil _ _ _ _ _ | exact Kd.S_nil _ _ _ _ _, bl1 HB GE916⟩
   ·replace c16 := Bool.eq_false_iff.mpr c16
    subst c16
    rw [if_neg (show ¬ (false = true) by decide)] at H
    replace H := Option.bind_eq_some_iff.mp H
    obtain ⟨t922, A170, H⟩ := H
    have A17 := Aside0.mk A170
    clear A170
    have H' := Aside0.mk H
    clear H
    have hcz18_0 : wc.cell? ⟨gb916, 0, none⟩ = some (.int .i64 a0_0) := (blk_cell BK916.out 0).trans rfl
    have hcz18_1 : wc.cell? ⟨gb916, 1, none⟩ = some (.slice A0_1 l0_1.length c0_1) := (blk_cell BK916.out 1).trans rfl
    have hfz18_0 := blk_frozen BK916.out 0
    have hfz18_1 := blk_frozen BK916.out 1
    go_wp2_with (first | ((with_reducible refine gate_callee (f := 90) rfl ?_); refine goesL_ (some 26) rfl rfl Try.func90 (by kernel_rfl) rfl #[.agg #[.int .i64 a0_0, .slice A0_1 l0_1.length c0_1], .int .i64 a1] rfl (by (try simp only [List.map_toArray, List.map_cons, List.map_nil]); first | done | rfl | (simp only [List.length_drop, List.length_take]; rfl)) ?_; (with_reducible refine (spec_l3All.calls kj3 a0_0 _ _ l0_1 a1 t922 _ ?side1 ?side2 A17.out).mono ?_); (case side1 => repeat (first | exact (Kd.C_below HR0_1.out HB.out) | (with_reducible refine Kd.C_alloc ?_ _) | (with_reducible refine Kd.C_drewN ?_ _) | (with_reducible refine Kd.C_drew ?_))); (case side2 => exact HC0_1.out); rintro e w19 ⟨v923, rfl, ho0, hb⟩; refine ⟨_, rfl, ?_⟩; have n0_ := Aside0.mk (Kd.R_elder' (rk HO_7) (Kd.R_base ho0) hb); have n1_ := Aside0.mk (Kd.R_lower (Kd.R_new' ho0 (Kd.R_lt (rk HO_7))) (below_size (bl1 HB GE916))); have n2_ := Aside0.mk (blk_below (bk BK916) hb); have n3_ := Aside0.mk (below_step (bl1 HB GE916) hb); clear HO_7; clear BK916; clear HB; have HO_7 := n0_; have HO924 := n1_; have BK916 := n2_; have HB := n3_; clear n0_ n1_ n2_ n3_; (try clear hb); (try clear hb2); (try clear hk); (try clear hi); (try clear ho0)))
    go_loopg [7, 9] kj3 (fun kq v7 v9 w' => ∃ (x7_2 : List Int) (x9_2 : Int), v9 = .int .i64 x9_2 ∧ Aside0 (spec_ReachArcs.l0 kq a2 x7_2 t922 x9_2 a0_0 l0_1 = some r) ∧ Aside0 (kq ≤ kj3) ∧ Aside0 (Kd.R (Kd.int .i64) 3 w' w.heap.size (fun k_ => some k_ ≠ (v923 : Value).ownBlock) v7 x7_2) ∧ Aside0 (Kd.R (Kd.int .i64) 3 w' w.heap.size (fun k_ => some k_ ≠ (v7 : Value).ownBlock) v923 t922) ∧ Aside0 (w'.heap[gb916]? = some (.cells #[.int .i64 a0_0, (.slice A0_1 l0_1.length c0_1)] 25 (0, 0))) ∧ Aside0 (Below w.heap.size w w'))
    case atStart => exact ⟨(y917), (0), (by first | rfl | (simp; done) | (simp [*]; done)), H', ⟨Nat.le_refl _⟩, ⟨by (with_reducible repeat (first | apply Kd.R_alloc | apply Kd.R_drewN | apply Kd.R_drew)); exact Kd.R_mono HO_7.out (fun _ hk => hk.2)⟩, ⟨by (with_reducible repeat (first | apply Kd.R_alloc | apply Kd.R_drewN | apply Kd.R_drew)); exact Kd.R_mono HO924.out (fun _ hk => hk.2)⟩, ⟨bk BK916⟩, ⟨bl1 HB GE916⟩⟩
    case round =>
     clear H'
     try clear c1
     try clear p2
     try clear c5
     try clear c6
     try clear p6
     try clear c9
     try clear c16
     try clear hcz11_0
     try clear hcz11_1
     try clear hcz13_0
     try clear hcz13_1
     try clear hcz14_0
     try clear hcz14_1
     try clear hcz18_0
     try clear hcz18_1
     try clear hfz11_0
     try clear hfz11_1
     try clear hfz13_0
     try clear hfz13_1
     try clear hfz14_0
     try clear hfz14_1
     try clear hfz18_0
     try clear hfz18_1
     try clear p2
     try clear p6
     obtain ⟨x7_2, x9_2, rfl, HA, HK2, HO_7, HO_8, BK916, HB⟩ := hrel
     cases gk with
     | zero => exact absurd HA.out (by simp [spec_ReachArcs.l0])
     | succ k2 =>
      have H := HA.out
      clear HA
      simp only [spec_ReachArcs.l0] at H
      by_cases c20 : x9_2 < (l0_1.length : Int)
      ·rw [if_pos c20] at H
       have c20b0 : decide (x9_2 < (l0_1.length : Int)) = true := decide_eq_true c20
       clear c20
       by_cases c21 : 0 ≤ x9_2
       ·rw [if_pos c21] at H
        have c21b0 : decide (0 ≤ x9_2) = true := decide_eq_true c21
        clear c21
        have HC22 := Aside0.mk H
        clear H
        have hcz23_0 : wr.cell? ⟨gb916, 0, none⟩ = some (.int .i64 a0_0) := (blk_cell BK916.out 0).trans rfl
        have hcz23_1 : wr.cell? ⟨gb916, 1, none⟩ = some (.slice A0_1 l0_1.length c0_1) := (blk_cell BK916.out 1).trans rfl
        have hfz23_0 := blk_frozen BK916.out 0
        have hfz23_1 := blk_frozen BK916.out 1
        have p925 : 0 ≤ (x9_2 : Int) := oT (by first | (with_reducible assumption) | assumption)
        have q925 : x9_2 < (l0_1.length : Int) := oT (by first | (with_reducible assumption) | assumption)
        obtain ⟨ad925, e925, hx925_0, hx925_1, hx925_2, hx925_3, hx925_4⟩ := at_T31 HR0_1.out x9_2 p925 q925
        cases e925
        replace hx925_0 := hcb HB.out hx925_0
        replace hx925_1 := hcb HB.out hx925_1
        replace hx925_2 := hcb HB.out hx925_2
        replace hx925_3 := hcb HB.out hx925_3
        replace hx925_4 := hcb HB.out hx925_4
        replace p925 := eq_true p925
        replace q925 := eq_true q925
        go_upto_region 10 with (first | ((with_reducible refine gate_dst (N := 10) rfl ?_); refine box_event ?hg (N := 10) ?hd (cs := #[.int .i64 0, .int .i64 0, .int .i64 0, .int .i64 0, .int .i64 0]) (t := 31) ?hr ?_; (case hd => rfl); (case hg => rfl); (case hr => first | (go_simp; done) | (go_simp; rfl)); intro gb926 hg w24 hbox hb; have n0_ := Aside0.mk (Kd.R_below (rk HO_7) hb); have n1_ := Aside0.mk (Kd.R_below (rk HO_8) hb); have n2_ := Aside0.mk (blk_below (bk BK916) hb); have n3_ := Aside0.mk (below_step (bl1 HB GE916) hb); have n4_ := Aside0.mk (hbox); have n5_ := Aside0.mk ((by rw [hg]; exact (below_size (bl1 HB GE916)) : w.heap.size ≤ gb926)); have n6_ := Aside0.mk ((by rw [hg]; exact (below_size (bl1 HB GE916)) : w.heap.size ≤ gb926)); have n7_ := Aside0.mk ((by rw [hg]; exact Nat.ne_of_lt (blk_lt (bk BK916)) : gb916 ≠ gb926)); have n8_ := Aside0.mk ((by rw [hg]; exact Nat.ne_of_gt (blk_lt (bk BK916)) : gb926 ≠ gb916)); clear HO_7; clear HO_8; clear BK916; clear HB; have HO_7 := n0_; have HO_8 := n1_; have BK916 := n2_; have HB := n3_; have BK926 := n4_; have GW926 := n5_; have GE926 := n6_; have NB916_926 := n7_; have NB926_916 := n8_; clear n0_ n1_ n2_ n3_ n4_ n5_ n6_ n7_ n8_; clear hb hbox hg; have hnb25 := NB926_916.out; have hnc25 := NB916_926.out; have hcz26_0 : w24.cell? ⟨gb926, 0, none⟩ = some (.int .i64 0) := (blk_cell BK926.out 0).trans rfl; have hcz26_1 : w24.cell? ⟨gb926, 1, none⟩ = some (.int .i64 0) := (blk_cell BK926.out 1).trans rfl; have hcz26_2 : w24.cell? ⟨gb926, 2, none⟩ = some (.int .i64 0) := (blk_cell BK926.out 2).trans rfl; have hcz26_3 : w24.cell? ⟨gb926, 3, none⟩ = some (.int .i64 0) := (blk_cell BK926.out 3).trans rfl; have hcz26_4 : w24.cell? ⟨gb926, 4, none⟩ = some (.int .i64 0) := (blk_cell BK926.out 4).trans rfl; have hfz26_0 := blk_frozen BK926.out 0; have hfz26_1 := blk_frozen BK926.out 1; have hfz26_2 := blk_frozen BK926.out 2; have hfz26_3 := blk_frozen BK926.out 3; have hfz26_4 := blk_frozen BK926.out 4))
        (try simp only [Act.put, List.setIfInBounds_toArray, List.set_cons_zero, List.set_cons_succ])
        go_cut [55] (fun v55 wc => ∃ (kq : Nat) (x55_21 : Bool), v55 = .bool x55_21 ∧ Aside0 (spec_ReachArcs.j2 kq a2 x7_2 t922 x9_2 ((rd_T31 l0_1 x9_2).f2) x55_21 a0_0 l0_1 ((rd_T31 l0_1 x9_2).f0) ((rd_T31 l0_1 x9_2).f1) ((rd_T31 l0_1 x9_2).f2) ((rd_T31 l0_1 x9_2).f3) ((rd_T31 l0_1 x9_2).f4) = some r) ∧ Aside0 (kq ≤ k2) ∧ Aside0 (Kd.R (Kd.int .i64) 3 wc w.heap.size (fun k_ => some k_ ≠ (v923 : Value).ownBlock) u7 x7_2) ∧ Aside0 (Kd.R (Kd.int .i64) 3 wc w.heap.size (fun k_ => some k_ ≠ (u7 : Value).ownBlock) v923 t922) ∧ Aside0 (wc.heap[gb916]? = some (.cells #[.int .i64 a0_0, (.slice (some ad925) l0_1.length c0_1)] 25 (0, 0))) ∧ Aside0 (wc.heap[gb926]? = some (.cells #[.int .i64 ((rd_T31 l0_1 x9_2).f0), .int .i64 ((rd_T31 l0_1 x9_2).f1), .int .i64 ((rd_T31 l0_1 x9_2).f2), .int .i64 ((rd_T31 l0_1 x9_2).f3), .int .i64 ((rd_T31 l0_1 x9_2).f4)] 31 (0, 0))) ∧ Aside0 (Below w.heap.size w wc))
        case first =>
         have H := HC22.out
         clear HC22
         by_cases c27 : 0 ≤ ((rd_T31 l0_1 x9_2).f0)
         ·rw [if_pos c27] at H
          have c27b0 : decide (0 ≤ ((rd_T31 l0_1 x9_2).f0)) = true := decide_eq_true c27
          clear c27
          (first | rw [c27b0] | (simp only [i64_w, i32_w]; rw [c27b0]) | skip)
          by_cases c28 : ((rd_T31 l0_1 x9_2).f0) < (t922.length : Int)
          ·rw [if_pos c28] at H
           have c28b0 : decide (((rd_T31 l0_1 x9_2).f0) < (t922.length : Int)) = true := decide_eq_true c28
           clear c28
           by_cases c29 : (rd t922 ((rd_T31 l0_1 x9_2).f0)) ≥ 99999
           ·rw [if_pos c29] at H
            have c29b0 : decide (99999 ≤ (rd t922 ((rd_T31 l0_1 x9_2).f0))) = true := decide_eq_true c29
            clear c29
            have H' := Aside0.mk H
            clear H
            have hnb30 := NB926_916.out
            have hnc30 := NB916_926.out
            have hcz31_0 : w24.cell? ⟨gb926, 0, none⟩ = some (.int .i64 0) := (blk_cell BK926.out 0).trans rfl
            have hcz31_1 : w24.cell? ⟨gb926, 1, none⟩ = some (.int .i64 0) := (blk_cell BK926.out 1).trans rfl
            have hcz31_2 : w24.cell? ⟨gb926, 2, none⟩ = some (.int .i64 0) := (blk_cell BK926.out 2).trans rfl
            have hcz31_3 : w24.cell? ⟨gb926, 3, none⟩ = some (.int .i64 0) := (blk_cell BK926.out 3).trans rfl
            have hcz31_4 : w24.cell? ⟨gb926, 4, none⟩ = some (.int .i64 0) := (blk_cell BK926.out 4).trans rfl
            have hfz31_0 := blk_frozen BK926.out 0
            have hfz31_1 := blk_frozen BK926.out 1
            have hfz31_2 := blk_frozen BK926.out 2
            have hfz31_3 := blk_frozen BK926.out 3
            have hfz31_4 := blk_frozen BK926.out 4
            obtain ⟨Ao32, co32, eo32⟩ := Kd.R_slice HO_8.out
            subst eo32
            have p927 : 0 ≤ (((rd_T31 l0_1 x9_2).f0) : Int) := oT (by first | (with_reducible assumption) | assumption)
            have q927 : ((rd_T31 l0_1 x9_2).f0) < (t922.length : Int) := oT (by first | (with_reducible assumption) | assumption)
            obtain ⟨ad927, e927, hx927_0⟩ := Kd.at_int (Kd.R_reads' HO_8.out).2.2 ((rd_T31 l0_1 x9_2).f0) p927 q927
            cases e927
            have hn927_0 : ad927.block ≠ gb926 := Kd.own_blk (Kd.R_ne HO_8.out BK926.out (by decide))
            have hn927_1 : ad927.block ≠ gb926 := Kd.own_blk (Kd.R_ne HO_8.out BK926.out (by decide))
            have hn927_2 : ad927.block ≠ gb926 := Kd.own_blk (Kd.R_ne HO_8.out BK926.out (by decide))
            have hn927_3 : ad927.block ≠ gb926 := Kd.own_blk (Kd.R_ne HO_8.out BK926.out (by decide))
            have hn927_4 : ad927.block ≠ gb926 := Kd.own_blk (Kd.R_ne HO_8.out BK926.out (by decide))
            replace hx927_0 := (cell_far (p := ⟨gb926, 0, none⟩) (by first | (rw [add_block]; exact hn927_0) | (show (Addr.add _ _).block ≠ _; rw [add_block]; exact hn927_0) | exact hn927_0) (.int .i64 ((rd_T31 l0_1 x9_2).f0))).trans hx927_0
            replace hx927_0 := (cell_far (p := ⟨gb926, 1, none⟩) (by first | (rw [add_block]; exact hn927_1) | (show (Addr.add _ _).block ≠ _; rw [add_block]; exact hn927_1) | exact hn927_1) (.int .i64 ((rd_T31 l0_1 x9_2).f1))).trans hx927_0
            replace hx927_0 := (cell_far (p := ⟨gb926, 2, none⟩) (by first | (rw [add_block]; exact hn927_2) | (show (Addr.add _ _).block ≠ _; rw [add_block]; exact hn927_2) | exact hn927_2) (.int .i64 ((rd_T31 l0_1 x9_2).f2))).trans hx927_0
            replace hx927_0 := (cell_far (p := ⟨gb926, 3, none⟩) (by first | (rw [add_block]; exact hn927_3) | (show (Addr.add _ _).block ≠ _; rw [add_block]; exact hn927_3) | exact hn927_3) (.int .i64 ((rd_T31 l0_1 x9_2).f3))).trans hx927_0
            replace hx927_0 := (cell_far (p := ⟨gb926, 4, none⟩) (by first | (rw [add_block]; exact hn927_4) | (show (Addr.add _ _).block ≠ _; rw [add_block]; exact hn927_4) | exact hn927_4) (.int .i64 ((rd_T31 l0_1 x9_2).f4))).trans hx927_0
            clear hn927_0
            clear hn927_1
            clear hn927_2
            clear hn927_3
            clear hn927_4
            replace p927 := eq_true p927
            replace q927 := eq_true q927
            go_wp2
            go_meet
            case rel => exact ⟨_, (true), (by first | rfl | (simp; done) | (simp [*]; done)), H', ⟨by have := HJ3.out; have := HK2.out; first | omega | exact Nat.le_refl _⟩, ⟨by (with_reducible repeat (first | apply Kd.R_alloc | apply Kd.R_drewN | apply Kd.R_drew)); exact Kd.R_mono (Kd.R_far (p := ⟨gb926, 4, none⟩) (Kd.R_far (p := ⟨gb926, 3, none⟩) (Kd.R_far (p := ⟨gb926, 2, none⟩) (Kd.R_far (p := ⟨gb926, 1, none⟩) (Kd.R_far (p := ⟨gb926, 0, none⟩) (Kd.R_types HO_7.out BK926.out (by decide)) (fun _ hk => hk.2) (.int .i64 ((rd_T31 l0_1 x9_2).f0))) (fun _ hk => hk.2) (.int .i64 ((rd_T31 l0_1 x9_2).f1))) (fun _ hk => hk.2) (.int .i64 ((rd_T31 l0_1 x9_2).f2))) (fun _ hk => hk.2) (.int .i64 ((rd_T31 l0_1 x9_2).f3))) (fun _ hk => hk.2) (.int .i64 ((rd_T31 l0_1 x9_2).f4))) (fun _ hk => hk.1)⟩, ⟨by (with_reducible repeat (first | apply Kd.R_alloc | apply Kd.R_drewN | apply Kd.R_drew)); exact Kd.R_mono (Kd.R_far (p := ⟨gb926, 4, none⟩) (Kd.R_far (p := ⟨gb926, 3, none⟩) (Kd.R_far (p := ⟨gb926, 2, none⟩) (Kd.R_far (p := ⟨gb926, 1, none⟩) (Kd.R_far (p := ⟨gb926, 0, none⟩) (Kd.R_types HO_8.out BK926.out (by decide)) (fun _ hk => hk.2) (.int .i64 ((rd_T31 l0_1 x9_2).f0))) (fun _ hk => hk.2) (.int .i64 ((rd_T31 l0_1 x9_2).f1))) (fun _ hk => hk.2) (.int .i64 ((rd_T31 l0_1 x9_2).f2))) (fun _ hk => hk.2) (.int .i64 ((rd_T31 l0_1 x9_2).f3))) (fun _ hk => hk.2) (.int .i64 ((rd_T31 l0_1 x9_2).f4))) (fun _ hk => hk.1)⟩, ⟨by (with_reducible repeat (first | refine blk_drewN ?_ _ | refine blk_drew ?_ | refine blk_alloc ?_ _)); refine blk_far ?_ NB916_926.out _; (with_reducible repeat (first | refine blk_drewN ?_ _ | refine blk_drew ?_ | refine blk_alloc ?_ _)); refine blk_far ?_ NB916_926.out _; (with_reducible repeat (first | refine blk_drewN ?_ _ | refine blk_drew ?_ | refine blk_alloc ?_ _)); refine blk_far ?_ NB916_926.out _; (with_reducible repeat (first | refine blk_drewN ?_ _ | refine blk_drew ?_ | refine blk_alloc ?_ _)); refine blk_far ?_ NB916_926.out _; (with_reducible repeat (first | refine blk_drewN ?_ _ | refine blk_drew ?_ | refine blk_alloc ?_ _)); refine blk_far ?_ NB916_926.out _; (with_reducible repeat (first | refine blk_drewN ?_ _ | refine blk_drew ?_ | refine blk_alloc ?_ _)); exact BK916.out⟩, ⟨by (with_reducible repeat (first | refine blk_drewN ?_ _ | refine blk_drew ?_ | refine blk_alloc ?_ _)); refine blk_put (cs := #[.int .i64 ((rd_T31 l0_1 x9_2).f0), .int .i64 ((rd_T31 l0_1 x9_2).f1), .int .i64 ((rd_T31 l0_1 x9_2).f2), .int .i64 ((rd_T31 l0_1 x9_2).f3), .int .i64 0]) ?_ 4 _ rfl; (with_reducible repeat (first | refine blk_drewN ?_ _ | refine blk_drew ?_ | refine blk_alloc ?_ _)); refine blk_put (cs := #[.int .i64 ((rd_T31 l0_1 x9_2).f0), .int .i64 ((rd_T31 l0_1 x9_2).f1), .int .i64 ((rd_T31 l0_1 x9_2).f2), .int .i64 0, .int .i64 0]) ?_ 3 _ rfl; (with_reducible repeat (first | refine blk_drewN ?_ _ | refine blk_drew ?_ | refine blk_alloc ?_ _)); refine blk_put (cs := #[.int .i64 ((rd_T31 l0_1 x9_2).f0), .int .i64 ((rd_T31 l0_1 x9_2).f1), .int .i64 0, .int .i64 0, .int .i64 0]) ?_ 2 _ rfl; (with_reducible repeat (first | refine blk_drewN ?_ _ | refine blk_drew ?_ | refine blk_alloc ?_ _)); refine blk_put (cs := #[.int .i64 ((rd_T31 l0_1 x9_2).f0), .int .i64 0, .int .i64 0, .int .i64 0, .int .i64 0]) ?_ 1 _ rfl; (with_reducible repeat (first | refine blk_drewN ?_ _ | refine blk_drew ?_ | refine blk_alloc ?_ _)); refine blk_put (cs := #[.int .i64 0, .int .i64 0, .int .i64 0, .int .i64 0, .int .i64 0]) ?_ 0 _ rfl; (with_reducible repeat (first | refine blk_drewN ?_ _ | refine blk_drew ?_ | refine blk_alloc ?_ _)); exact BK926.out⟩, ⟨bl2 HB GE916 GE926⟩⟩
           ·rw [if_neg c29] at H
            have c29b0 : decide (99999 ≤ (rd t922 ((rd_T31 l0_1 x9_2).f0))) = false := decide_eq_false c29
            clear c29
            have H' := Aside0.mk H
            clear H
            have hnb33 := NB926_916.out
            have hnc33 := NB916_926.out
            have hcz34_0 : w24.cell? ⟨gb926, 0, none⟩ = some (.int .i64 0) := (blk_cell BK926.out 0).trans rfl
            have hcz34_1 : w24.cell? ⟨gb926, 1, none⟩ = some (.int .i64 0) := (blk_cell BK926.out 1).trans rfl
            have hcz34_2 : w24.cell? ⟨gb926, 2, none⟩ = some (.int .i64 0) := (blk_cell BK926.out 2).trans rfl
            have hcz34_3 : w24.cell? ⟨gb926, 3, none⟩ = some (.int .i64 0) := (blk_cell BK926.out 3).trans rfl
            have hcz34_4 : w24.cell? ⟨gb926, 4, none⟩ = some (.int .i64 0) := (blk_cell BK926.out 4).trans rfl
            have hfz34_0 := blk_frozen BK926.out 0
            have hfz34_1 := blk_frozen BK926.out 1
            have hfz34_2 := blk_frozen BK926.out 2
            have hfz34_3 := blk_frozen BK926.out 3
            have hfz34_4 := blk_frozen BK926.out 4
            obtain ⟨Ao35, co35, eo35⟩ := Kd.R_slice HO_8.out
            subst eo35
            have p927 : 0 ≤ (((rd_T31 l0_1 x9_2).f0) : Int) := oT (by first | (with_reducible assumption) | assumption)
            have q927 : ((rd_T31 l0_1 x9_2).f0) < (t922.length : Int) := oT (by first | (with_reducible assumption) | assumption)
            obtain ⟨ad927, e927, hx927_0⟩ := Kd.at_int (Kd.R_reads' HO_8.out).2.2 ((rd_T31 l0_1 x9_2).f0) p927 q927
            cases e927
            have hn927_0 : ad927.block ≠ gb926 := Kd.own_blk (Kd.R_ne HO_8.out BK926.out (by decide))
            have hn927_1 : ad927.block ≠ gb926 := Kd.own_blk (Kd.R_ne HO_8.out BK926.out (by decide))
            have hn927_2 : ad927.block ≠ gb926 := Kd.own_blk (Kd.R_ne HO_8.out BK926.out (by decide))
            have hn927_3 : ad927.block ≠ gb926 := Kd.own_blk (Kd.R_ne HO_8.out BK926.out (by decide))
            have hn927_4 : ad927.block ≠ gb926 := Kd.own_blk (Kd.R_ne HO_8.out BK926.out (by decide))
            replace hx927_0 := (cell_far (p := ⟨gb926, 0, none⟩) (by first | (rw [add_block]; exact hn927_0) | (show (Addr.add _ _).block ≠ _; rw [add_block]; exact hn927_0) | exact hn927_0) (.int .i64 ((rd_T31 l0_1 x9_2).f0))).trans hx927_0
            replace hx927_0 := (cell_far (p := ⟨gb926, 1, none⟩) (by first | (rw [add_block]; exact hn927_1) | (show (Addr.add _ _).block ≠ _; rw [add_block]; exact hn927_1) | exact hn927_1) (.int .i64 ((rd_T31 l0_1 x9_2).f1))).trans hx927_0
            replace hx927_0 := (cell_far (p := ⟨gb926, 2, none⟩) (by first | (rw [add_block]; exact hn927_2) | (show (Addr.add _ _).block ≠ _; rw [add_block]; exact hn927_2) | exact hn927_2) (.int .i64 ((rd_T31 l0_1 x9_2).f2))).trans hx927_0
            replace hx927_0 := (cell_far (p := ⟨gb926, 3, none⟩) (by first | (rw [add_block]; exact hn927_3) | (show (Addr.add _ _).block ≠ _; rw [add_block]; exact hn927_3) | exact hn927_3) (.int .i64 ((rd_T31 l0_1 x9_2).f3))).trans hx927_0
            replace hx927_0 := (cell_far (p := ⟨gb926, 4, none⟩) (by first | (rw [add_block]; exact hn927_4) | (show (Addr.add _ _).block ≠ _; rw [add_block]; exact hn927_4) | exact hn927_4) (.int .i64 ((rd_T31 l0_1 x9_2).f4))).trans hx927_0
            clear hn927_0
            clear hn927_1
            clear hn927_2
            clear hn927_3
            clear hn927_4
            replace p927 := eq_true p927
            replace q927 := eq_true q927
            have p928 : 0 ≤ (((rd_T31 l0_1 x9_2).f0) : Int) := oT (by first | (with_reducible assumption) | assumption)
            have q928 : ((rd_T31 l0_1 x9_2).f0) < (t922.length : Int) := oT (by first | (with_reducible assumption) | assumption)
            obtain ⟨ad928, e928, hx928_0⟩ := Kd.at_int (Kd.R_reads' HO_8.out).2.2 ((rd_T31 l0_1 x9_2).f0) p928 q928
            obtain rfl : ad927 = ad928 := (by injection e928)
            have hn928_0 : ad927.block ≠ gb926 := Kd.own_blk (Kd.R_ne HO_8.out BK926.out (by decide))
            have hn928_1 : ad927.block ≠ gb926 := Kd.own_blk (Kd.R_ne HO_8.out BK926.out (by decide))
            have hn928_2 : ad927.block ≠ gb926 := Kd.own_blk (Kd.R_ne HO_8.out BK926.out (by decide))
            have hn928_3 : ad927.block ≠ gb926 := Kd.own_blk (Kd.R_ne HO_8.out BK926.out (by decide))
            have hn928_4 : ad927.block ≠ gb926 := Kd.own_blk (Kd.R_ne HO_8.out BK926.out (by decide))
            replace hx928_0 := (cell_far (p := ⟨gb926, 0, none⟩) (by first | (rw [add_block]; exact hn928_0) | (show (Addr.add _ _).block ≠ _; rw [add_block]; exact hn928_0) | exact hn928_0) (.int .i64 ((rd_T31 l0_1 x9_2).f0))).trans hx928_0
            replace hx928_0 := (cell_far (p := ⟨gb926, 1, none⟩) (by first | (rw [add_block]; exact hn928_1) | (show (Addr.add _ _).block ≠ _; rw [add_block]; exact hn928_1) | exact hn928_1) (.int .i64 ((rd_T31 l0_1 x9_2).f1))).trans hx928_0
            replace hx928_0 := (cell_far (p := ⟨gb926, 2, none⟩) (by first | (rw [add_block]; exact hn928_2) | (show (Addr.add _ _).block ≠ _; rw [add_block]; exact hn928_2) | exact hn928_2) (.int .i64 ((rd_T31 l0_1 x9_2).f2))).trans hx928_0
            replace hx928_0 := (cell_far (p := ⟨gb926, 3, none⟩) (by first | (rw [add_block]; exact hn928_3) | (show (Addr.add _ _).block ≠ _; rw [add_block]; exact hn928_3) | exact hn928_3) (.int .i64 ((rd_T31 l0_1 x9_2).f3))).trans hx928_0
            replace hx928_0 := (cell_far (p := ⟨gb926, 4, none⟩) (by first | (rw [add_block]; exact hn928_4) | (show (Addr.add _ _).block ≠ _; rw [add_block]; exact hn928_4) | exact hn928_4) (.int .i64 ((rd_T31 l0_1 x9_2).f4))).trans hx928_0
            clear hn928_0
            clear hn928_1
            clear hn928_2
            clear hn928_3
            clear hn928_4
            replace p928 := eq_true p928
            replace q928 := eq_true q928
            go_wp2
            go_meet
            case rel => exact ⟨_, (decide ((rd t922 ((rd_T31 l0_1 x9_2).f0)) > a2)), (by first | rfl | (simp; done) | (simp [*]; done)), H', ⟨by have := HJ3.out; have := HK2.out; first | omega | exact Nat.le_refl _⟩, ⟨by (with_reducible repeat (first | apply Kd.R_alloc | apply Kd.R_drewN | apply Kd.R_drew)); exact Kd.R_mono (Kd.R_far (p := ⟨gb926, 4, none⟩) (Kd.R_far (p := ⟨gb926, 3, none⟩) (Kd.R_far (p := ⟨gb926, 2, none⟩) (Kd.R_far (p := ⟨gb926, 1, none⟩) (Kd.R_far (p := ⟨gb926, 0, none⟩) (Kd.R_types HO_7.out BK926.out (by decide)) (fun _ hk => hk.2) (.int .i64 ((rd_T31 l0_1 x9_2).f0))) (fun _ hk => hk.2) (.int .i64 ((rd_T31 l0_1 x9_2).f1))) (fun _ hk => hk.2) (.int .i64 ((rd_T31 l0_1 x9_2).f2))) (fun _ hk => hk.2) (.int .i64 ((rd_T31 l0_1 x9_2).f3))) (fun _ hk => hk.2) (.int .i64 ((rd_T31 l0_1 x9_2).f4))) (fun _ hk => hk.1)⟩, ⟨by (with_reducible repeat (first | apply Kd.R_alloc | apply Kd.R_drewN | apply Kd.R_drew)); exact Kd.R_mono (Kd.R_far (p := ⟨gb926, 4, none⟩) (Kd.R_far (p := ⟨gb926, 3, none⟩) (Kd.R_far (p := ⟨gb926, 2, none⟩) (Kd.R_far (p := ⟨gb926, 1, none⟩) (Kd.R_far (p := ⟨gb926, 0, none⟩) (Kd.R_types HO_8.out BK926.out (by decide)) (fun _ hk => hk.2) (.int .i64 ((rd_T31 l0_1 x9_2).f0))) (fun _ hk => hk.2) (.int .i64 ((rd_T31 l0_1 x9_2).f1))) (fun _ hk => hk.2) (.int .i64 ((rd_T31 l0_1 x9_2).f2))) (fun _ hk => hk.2) (.int .i64 ((rd_T31 l0_1 x9_2).f3))) (fun _ hk => hk.2) (.int .i64 ((rd_T31 l0_1 x9_2).f4))) (fun _ hk => hk.1)⟩, ⟨by (with_reducible repeat (first | refine blk_drewN ?_ _ | refine blk_drew ?_ | refine blk_alloc ?_ _)); refine blk_far ?_ NB916_926.out _; (with_reducible repeat (first | refine blk_drewN ?_ _ | refine blk_drew ?_ | refine blk_alloc ?_ _)); refine blk_far ?_ NB916_926.out _; (with_reducible repeat (first | refine blk_drewN ?_ _ | refine blk_drew ?_ | refine blk_alloc ?_ _)); refine blk_far ?_ NB916_926.out _; (with_reducible repeat (first | refine blk_drewN ?_ _ | refine blk_drew ?_ | refine blk_alloc ?_ _)); refine blk_far ?_ NB916_926.out _; (with_reducible repeat (first | refine blk_drewN ?_ _ | refine blk_drew ?_ | refine blk_alloc ?_ _)); refine blk_far ?_ NB916_926.out _; (with_reducible repeat (first | refine blk_drewN ?_ _ | refine blk_drew ?_ | refine blk_alloc ?_ _)); exact BK916.out⟩, ⟨by (with_reducible repeat (first | refine blk_drewN ?_ _ | refine blk_drew ?_ | refine blk_alloc ?_ _)); refine blk_put (cs := #[.int .i64 ((rd_T31 l0_1 x9_2).f0), .int .i64 ((rd_T31 l0_1 x9_2).f1), .int .i64 ((rd_T31 l0_1 x9_2).f2), .int .i64 ((rd_T31 l0_1 x9_2).f3), .int .i64 0]) ?_ 4 _ rfl; (with_reducible repeat (first | refine blk_drewN ?_ _ | refine blk_drew ?_ | refine blk_alloc ?_ _)); refine blk_put (cs := #[.int .i64 ((rd_T31 l0_1 x9_2).f0), .int .i64 ((rd_T31 l0_1 x9_2).f1), .int .i64 ((rd_T31 l0_1 x9_2).f2), .int .i64 0, .int .i64 0]) ?_ 3 _ rfl; (with_reducible repeat (first | refine blk_drewN ?_ _ | refine blk_drew ?_ | refine blk_alloc ?_ _)); refine blk_put (cs := #[.int .i64 ((rd_T31 l0_1 x9_2).f0), .int .i64 ((rd_T31 l0_1 x9_2).f1), .int .i64 0, .int .i64 0, .int .i64 0]) ?_ 2 _ rfl; (with_reducible repeat (first | refine blk_drewN ?_ _ | refine blk_drew ?_ | refine blk_alloc ?_ _)); refine blk_put (cs := #[.int .i64 ((rd_T31 l0_1 x9_2).f0), .int .i64 0, .int .i64 0, .int .i64 0, .int .i64 0]) ?_ 1 _ rfl; (with_reducible repeat (first | refine blk_drewN ?_ _ | refine blk_drew ?_ | refine blk_alloc ?_ _)); refine blk_put (cs := #[.int .i64 0, .int .i64 0, .int .i64 0, .int .i64 0, .int .i64 0]) ?_ 0 _ rfl; (with_reducible repeat (first | refine blk_drewN ?_ _ | refine blk_drew ?_ | refine blk_alloc ?_ _)); exact BK926.out⟩, ⟨bl2 HB GE916 GE926⟩⟩
          ·rw [if_neg c28] at H
           exact absurd H (by simp)
         ·rw [if_neg c27] at H
          exact absurd H (by simp)
        case rest =>
         clear HC22
         try clear c1
         try clear c2
         try clear p2
         try clear c3
         try clear c5
         try clear c6
         try clear p6
         try clear c9
         try clear p9
         try clear q9
         try clear hx9
         try clear c16
         try clear c20
         try clear c20b0
         try clear c21
         try clear c21b0
         try clear c25
         try clear c27
         try clear c27b0
         try clear c28
         try clear c28b0
         try clear c29
         try clear c29b0
         try clear c30
         try clear c33
         try clear hcz11_0
         try clear hcz11_1
         try clear hcz13_0
         try clear hcz13_1
         try clear hcz14_0
         try clear hcz14_1
         try clear hcz18_0
         try clear hcz18_1
         try clear hcz23_0
         try clear hcz23_1
         try clear hcz26_0
         try clear hcz26_1
         try clear hcz26_2
         try clear hcz26_3
         try clear hcz26_4
         try clear hcz31_0
         try clear hcz31_1
         try clear hcz31_2
         try clear hcz31_3
         try clear hcz31_4
         try clear hcz34_0
         try clear hcz34_1
         try clear hcz34_2
         try clear hcz34_3
         try clear hcz34_4
         try clear hfz11_0
         try clear hfz11_1
         try clear hfz13_0
         try clear hfz13_1
         try clear hfz14_0
         try clear hfz14_1
         try clear hfz18_0
         try clear hfz18_1
         try clear hfz23_0
         try clear hfz23_1
         try clear hfz26_0
         try clear hfz26_1
         try clear hfz26_2
         try clear hfz26_3
         try clear hfz26_4
         try clear hfz31_0
         try clear hfz31_1
         try clear hfz31_2
         try clear hfz31_3
         try clear hfz31_4
         try clear hfz34_0
         try clear hfz34_1
         try clear hfz34_2
         try clear hfz34_3
         try clear hfz34_4
         try clear hx925_0
         try clear hx925_1
         try clear hx925_2
         try clear hx925_3
         try clear hx925_4
         try clear hx927_0
         try clear hx928_0
         try clear p2
         try clear p6
         try clear p925
         try clear p927
         try clear p928
         try clear q925
         try clear q927
         try clear q928
         obtain ⟨kq, x55_21, rfl, HA, HJ21, HO_7, HO_8, BK916, BK926, HB⟩ := hcut
         cases kq with
         | zero => exact absurd HA.out (by simp [spec_ReachArcs.j2])
         | succ kj21 =>
          have H := HA.out
          clear HA
          simp only [spec_ReachArcs.j2] at H
          by_cases c36 : x55_21 = true
          ·subst c36
           rw [if_pos rfl] at H
           by_cases c37 : x7_2.length < 17592186044416
           ·rw [if_pos c37] at H
            have LMc37 := Aside0.mk c37
            clear c37
            obtain ⟨y929, hy929⟩ : ∃ y_ : List Int, y_ = (x7_2 ++ [(-1)]) := ⟨_, rfl⟩
            replace H : (spec_ReachArcs.l0 kj21 a2 y929 t922 (wrap64 (x9_2 + 1)) a0_0 l0_1) = some r := by first | (rw [hy929]; with_reducible exact H) | (have H2_ := (Option.bind_some _ _).symm.trans H; rw [hy929]; with_reducible exact H2_) | (have H2_ := (Option.bind_some _ _).symm.trans H; with_reducible exact H2_) | with_reducible exact H | (rw [hy929]; exact H) | exact H
            have Ny929 := Aside0.mk hy929
            clear hy929
            have H' := Aside0.mk H
            clear H
            go_wp2_with (first | ((with_reducible refine gate_builtin (b := .append) (xs := #[.tmp 72, .tmp 74]) rfl ?_); at_builtin; refine Kd.R_append (Kd.int .i64) (w0 := w) w.heap.size rfl (.tmp 72) (.tmp 74) 41 3 (.int .i64 0) 8 rfl Try.underlying41 info3 rfl (by decide) (by omega) u7 x7_2 (-1) [.int .i64 (-1)] (fun k_ => some k_ ≠ (v923 : Value).ownBlock) (fun _ => False) rfl rfl ?aP (fun _ hk => hk.elim) ?aF ?aO ?aB ?aS ?aL ?_; (case aP => exact rfl); (case aB => exact (bl2 HB GE916 GE926)); (case aF => exact (fun k_ hk => Kd.fresh' (Kd.R_lt (rk HO_8)) k_ hk)); (case aO => exact (rk HO_7)); (case aS => exact (below_size (bl2 HB GE916 GE926))); (case aL => have := LMc37.out; omega); intro v930 w38 ho hb hg hat; rw [← Ny929.out] at ho; have n0_ := Aside0.mk (Kd.R_after (ok := (fun _ => True)) (by (with_reducible repeat (first | apply Kd.R_alloc | apply Kd.R_drewN | apply Kd.R_drew)); exact Kd.R_mono HO_8.out (fun _ hk => ⟨trivial, hk⟩)) hg hat); have n1_ := Aside0.mk (blk_grown (bk BK916) hg (Kd.R_ne HO_7.out BK916.out (by decide))); have n2_ := Aside0.mk (blk_grown (bk BK926) hg (Kd.R_ne HO_7.out BK926.out (by decide))); have n3_ := Aside0.mk (hb); have n4_ := Aside0.mk (ho); clear HO_8; clear BK916; clear BK926; clear HB; clear HO_7; have HO_8 := n0_; have BK916 := n1_; have BK926 := n2_; have HB := n3_; have HO931 := n4_; clear n0_ n1_ n2_ n3_ n4_; clear ho hb hg hat))
            go_roundg kj21
            case measure => have := HJ3.out; have := HK2.out; have := HJ21.out; omega
            case rel => exact ⟨(y929), (wrap64 (x9_2 + 1)), (by first | rfl | (simp; done) | (simp [*]; done)), H', ⟨by have := HJ3.out; have := HK2.out; have := HJ21.out; omega⟩, ⟨rk HO931⟩, ⟨by (with_reducible repeat (first | apply Kd.R_alloc | apply Kd.R_drewN | apply Kd.R_drew)); exact Kd.R_mono HO_8.out (fun _ hk => hk.2)⟩, ⟨bk BK916⟩, ⟨bl2 HB GE916 GE926⟩⟩
           ·rw [if_neg c37] at H
            exact absurd H (by simp)
          ·replace c36 := Bool.eq_false_iff.mpr c36
           subst c36
           rw [if_neg (show ¬ (false = true) by decide)] at H
           by_cases c39 : 0 ≤ ((rd_T31 l0_1 x9_2).f0)
           ·rw [if_pos c39] at H
            have c39b0 : decide (0 ≤ ((rd_T31 l0_1 x9_2).f0)) = true := decide_eq_true c39
            clear c39
            by_cases c40 : ((rd_T31 l0_1 x9_2).f0) < (t922.length : Int)
            ·rw [if_pos c40] at H
             have c40b0 : decide (((rd_T31 l0_1 x9_2).f0) < (t922.length : Int)) = true := decide_eq_true c40
             clear c40
             by_cases c41 : (wrap64 (a2 - (rd t922 ((rd_T31 l0_1 x9_2).f0)))) < ((rd_T31 l0_1 x9_2).f2)
             ·rw [if_pos c41] at H
              have c41b0 : decide ((wrap64 (a2 - (rd t922 ((rd_T31 l0_1 x9_2).f0)))) < ((rd_T31 l0_1 x9_2).f2)) = true := decide_eq_true c41
              clear c41
              by_cases c42 : x7_2.length < 17592186044416
              ·rw [if_pos c42] at H
               have LMc42 := Aside0.mk c42
               clear c42
               obtain ⟨y934, hy934⟩ : ∃ y_ : List Int, y_ = (x7_2 ++ [wrap64 (a2 - (rd t922 ((rd_T31 l0_1 x9_2).f0)))]) := ⟨_, rfl⟩
               replace H : (spec_ReachArcs.l0 kj21 a2 y934 t922 (wrap64 (x9_2 + 1)) a0_0 l0_1) = some r := by first | (rw [hy934]; with_reducible exact H) | (have H2_ := (Option.bind_some _ _).symm.trans H; rw [hy934]; with_reducible exact H2_) | (have H2_ := (Option.bind_some _ _).symm.trans H; with_reducible exact H2_) | with_reducible exact H | (rw [hy934]; exact H) | exact H
               have Ny934 := Aside0.mk hy934
               clear hy934
               have H' := Aside0.mk H
               clear H
               have hnb43 := NB926_916.out
               have hnc43 := NB916_926.out
               have hcz44_0 : wc.cell? ⟨gb926, 0, none⟩ = some (.int .i64 ((rd_T31 l0_1 x9_2).f0)) := (blk_cell BK926.out 0).trans rfl
               have hcz44_1 : wc.cell? ⟨gb926, 1, none⟩ = some (.int .i64 ((rd_T31 l0_1 x9_2).f1)) := (blk_cell BK926.out 1).trans rfl
               have hcz44_2 : wc.cell? ⟨gb926, 2, none⟩ = some (.int .i64 ((rd_T31 l0_1 x9_2).f2)) := (blk_cell BK926.out 2).trans rfl
               have hcz44_3 : wc.cell? ⟨gb926, 3, none⟩ = some (.int .i64 ((rd_T31 l0_1 x9_2).f3)) := (blk_cell BK926.out 3).trans rfl
               have hcz44_4 : wc.cell? ⟨gb926, 4, none⟩ = some (.int .i64 ((rd_T31 l0_1 x9_2).f4)) := (blk_cell BK926.out 4).trans rfl
               have hfz44_0 := blk_frozen BK926.out 0
               have hfz44_1 := blk_frozen BK926.out 1
               have hfz44_2 := blk_frozen BK926.out 2
               have hfz44_3 := blk_frozen BK926.out 3
               have hfz44_4 := blk_frozen BK926.out 4
               obtain ⟨Ao45, co45, eo45⟩ := Kd.R_slice HO_8.out
               subst eo45
               have p932 : 0 ≤ (((rd_T31 l0_1 x9_2).f0) : Int) := oT (by first | (with_reducible assumption) | assumption)
               have q932 : ((rd_T31 l0_1 x9_2).f0) < (t922.length : Int) := oT (by first | (with_reducible assumption) | assumption)
               obtain ⟨ad932, e932, hx932_0⟩ := Kd.at_int (Kd.R_reads' HO_8.out).2.2 ((rd_T31 l0_1 x9_2).f0) p932 q932
               cases e932
               replace p932 := eq_true p932
               replace q932 := eq_true q932
               have p933 : 0 ≤ (((rd_T31 l0_1 x9_2).f0) : Int) := oT (by first | (with_reducible assumption) | assumption)
               have q933 : ((rd_T31 l0_1 x9_2).f0) < (t922.length : Int) := oT (by first | (with_reducible assumption) | assumption)
               obtain ⟨ad933, e933, hx933_0⟩ := Kd.at_int (Kd.R_reads' HO_8.out).2.2 ((rd_T31 l0_1 x9_2).f0) p933 q933
               obtain rfl : ad932 = ad933 := (by injection e933)
               replace p933 := eq_true p933
               replace q933 := eq_true q933
               go_wp2_with (first | ((with_reducible refine gate_builtin (b := .append) (xs := #[.tmp 72, .tmp 74]) rfl ?_); at_builtin; refine Kd.R_append (Kd.int .i64) (w0 := w) w.heap.size rfl (.tmp 72) (.tmp 74) 41 3 (.int .i64 0) 8 rfl Try.underlying41 info3 rfl (by decide) (by omega) u7 x7_2 (wrap64 (a2 - (rd t922 ((rd_T31 l0_1 x9_2).f0)))) [.int .i64 (wrap64 (a2 - (rd t922 ((rd_T31 l0_1 x9_2).f0))))] (fun k_ => some k_ ≠ (.slice (some ad932) t922.length co45 : Value).ownBlock) (fun _ => False) rfl rfl ?aP (fun _ hk => hk.elim) ?aF ?aO ?aB ?aS ?aL ?_; (case aP => exact rfl); (case aB => exact (bl2 HB GE916 GE926)); (case aF => exact (fun k_ hk => Kd.fresh' (Kd.R_lt (rk HO_8)) k_ hk)); (case aO => exact (rk HO_7)); (case aS => exact (below_size (bl2 HB GE916 GE926))); (case aL => have := LMc42.out; omega); intro v935 w46 ho hb hg hat; rw [← Ny934.out] at ho; have n0_ := Aside0.mk (Kd.R_after (ok := (fun _ => True)) (by (with_reducible repeat (first | apply Kd.R_alloc | apply Kd.R_drewN | apply Kd.R_drew)); exact Kd.R_mono HO_8.out (fun _ hk => ⟨trivial, hk⟩)) hg hat); have n1_ := Aside0.mk (blk_grown (bk BK916) hg (Kd.R_ne HO_7.out BK916.out (by decide))); have n2_ := Aside0.mk (blk_grown (bk BK926) hg (Kd.R_ne HO_7.out BK926.out (by decide))); have n3_ := Aside0.mk (hb); have n4_ := Aside0.mk (ho); clear HO_8; clear BK916; clear BK926; clear HB; clear HO_7; have HO_8 := n0_; have BK916 := n1_; have BK926 := n2_; have HB := n3_; have HO936 := n4_; clear n0_ n1_ n2_ n3_ n4_; clear ho hb hg hat))
               go_roundg kj21
               case measure => have := HJ3.out; have := HK2.out; have := HJ21.out; omega
               case rel => exact ⟨(y934), (wrap64 (x9_2 + 1)), (by first | rfl | (simp; done) | (simp [*]; done)), H', ⟨by have := HJ3.out; have := HK2.out; have := HJ21.out; omega⟩, ⟨rk HO936⟩, ⟨by (with_reducible repeat (first | apply Kd.R_alloc | apply Kd.R_drewN | apply Kd.R_drew)); exact Kd.R_mono HO_8.out (fun _ hk => hk.2)⟩, ⟨bk BK916⟩, ⟨bl2 HB GE916 GE926⟩⟩
              ·rw [if_neg c42] at H
               exact absurd H (by simp)
             ·rw [if_neg c41] at H
              have c41b0 : decide ((wrap64 (a2 - (rd t922 ((rd_T31 l0_1 x9_2).f0)))) < ((rd_T31 l0_1 x9_2).f2)) = false := decide_eq_false c41
              clear c41
              by_cases c47 : x7_2.length < 17592186044416
              ·rw [if_pos c47] at H
               have LMc47 := Aside0.mk c47
               clear c47
               obtain ⟨y937, hy937⟩ : ∃ y_ : List Int, y_ = (x7_2 ++ [((rd_T31 l0_1 x9_2).f2)]) := ⟨_, rfl⟩
               replace H : (spec_ReachArcs.l0 kj21 a2 y937 t922 (wrap64 (x9_2 + 1)) a0_0 l0_1) = some r := by first | (rw [hy937]; with_reducible exact H) | (have H2_ := (Option.bind_some _ _).symm.trans H; rw [hy937]; with_reducible exact H2_) | (have H2_ := (Option.bind_some _ _).symm.trans H; with_reducible exact H2_) | with_reducible exact H | (rw [hy937]; exact H) | exact H
               have Ny937 := Aside0.mk hy937
               clear hy937
               have H' := Aside0.mk H
               clear H
               have hnb48 := NB926_916.out
               have hnc48 := NB916_926.out
               have hcz49_0 : wc.cell? ⟨gb926, 0, none⟩ = some (.int .i64 ((rd_T31 l0_1 x9_2).f0)) := (blk_cell BK926.out 0).trans rfl
               have hcz49_1 : wc.cell? ⟨gb926, 1, none⟩ = some (.int .i64 ((rd_T31 l0_1 x9_2).f1)) := (blk_cell BK926.out 1).trans rfl
               have hcz49_2 : wc.cell? ⟨gb926, 2, none⟩ = some (.int .i64 ((rd_T31 l0_1 x9_2).f2)) := (blk_cell BK926.out 2).trans rfl
               have hcz49_3 : wc.cell? ⟨gb926, 3, none⟩ = some (.int .i64 ((rd_T31 l0_1 x9_2).f3)) := (blk_cell BK926.out 3).trans rfl
               have hcz49_4 : wc.cell? ⟨gb926, 4, none⟩ = some (.int .i64 ((rd_T31 l0_1 x9_2).f4)) := (blk_cell BK926.out 4).trans rfl
               have hfz49_0 := blk_frozen BK926.out 0
               have hfz49_1 := blk_frozen BK926.out 1
               have hfz49_2 := blk_frozen BK926.out 2
               have hfz49_3 := blk_frozen BK926.out 3
               have hfz49_4 := blk_frozen BK926.out 4
               obtain ⟨Ao50, co50, eo50⟩ := Kd.R_slice HO_8.out
               subst eo50
               have p932 : 0 ≤ (((rd_T31 l0_1 x9_2).f0) : Int) := oT (by first | (with_reducible assumption) | assumption)
               have q932 : ((rd_T31 l0_1 x9_2).f0) < (t922.length : Int) := oT (by first | (with_reducible assumption) | assumption)
               obtain ⟨ad932, e932, hx932_0⟩ := Kd.at_int (Kd.R_reads' HO_8.out).2.2 ((rd_T31 l0_1 x9_2).f0) p932 q932
               cases e932
               replace p932 := eq_true p932
               replace q932 := eq_true q932
               go_wp2_with (first | ((with_reducible refine gate_builtin (b := .append) (xs := #[.tmp 72, .tmp 74]) rfl ?_); at_builtin; refine Kd.R_append (Kd.int .i64) (w0 := w) w.heap.size rfl (.tmp 72) (.tmp 74) 41 3 (.int .i64 0) 8 rfl Try.underlying41 info3 rfl (by decide) (by omega) u7 x7_2 ((rd_T31 l0_1 x9_2).f2) [.int .i64 ((rd_T31 l0_1 x9_2).f2)] (fun k_ => some k_ ≠ (.slice (some ad932) t922.length co50 : Value).ownBlock) (fun _ => False) rfl rfl ?aP (fun _ hk => hk.elim) ?aF ?aO ?aB ?aS ?aL ?_; (case aP => exact rfl); (case aB => exact (bl2 HB GE916 GE926)); (case aF => exact (fun k_ hk => Kd.fresh' (Kd.R_lt (rk HO_8)) k_ hk)); (case aO => exact (rk HO_7)); (case aS => exact (below_size (bl2 HB GE916 GE926))); (case aL => have := LMc47.out; omega); intro v938 w51 ho hb hg hat; rw [← Ny937.out] at ho; have n0_ := Aside0.mk (Kd.R_after (ok := (fun _ => True)) (by (with_reducible repeat (first | apply Kd.R_alloc | apply Kd.R_drewN | apply Kd.R_drew)); exact Kd.R_mono HO_8.out (fun _ hk => ⟨trivial, hk⟩)) hg hat); have n1_ := Aside0.mk (blk_grown (bk BK916) hg (Kd.R_ne HO_7.out BK916.out (by decide))); have n2_ := Aside0.mk (blk_grown (bk BK926) hg (Kd.R_ne HO_7.out BK926.out (by decide))); have n3_ := Aside0.mk (hb); have n4_ := Aside0.mk (ho); clear HO_8; clear BK916; clear BK926; clear HB; clear HO_7; have HO_8 := n0_; have BK916 := n1_; have BK926 := n2_; have HB := n3_; have HO939 := n4_; clear n0_ n1_ n2_ n3_ n4_; clear ho hb hg hat))
               go_roundg kj21
               case measure => have := HJ3.out; have := HK2.out; have := HJ21.out; omega
               case rel => exact ⟨(y937), (wrap64 (x9_2 + 1)), (by first | rfl | (simp; done) | (simp [*]; done)), H', ⟨by have := HJ3.out; have := HK2.out; have := HJ21.out; omega⟩, ⟨rk HO939⟩, ⟨by (with_reducible repeat (first | apply Kd.R_alloc | apply Kd.R_drewN | apply Kd.R_drew)); exact Kd.R_mono HO_8.out (fun _ hk => hk.2)⟩, ⟨bk BK916⟩, ⟨bl2 HB GE916 GE926⟩⟩
              ·rw [if_neg c47] at H
               exact absurd H (by simp)
            ·rw [if_neg c40] at H
             exact absurd H (by simp)
           ·rw [if_neg c39] at H
            exact absurd H (by simp)
       ·rw [if_neg c21] at H
        exact absurd H (by simp)
      ·rw [if_neg c20] at H
       have c20b0 : decide (x9_2 < (l0_1.length : Int)) = false := decide_eq_false c20
       clear c20
       obtain rfl := Option.some.inj H
       have hcz52_0 : wr.cell? ⟨gb916, 0, none⟩ = some (.int .i64 a0_0) := (blk_cell BK916.out 0).trans rfl
       have hcz52_1 : wr.cell? ⟨gb916, 1, none⟩ = some (.slice A0_1 l0_1.length c0_1) := (blk_cell BK916.out 1).trans rfl
       have hfz52_0 := blk_frozen BK916.out 0
       have hfz52_1 := blk_frozen BK916.out 1
       go_wp2
       go_ret
       exact ⟨_, by first | rfl | (simp [errW_none, errW_some] <;> rfl) | (simp [*, errW_none, errW_some] <;> rfl), by (with_reducible repeat (first | apply Kd.R_alloc | apply Kd.R_drewN | apply Kd.R_drew)); exact Kd.R_mono HO_7.out (fun _ hk => trivial), bl1 HB GE916⟩

end Go.Proofs.Ythgihpbpebbebaa.F
