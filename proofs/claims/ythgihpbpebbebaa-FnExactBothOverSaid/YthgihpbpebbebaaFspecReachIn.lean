-- Printed by wip/px/px.py of this claim's repository (the kit's printer, extended there). Lean checks it.
import Derived.Test.YthgihpbpebbebaaFKinds
import Derived.Test.YthgihpbpebbebaaFspecl1In
import Derived.Test.YthgihpbpebbebaaFspecl1Ok
import Derived.Test.YthgihpbpebbebaaFspecl3All
namespace Go.Proofs.Ythgihpbpebbebaa.F
open Go.RowKit Go.Proofs.YthgihpbpebbebaaW.PrintWords Go.Proofs.YthgihpbpebbebaaW.PrintLast Go.Proofs.YthgihpbpebbebaaW.PrintMore
attribute [local go_sem] max2_int min2_int max_two min_two max_three min_three max_four min_four   -- for this text's walks alone
set_option linter.unusedVariables false
set_option linter.unusedSimpArgs false

/-! ### spec_ReachIn: function 54 -/
mutual
def spec_ReachIn.j0 : Nat → Int → Int → List Int → Bool → Int → List (S31) → Option (List Int)
 | 0, _, _, _, _, _, _ => none
 | k + 1, x1, x2, x7, x21, x646000, x646001 => if x21 = true then (some ([] : List Int)) else ((spec_l3All.f k x646000 x646001 x1).bind fun t651 => (spec_ReachIn.l0 k x2 x7 t651 0 x646000 x646001))
def spec_ReachIn.l0 : Nat → Int → List Int → List Int → Int → Int → List (S31) → Option (List Int)
 | 0, _, _, _, _, _, _ => none
 | k + 1, x2, x7, x8, x9, x646000, x646001 => if x9 < x646000 then (if 0 ≤ x9 then (if x9 < (x8.length : Int) then (if (rd x8 x9) < 99999 then (if (rd x8 x9) ≤ x2 then (if x7.length < 17592186044416 then (spec_ReachIn.l0 k x2 (x7 ++ [x9]) x8 (wrap64 (x9 + 1)) x646000 x646001) else (none)) else (spec_ReachIn.l0 k x2 x7 x8 (wrap64 (x9 + 1)) x646000 x646001)) else (spec_ReachIn.l0 k x2 x7 x8 (wrap64 (x9 + 1)) x646000 x646001)) else (none)) else (none)) else (some x7)
end
def spec_ReachIn.f (k : Nat) (a0_0 : Int) (l0_1 : List (S31)) (a1 : Int) (a2 : Int) : Option (List Int) := (some (([] : List Int) : List Int)).bind fun y646 => ((spec_l1Ok.f k a0_0 l0_1).bind fun t649 => (if t649 = true then ((spec_l1In.f a1 0 (wrap64 (a0_0 - 1))).bind fun t650 => (spec_ReachIn.j0 k a1 a2 y646 (!t650) a0_0 l0_1)) else (spec_ReachIn.j0 k a1 a2 y646 true a0_0 l0_1)))
theorem spec_ReachIn.mono_l : ∀ k, (∀ y0 y1 y2 y3 y4 y5, LeO (spec_ReachIn.j0 k y0 y1 y2 y3 y4 y5) (spec_ReachIn.j0 (k + 1) y0 y1 y2 y3 y4 y5)) ∧ (∀ y0 y1 y2 y3 y4 y5, LeO (spec_ReachIn.l0 k y0 y1 y2 y3 y4 y5) (spec_ReachIn.l0 (k + 1) y0 y1 y2 y3 y4 y5))
 | 0 => ⟨fun _ _ _ _ _ _ r h => by simp [spec_ReachIn.j0] at h, fun _ _ _ _ _ _ r h => by simp [spec_ReachIn.l0] at h⟩
 | k + 1 => by
  obtain ⟨ih0, ih1⟩ := spec_ReachIn.mono_l k
  refine ⟨?_, ?_⟩
  ·intro y0 y1 y2 y3 y4 y5
   unfold spec_ReachIn.j0
   repeat' first
   | (with_reducible exact ih0 _ _ _ _ _ _)
   | (with_reducible exact ih1 _ _ _ _ _ _)
   | (with_reducible exact spec_l1Ok.mono _ _ _)
   | (with_reducible exact spec_l3All.mono _ _ _ _)
   | (with_reducible exact LeO.refl _)
   | (with_reducible exact LeO.none _)
   | (with_reducible refine LeO.ite ?_ ?_)
   | (with_reducible refine LeO.bind ?_ (fun _ => ?_))
   | exact ih0 _ _ _ _ _ _
   | exact ih1 _ _ _ _ _ _
   | exact spec_l1Ok.mono _ _ _
   | exact spec_l3All.mono _ _ _ _
   | exact LeO.none _
   | refine LeO.ite ?_ ?_
   | refine LeO.bind ?_ (fun _ => ?_)
  ·intro y0 y1 y2 y3 y4 y5
   unfold spec_ReachIn.l0
   repeat' first
   | (with_reducible exact ih0 _ _ _ _ _ _)
   | (with_reducible exact ih1 _ _ _ _ _ _)
   | (with_reducible exact spec_l1Ok.mono _ _ _)
   | (with_reducible exact spec_l3All.mono _ _ _ _)
   | (with_reducible exact LeO.refl _)
   | (with_reducible exact LeO.none _)
   | (with_reducible refine LeO.ite ?_ ?_)
   | (with_reducible refine LeO.bind ?_ (fun _ => ?_))
   | exact ih0 _ _ _ _ _ _
   | exact ih1 _ _ _ _ _ _
   | exact spec_l1Ok.mono _ _ _
   | exact spec_l3All.mono _ _ _ _
   | exact LeO.none _
   | refine LeO.ite ?_ ?_
   | refine LeO.bind ?_ (fun _ => ?_)
theorem spec_ReachIn.mono : ∀ a0 a1 a2 a3 k, LeO (spec_ReachIn.f k a0 a1 a2 a3) (spec_ReachIn.f (k + 1) a0 a1 a2 a3) := by
 intro a0 a1 a2 a3 k
 obtain ⟨ih0, ih1⟩ := spec_ReachIn.mono_l k
 unfold spec_ReachIn.f
 repeat' first
   | (with_reducible exact ih0 _ _ _ _ _ _)
   | (with_reducible exact ih1 _ _ _ _ _ _)
   | (with_reducible exact spec_l1Ok.mono _ _ _)
   | (with_reducible exact spec_l3All.mono _ _ _ _)
   | (with_reducible exact LeO.refl _)
   | (with_reducible exact LeO.none _)
   | (with_reducible refine LeO.ite ?_ ?_)
   | (with_reducible refine LeO.bind ?_ (fun _ => ?_))
   | exact ih0 _ _ _ _ _ _
   | exact ih1 _ _ _ _ _ _
   | exact spec_l1Ok.mono _ _ _
   | exact spec_l3All.mono _ _ _ _
   | exact LeO.none _
   | refine LeO.ite ?_ ?_
   | refine LeO.bind ?_ (fun _ => ?_)
set_option maxHeartbeats 8000000 in
set_option maxRecDepth 100000 in
theorem spec_ReachIn.calls (k : Nat) (a0_0 : Int) (A0_1 : Option Addr) (c0_1 : Nat) (l0_1 : List (S31)) (a1 : Int) (a2 : Int) (r : List Int) (w : World) (hr0_1 : Kd.C k31 w A0_1 l0_1.length l0_1) (hc0_1 : l0_1.length ≤ c0_1) (h : spec_ReachIn.f k a0_0 l0_1 a1 a2 = some r) :
  Calls Try.prog 54 #[.agg #[.int .i64 a0_0, .slice A0_1 l0_1.length c0_1], .int .i64 a1, .int .i64 a2] w fun e w' => ∃ v0_ : Value, e = .returned (v0_) ∧ Kd.R (Kd.int .i64) 3 w' w.heap.size (fun _ => True) v0_ r ∧ Below w.heap.size w w' := by
 have hu25 := Try.underlying25
 have HR0_1 := Aside0.mk hr0_1
 have HC0_1 := Aside0.mk hc0_1
 clear hr0_1 hc0_1
 have HB := Aside0.mk (Below.refl w.heap.size w)
 have H : ((some (([] : List Int) : List Int)).bind fun y646 => ((spec_l1Ok.f k a0_0 l0_1).bind fun t649 => (if t649 = true then ((spec_l1In.f a1 0 (wrap64 (a0_0 - 1))).bind fun t650 => (spec_ReachIn.j0 k a1 a2 y646 (!t650) a0_0 l0_1)) else (spec_ReachIn.j0 k a1 a2 y646 true a0_0 l0_1)))) = some r := h
 clear h
 obtain ⟨y646, hy646⟩ : ∃ y_ : List Int, y_ = (([] : List Int)) := ⟨_, rfl⟩
 replace H : ((spec_l1Ok.f k a0_0 l0_1).bind fun t649 => (if t649 = true then ((spec_l1In.f a1 0 (wrap64 (a0_0 - 1))).bind fun t650 => (spec_ReachIn.j0 k a1 a2 y646 (!t650) a0_0 l0_1)) else (spec_ReachIn.j0 k a1 a2 y646 true a0_0 l0_1))) = some r := by first | (rw [hy646]; with_reducible exact H) | (have H2_ := (Option.bind_some _ _).symm.trans H; rw [hy646]; with_reducible exact H2_) | (have H2_ := (Option.bind_some _ _).symm.trans H; with_reducible exact H2_) | with_reducible exact H | (rw [hy646]; exact H) | exact H
 have Ny646 := Aside0.mk hy646
 clear hy646
 have HC4 := Aside0.mk H
 clear H
 go_enter Try.func54, Try.ntmps54
 go_upto_region 2 with (first | ((with_reducible refine gate_dst (N := 3) rfl ?_); refine box_event ?hg (N := 3) ?hd (cs := #[.int .i64 a0_0, .slice A0_1 l0_1.length c0_1]) (t := 25) ?hr ?_; (case hd => rfl); (case hg => rfl); (case hr => first | (go_simp; done) | (go_simp; rfl)); intro gb645 hg w5 hbox hb; have n0_ := Aside0.mk (below_step (bl HB) hb); have n1_ := Aside0.mk (hbox); have n2_ := Aside0.mk ((by rw [hg]; exact (below_size (bl HB)) : w.heap.size ≤ gb645)); have n3_ := Aside0.mk ((by rw [hg]; exact (below_size (bl HB)) : w.heap.size ≤ gb645)); clear HB; have HB := n0_; have BK645 := n1_; have GW645 := n2_; have GE645 := n3_; clear n0_ n1_ n2_ n3_; clear hb hbox hg) | ((with_reducible refine gate_dst (N := 10) rfl ?_); refine Kd.R_lit (Kd.int .i64) _ 3 ?hg (N := 10) ?hd (xs := ([] : List Int)) (inner := []) (ok := fun _ => True) (okp := fun _ => True) ?hr ?hp (fun _ hk => hk) trivial (Below.refl _ _) (Nat.le_refl _) (by simp) ?_; (case hd => rfl); (case hg => rfl); (case hr => first | (go_simp; done) | (go_simp; rfl)); (case hp => exact (Reps.none _ _)); intro v647 w6 ho7 hb hg_ hnew_; clear hg_ hnew_; (first | rw [← Ny646.out] at ho7 | (simp only [Int.reduceToNat] at ho7; rw [← Ny646.out] at ho7)); have n0_ := Aside0.mk (Kd.R_lower ho7 (below_size (bl1 HB GE645))); have n1_ := Aside0.mk (blk_below (bk BK645) hb); have n2_ := Aside0.mk (below_step (bl1 HB GE645) hb); clear BK645; clear HB; have HO648 := n0_; have BK645 := n1_; have HB := n2_; clear n0_ n1_ n2_; clear hb ho7))
 (try simp only [Act.put, List.setIfInBounds_toArray, List.set_cons_zero, List.set_cons_succ])
 go_cut [21] (fun v21 wc => ∃ (kq : Nat) (x21_3 : Bool), v21 = .bool x21_3 ∧ Aside0 (spec_ReachIn.j0 kq a1 a2 y646 x21_3 a0_0 l0_1 = some r) ∧ Aside0 (kq ≤ k) ∧ Aside0 (Kd.R (Kd.int .i64) 3 wc w.heap.size (fun _ => True) v647 y646) ∧ Aside0 (wc.heap[gb645]? = some (.cells #[.int .i64 a0_0, (.slice A0_1 l0_1.length c0_1)] 25 (0, 0))) ∧ Aside0 (Below w.heap.size w wc))
 case first =>
  have H := HC4.out
  clear HC4
  replace H := Option.bind_eq_some_iff.mp H
  obtain ⟨t649, A80, H⟩ := H
  have A8 := Aside0.mk A80
  clear A80
  by_cases c9 : t649 = true
  ·subst c9
   rw [if_pos rfl] at H
   replace H := Option.bind_eq_some_iff.mp H
   obtain ⟨t650, A100, H⟩ := H
   have A10 := Aside0.mk A100
   clear A100
   have H' := Aside0.mk H
   clear H
   have hcz11_0 : w6.cell? ⟨gb645, 0, none⟩ = some (.int .i64 a0_0) := (blk_cell BK645.out 0).trans rfl
   have hcz11_1 : w6.cell? ⟨gb645, 1, none⟩ = some (.slice A0_1 l0_1.length c0_1) := (blk_cell BK645.out 1).trans rfl
   have hfz11_0 := blk_frozen BK645.out 0
   have hfz11_1 := blk_frozen BK645.out 1
   go_wp2_with (first | ((with_reducible refine gate_callee (f := 62) rfl ?_); refine goesL_ (some 12) rfl rfl Try.func62 (by kernel_rfl) rfl #[.agg #[.int .i64 a0_0, .slice A0_1 l0_1.length c0_1]] rfl (by (try simp only [List.map_toArray, List.map_cons, List.map_nil]); first | done | rfl | (simp only [List.length_drop, List.length_take]; rfl)) ?_; (with_reducible refine (spec_l1Ok.calls k a0_0 _ _ l0_1 true _ ?side1 ?side2 A8.out).mono ?_); (case side1 => repeat (first | exact (Kd.C_below HR0_1.out HB.out) | (with_reducible refine Kd.C_alloc ?_ _) | (with_reducible refine Kd.C_drewN ?_ _) | (with_reducible refine Kd.C_drew ?_))); (case side2 => exact HC0_1.out); rintro e w12 ⟨rfl, hb⟩; refine ⟨_, rfl, ?_⟩; have n0_ := Aside0.mk (Kd.R_below (rk HO648) hb); have n1_ := Aside0.mk (blk_below (bk BK645) hb); have n2_ := Aside0.mk (below_step (bl1 HB GE645) hb); clear HO648; clear BK645; clear HB; have HO648 := n0_; have BK645 := n1_; have HB := n2_; clear n0_ n1_ n2_; (try clear hb); (try clear hb2); (try clear hk); (try clear hi); have hcz13_0 : w12.cell? ⟨gb645, 0, none⟩ = some (.int .i64 a0_0) := (blk_cell BK645.out 0).trans rfl; have hcz13_1 : w12.cell? ⟨gb645, 1, none⟩ = some (.slice A0_1 l0_1.length c0_1) := (blk_cell BK645.out 1).trans rfl; have hfz13_0 := blk_frozen BK645.out 0; have hfz13_1 := blk_frozen BK645.out 1) | (go_at_call 63; (with_reducible refine (spec_l1In.calls a1 0 (wrap64 (a0_0 - 1)) t650 _ A10.out).mono ?_); rintro e w' ⟨rfl, ⟨nd, rfl⟩⟩))
   go_meet
   case rel => exact ⟨_, (!t650), (by first | rfl | (simp; done) | (simp [*]; done)), H', ⟨by first | omega | exact Nat.le_refl _⟩, ⟨rk HO648⟩, ⟨bk BK645⟩, ⟨bl1 HB GE645⟩⟩
  ·replace c9 := Bool.eq_false_iff.mpr c9
   subst c9
   rw [if_neg (show ¬ (false = true) by decide)] at H
   have H' := Aside0.mk H
   clear H
   have hcz14_0 : w6.cell? ⟨gb645, 0, none⟩ = some (.int .i64 a0_0) := (blk_cell BK645.out 0).trans rfl
   have hcz14_1 : w6.cell? ⟨gb645, 1, none⟩ = some (.slice A0_1 l0_1.length c0_1) := (blk_cell BK645.out 1).trans rfl
   have hfz14_0 := blk_frozen BK645.out 0
   have hfz14_1 := blk_frozen BK645.out 1
   go_wp2_with (first | ((with_reducible refine gate_callee (f := 62) rfl ?_); refine goesL_ (some 12) rfl rfl Try.func62 (by kernel_rfl) rfl #[.agg #[.int .i64 a0_0, .slice A0_1 l0_1.length c0_1]] rfl (by (try simp only [List.map_toArray, List.map_cons, List.map_nil]); first | done | rfl | (simp only [List.length_drop, List.length_take]; rfl)) ?_; (with_reducible refine (spec_l1Ok.calls k a0_0 _ _ l0_1 false _ ?side1 ?side2 A8.out).mono ?_); (case side1 => repeat (first | exact (Kd.C_below HR0_1.out HB.out) | (with_reducible refine Kd.C_alloc ?_ _) | (with_reducible refine Kd.C_drewN ?_ _) | (with_reducible refine Kd.C_drew ?_))); (case side2 => exact HC0_1.out); rintro e w15 ⟨rfl, hb⟩; refine ⟨_, rfl, ?_⟩; have n0_ := Aside0.mk (Kd.R_below (rk HO648) hb); have n1_ := Aside0.mk (blk_below (bk BK645) hb); have n2_ := Aside0.mk (below_step (bl1 HB GE645) hb); clear HO648; clear BK645; clear HB; have HO648 := n0_; have BK645 := n1_; have HB := n2_; clear n0_ n1_ n2_; (try clear hb); (try clear hb2); (try clear hk); (try clear hi)))
   go_meet
   case rel => exact ⟨_, (true), (by first | rfl | (simp; done) | (simp [*]; done)), H', ⟨by first | omega | exact Nat.le_refl _⟩, ⟨rk HO648⟩, ⟨bk BK645⟩, ⟨bl1 HB GE645⟩⟩
 case rest =>
  clear HC4
  try clear p2
  try clear c5
  try clear c6
  try clear p6
  try clear c9
  try clear hcz11_0
  try clear hcz11_1
  try clear hcz13_0
  try clear hcz13_1
  try clear hcz14_0
  try clear hcz14_1
  try clear hfz11_0
  try clear hfz11_1
  try clear hfz13_0
  try clear hfz13_1
  try clear hfz14_0
  try clear hfz14_1
  obtain ⟨kq, x21_3, rfl, HA, HJ3, HO_7, BK645, HB⟩ := hcut
  cases kq with
  | zero => exact absurd HA.out (by simp [spec_ReachIn.j0])
  | succ kj3 =>
   have H := HA.out
   clear HA
   simp only [spec_ReachIn.j0] at H
   by_cases c16 : x21_3 = true
   ·subst c16
    rw [if_pos rfl] at H
    obtain rfl := Option.some.inj H
    go_wp2
    go_ret
    exact ⟨_, by first | rfl | (simp [errW_none, errW_some] <;> rfl) | (simp [*, errW_none, errW_some] <;> rfl), by first | exact Kd.R_nil _ _ _ _ _ | exact Kd.N_nil _ _ _ _ _ | exact Kd.V_nil _ _ _ _ _ | exact Kd.Q_nil _ _ _ _ _ | exact Kd.S_nil _ _ _ _ _, bl1 HB GE645⟩
   ·replace c16 := Bool.eq_false_iff.mpr c16
    subst c16
    rw [if_neg (show ¬ (false = true) by decide)] at H
    replace H := Option.bind_eq_some_iff.mp H
    obtain ⟨t651, A170, H⟩ := H
    have A17 := Aside0.mk A170
    clear A170
    have H' := Aside0.mk H
    clear H
    have hcz18_0 : wc.cell? ⟨gb645, 0, none⟩ = some (.int .i64 a0_0) := (blk_cell BK645.out 0).trans rfl
    have hcz18_1 : wc.cell? ⟨gb645, 1, none⟩ = some (.slice A0_1 l0_1.length c0_1) := (blk_cell BK645.out 1).trans rfl
    have hfz18_0 := blk_frozen BK645.out 0
    have hfz18_1 := blk_frozen BK645.out 1
    go_wp2_with (first | ((with_reducible refine gate_callee (f := 90) rfl ?_); refine goesL_ (some 24) rfl rfl Try.func90 (by kernel_rfl) rfl #[.agg #[.int .i64 a0_0, .slice A0_1 l0_1.length c0_1], .int .i64 a1] rfl (by (try simp only [List.map_toArray, List.map_cons, List.map_nil]); first | done | rfl | (simp only [List.length_drop, List.length_take]; rfl)) ?_; (with_reducible refine (spec_l3All.calls kj3 a0_0 _ _ l0_1 a1 t651 _ ?side1 ?side2 A17.out).mono ?_); (case side1 => repeat (first | exact (Kd.C_below HR0_1.out HB.out) | (with_reducible refine Kd.C_alloc ?_ _) | (with_reducible refine Kd.C_drewN ?_ _) | (with_reducible refine Kd.C_drew ?_))); (case side2 => exact HC0_1.out); rintro e w19 ⟨v652, rfl, ho0, hb⟩; refine ⟨_, rfl, ?_⟩; have n0_ := Aside0.mk (Kd.R_elder' (rk HO_7) (Kd.R_base ho0) hb); have n1_ := Aside0.mk (Kd.R_lower (Kd.R_new' ho0 (Kd.R_lt (rk HO_7))) (below_size (bl1 HB GE645))); have n2_ := Aside0.mk (blk_below (bk BK645) hb); have n3_ := Aside0.mk (below_step (bl1 HB GE645) hb); clear HO_7; clear BK645; clear HB; have HO_7 := n0_; have HO653 := n1_; have BK645 := n2_; have HB := n3_; clear n0_ n1_ n2_ n3_; (try clear hb); (try clear hb2); (try clear hk); (try clear hi); (try clear ho0)))
    go_loopg [7, 9] kj3 (fun kq v7 v9 w' => ∃ (x7_2 : List Int) (x9_2 : Int), v9 = .int .i64 x9_2 ∧ Aside0 (spec_ReachIn.l0 kq a2 x7_2 t651 x9_2 a0_0 l0_1 = some r) ∧ Aside0 (kq ≤ kj3) ∧ Aside0 (Kd.R (Kd.int .i64) 3 w' w.heap.size (fun k_ => some k_ ≠ (v652 : Value).ownBlock) v7 x7_2) ∧ Aside0 (Kd.R (Kd.int .i64) 3 w' w.heap.size (fun k_ => some k_ ≠ (v7 : Value).ownBlock) v652 t651) ∧ Aside0 (w'.heap[gb645]? = some (.cells #[.int .i64 a0_0, (.slice A0_1 l0_1.length c0_1)] 25 (0, 0))) ∧ Aside0 (Below w.heap.size w w'))
    case atStart => exact ⟨(y646), (0), (by first | rfl | (simp; done) | (simp [*]; done)), H', ⟨Nat.le_refl _⟩, ⟨by (with_reducible repeat (first | apply Kd.R_alloc | apply Kd.R_drewN | apply Kd.R_drew)); exact Kd.R_mono HO_7.out (fun _ hk => hk.2)⟩, ⟨by (with_reducible repeat (first | apply Kd.R_alloc | apply Kd.R_drewN | apply Kd.R_drew)); exact Kd.R_mono HO653.out (fun _ hk => hk.2)⟩, ⟨bk BK645⟩, ⟨bl1 HB GE645⟩⟩
    case round =>
     clear H'
     try clear c1
     try clear p2
     try clear c5
     try clear c6
     try clear p6
     try clear c9
     try clear c16
     try clear hcz11_0
     try clear hcz11_1
     try clear hcz13_0
     try clear hcz13_1
     try clear hcz14_0
     try clear hcz14_1
     try clear hcz18_0
     try clear hcz18_1
     try clear hfz11_0
     try clear hfz11_1
     try clear hfz13_0
     try clear hfz13_1
     try clear hfz14_0
     try clear hfz14_1
     try clear hfz18_0
     try clear hfz18_1
     try clear p2
     try clear p6
     obtain ⟨x7_2, x9_2, rfl, HA, HK2, HO_7, HO_8, BK645, HB⟩ := hrel
     cases gk with
     | zero => exact absurd HA.out (by simp [spec_ReachIn.l0])
     | succ k2 =>
      have H := HA.out
      clear HA
      simp only [spec_ReachIn.l0] at H
      by_cases c20 : x9_2 < a0_0
      ·rw [if_pos c20] at H
       have c20b0 : decide (x9_2 < a0_0) = true := decide_eq_true c20
       clear c20
       by_cases c21 : 0 ≤ x9_2
       ·rw [if_pos c21] at H
        have c21b0 : decide (0 ≤ x9_2) = true := decide_eq_true c21
        clear c21
        by_cases c22 : x9_2 < (t651.length : Int)
        ·rw [if_pos c22] at H
         have c22b0 : decide (x9_2 < (t651.length : Int)) = true := decide_eq_true c22
         clear c22
         by_cases c23 : (rd t651 x9_2) < 99999
         ·rw [if_pos c23] at H
          have c23b0 : decide ((rd t651 x9_2) < 99999) = true := decide_eq_true c23
          clear c23
          by_cases c24 : (rd t651 x9_2) ≤ a2
          ·rw [if_pos c24] at H
           have c24b0 : decide ((rd t651 x9_2) ≤ a2) = true := decide_eq_true c24
           clear c24
           by_cases c25 : x7_2.length < 17592186044416
           ·rw [if_pos c25] at H
            have LMc25 := Aside0.mk c25
            clear c25
            obtain ⟨y656, hy656⟩ : ∃ y_ : List Int, y_ = (x7_2 ++ [x9_2]) := ⟨_, rfl⟩
            replace H : (spec_ReachIn.l0 k2 a2 y656 t651 (wrap64 (x9_2 + 1)) a0_0 l0_1) = some r := by first | (rw [hy656]; with_reducible exact H) | (have H2_ := (Option.bind_some _ _).symm.trans H; rw [hy656]; with_reducible exact H2_) | (have H2_ := (Option.bind_some _ _).symm.trans H; with_reducible exact H2_) | with_reducible exact H | (rw [hy656]; exact H) | exact H
            have Ny656 := Aside0.mk hy656
            clear hy656
            have H' := Aside0.mk H
            clear H
            have hcz26_0 : wr.cell? ⟨gb645, 0, none⟩ = some (.int .i64 a0_0) := (blk_cell BK645.out 0).trans rfl
            have hcz26_1 : wr.cell? ⟨gb645, 1, none⟩ = some (.slice A0_1 l0_1.length c0_1) := (blk_cell BK645.out 1).trans rfl
            have hfz26_0 := blk_frozen BK645.out 0
            have hfz26_1 := blk_frozen BK645.out 1
            obtain ⟨Ao27, co27, eo27⟩ := Kd.R_slice HO_8.out
            subst eo27
            have p654 : 0 ≤ (x9_2 : Int) := oT (by first | (with_reducible assumption) | assumption)
            have q654 : x9_2 < (t651.length : Int) := oT (by first | (with_reducible assumption) | assumption)
            obtain ⟨ad654, e654, hx654_0⟩ := Kd.at_int (Kd.R_reads' HO_8.out).2.2 x9_2 p654 q654
            cases e654
            replace p654 := eq_true p654
            replace q654 := eq_true q654
            have p655 : 0 ≤ (x9_2 : Int) := oT (by first | (with_reducible assumption) | assumption)
            have q655 : x9_2 < (t651.length : Int) := oT (by first | (with_reducible assumption) | assumption)
            obtain ⟨ad655, e655, hx655_0⟩ := Kd.at_int (Kd.R_reads' HO_8.out).2.2 x9_2 p655 q655
            obtain rfl : ad654 = ad655 := (by injection e655)
            replace p655 := eq_true p655
            replace q655 := eq_true q655
            go_wp2_with (first | ((with_reducible refine gate_builtin (b := .append) (xs := #[.tmp 44, .tmp 46]) rfl ?_); at_builtin; refine Kd.R_append (Kd.int .i64) (w0 := w) w.heap.size rfl (.tmp 44) (.tmp 46) 41 3 (.int .i64 0) 8 rfl Try.underlying41 info3 rfl (by decide) (by omega) u7 x7_2 x9_2 [.int .i64 x9_2] (fun k_ => some k_ ≠ (.slice (some ad654) t651.length co27 : Value).ownBlock) (fun _ => False) rfl rfl ?aP (fun _ hk => hk.elim) ?aF ?aO ?aB ?aS ?aL ?_; (case aP => exact rfl); (case aB => exact (bl1 HB GE645)); (case aF => exact (fun k_ hk => Kd.fresh' (Kd.R_lt (rk HO_8)) k_ hk)); (case aO => exact (rk HO_7)); (case aS => exact (below_size (bl1 HB GE645))); (case aL => have := LMc25.out; omega); intro v657 w28 ho hb hg hat; rw [← Ny656.out] at ho; have n0_ := Aside0.mk (Kd.R_after (ok := (fun _ => True)) (by (with_reducible repeat (first | apply Kd.R_alloc | apply Kd.R_drewN | apply Kd.R_drew)); exact Kd.R_mono HO_8.out (fun _ hk => ⟨trivial, hk⟩)) hg hat); have n1_ := Aside0.mk (blk_grown (bk BK645) hg (Kd.R_ne HO_7.out BK645.out (by decide))); have n2_ := Aside0.mk (hb); have n3_ := Aside0.mk (ho); clear HO_8; clear BK645; clear HB; clear HO_7; have HO_8 := n0_; have BK645 := n1_; have HB := n2_; have HO658 := n3_; clear n0_ n1_ n2_ n3_; clear ho hb hg hat))
            go_roundg k2
            case measure => have := HJ3.out; have := HK2.out; omega
            case rel => exact ⟨(y656), (wrap64 (x9_2 + 1)), (by first | rfl | (simp; done) | (simp [*]; done)), H', ⟨by have := HJ3.out; have := HK2.out; omega⟩, ⟨rk HO658⟩, ⟨by (with_reducible repeat (first | apply Kd.R_alloc | apply Kd.R_drewN | apply Kd.R_drew)); exact Kd.R_mono HO_8.out (fun _ hk => hk.2)⟩, ⟨bk BK645⟩, ⟨bl1 HB GE645⟩⟩
           ·rw [if_neg c25] at H
            exact absurd H (by simp)
          ·rw [if_neg c24] at H
           have c24b0 : decide ((rd t651 x9_2) ≤ a2) = false := decide_eq_false c24
           clear c24
           have H' := Aside0.mk H
           clear H
           have hcz29_0 : wr.cell? ⟨gb645, 0, none⟩ = some (.int .i64 a0_0) := (blk_cell BK645.out 0).trans rfl
           have hcz29_1 : wr.cell? ⟨gb645, 1, none⟩ = some (.slice A0_1 l0_1.length c0_1) := (blk_cell BK645.out 1).trans rfl
           have hfz29_0 := blk_frozen BK645.out 0
           have hfz29_1 := blk_frozen BK645.out 1
           obtain ⟨Ao30, co30, eo30⟩ := Kd.R_slice HO_8.out
           subst eo30
           have p654 : 0 ≤ (x9_2 : Int) := oT (by first | (with_reducible assumption) | assumption)
           have q654 : x9_2 < (t651.length : Int) := oT (by first | (with_reducible assumption) | assumption)
           obtain ⟨ad654, e654, hx654_0⟩ := Kd.at_int (Kd.R_reads' HO_8.out).2.2 x9_2 p654 q654
           cases e654
           replace p654 := eq_true p654
           replace q654 := eq_true q654
           have p655 : 0 ≤ (x9_2 : Int) := oT (by first | (with_reducible assumption) | assumption)
           have q655 : x9_2 < (t651.length : Int) := oT (by first | (with_reducible assumption) | assumption)
           obtain ⟨ad655, e655, hx655_0⟩ := Kd.at_int (Kd.R_reads' HO_8.out).2.2 x9_2 p655 q655
           obtain rfl : ad654 = ad655 := (by injection e655)
           replace p655 := eq_true p655
           replace q655 := eq_true q655
           go_wp2
           go_roundg k2
           case measure => have := HJ3.out; have := HK2.out; omega
           case rel => exact ⟨(x7_2), (wrap64 (x9_2 + 1)), (by first | rfl | (simp; done) | (simp [*]; done)), H', ⟨by have := HJ3.out; have := HK2.out; omega⟩, ⟨rk HO_7⟩, ⟨rk HO_8⟩, ⟨bk BK645⟩, ⟨bl1 HB GE645⟩⟩
         ·rw [if_neg c23] at H
          have c23b0 : decide ((rd t651 x9_2) < 99999) = false := decide_eq_false c23
          clear c23
          have H' := Aside0.mk H
          clear H
          have hcz31_0 : wr.cell? ⟨gb645, 0, none⟩ = some (.int .i64 a0_0) := (blk_cell BK645.out 0).trans rfl
          have hcz31_1 : wr.cell? ⟨gb645, 1, none⟩ = some (.slice A0_1 l0_1.length c0_1) := (blk_cell BK645.out 1).trans rfl
          have hfz31_0 := blk_frozen BK645.out 0
          have hfz31_1 := blk_frozen BK645.out 1
          obtain ⟨Ao32, co32, eo32⟩ := Kd.R_slice HO_8.out
          subst eo32
          have p654 : 0 ≤ (x9_2 : Int) := oT (by first | (with_reducible assumption) | assumption)
          have q654 : x9_2 < (t651.length : Int) := oT (by first | (with_reducible assumption) | assumption)
          obtain ⟨ad654, e654, hx654_0⟩ := Kd.at_int (Kd.R_reads' HO_8.out).2.2 x9_2 p654 q654
          cases e654
          replace p654 := eq_true p654
          replace q654 := eq_true q654
          go_wp2
          go_roundg k2
          case measure => have := HJ3.out; have := HK2.out; omega
          case rel => exact ⟨(x7_2), (wrap64 (x9_2 + 1)), (by first | rfl | (simp; done) | (simp [*]; done)), H', ⟨by have := HJ3.out; have := HK2.out; omega⟩, ⟨rk HO_7⟩, ⟨rk HO_8⟩, ⟨bk BK645⟩, ⟨bl1 HB GE645⟩⟩
        ·rw [if_neg c22] at H
         exact absurd H (by simp)
       ·rw [if_neg c21] at H
        exact absurd H (by simp)
      ·rw [if_neg c20] at H
       have c20b0 : decide (x9_2 < a0_0) = false := decide_eq_false c20
       clear c20
       obtain rfl := Option.some.inj H
       have hcz33_0 : wr.cell? ⟨gb645, 0, none⟩ = some (.int .i64 a0_0) := (blk_cell BK645.out 0).trans rfl
       have hcz33_1 : wr.cell? ⟨gb645, 1, none⟩ = some (.slice A0_1 l0_1.length c0_1) := (blk_cell BK645.out 1).trans rfl
       have hfz33_0 := blk_frozen BK645.out 0
       have hfz33_1 := blk_frozen BK645.out 1
       go_wp2
       go_ret
       exact ⟨_, by first | rfl | (simp [errW_none, errW_some] <;> rfl) | (simp [*, errW_none, errW_some] <;> rfl), by (with_reducible repeat (first | apply Kd.R_alloc | apply Kd.R_drewN | apply Kd.R_drew)); exact Kd.R_mono HO_7.out (fun _ hk => trivial), bl1 HB GE645⟩

end Go.Proofs.Ythgihpbpebbebaa.F
