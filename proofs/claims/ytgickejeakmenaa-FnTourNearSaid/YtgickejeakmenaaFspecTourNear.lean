-- Printed by wip/px/px.py of this claim's repository (the kit's printer, extended there). Lean checks it.
import Derived.Test.YtgickejeakmenaaFKinds
import Derived.Test.YtgickejeakmenaaFspecl12In
import Derived.Test.YtgickejeakmenaaFspecl1Ok
import Derived.Test.YtgickejeakmenaaFspecl17Stops
import Derived.Test.YtgickejeakmenaaFspecl3All
namespace Go.Proofs.Ytgickejeakmenaa.F
open Go.RowKit Go.Proofs.YtgickejeakmenaaW.PrintWords Go.Proofs.YtgickejeakmenaaW.PrintLast Go.Proofs.YtgickejeakmenaaW.PrintMore
attribute [local go_sem] max2_int min2_int max_two min_two max_three min_three max_four min_four   -- for this text's walks alone
set_option linter.unusedVariables false
set_option linter.unusedSimpArgs false

/-! ### spec_TourNear: function 33 -/
mutual
def spec_TourNear.j0 : Nat → List Int → Bool → Int → List (S41) → Option (List Int)
 | 0, _, _, _, _ => none
 | k + 1, x1, x18, x905000, x905001 => if x18 = true then (some ([] : List Int)) else (if 0 < (x1.length : Int) then (spec_TourNear.l0 k x1 (([rd x1 0] : List Int)) x905000 x905001) else (none))
def spec_TourNear.l0 : Nat → List Int → List Int → Int → List (S41) → Option (List Int)
 | 0, _, _, _, _ => none
 | k + 1, x1, x5, x905000, x905001 => if (x5.length : Int) < (x1.length : Int) then (if 0 ≤ (wrap64 ((x5.length : Int) - 1)) then (if (wrap64 ((x5.length : Int) - 1)) < (x5.length : Int) then ((spec_l3All.f k x905000 x905001 (rd x5 (wrap64 ((x5.length : Int) - 1)))).bind fun t912 => (spec_TourNear.l1 k x1 x5 t912 99999 (-1) 0 x905000 x905001)) else (none)) else (none)) else (some x5)
def spec_TourNear.l1 : Nat → List Int → List Int → List Int → Int → Int → Int → Int → List (S41) → Option (List Int)
 | 0, _, _, _, _, _, _, _, _ => none
 | k + 1, x1, x5, x6, x7, x8, x9, x905000, x905001 => if x9 < (x1.length : Int) then (if 0 ≤ x9 then ((spec_l12In.f k x5 (rd x1 x9)).bind fun t916 => (if t916 = true then (spec_TourNear.l1 k x1 x5 x6 x7 x8 (wrap64 (x9 + 1)) x905000 x905001) else (if 0 ≤ (rd x1 x9) then (if (rd x1 x9) < (x6.length : Int) then (if (rd x6 (rd x1 x9)) < x7 then (spec_TourNear.l1 k x1 x5 x6 (rd x6 (rd x1 x9)) (rd x1 x9) (wrap64 (x9 + 1)) x905000 x905001) else (spec_TourNear.l1 k x1 x5 x6 x7 x8 (wrap64 (x9 + 1)) x905000 x905001)) else (none)) else (none)))) else (none)) else (if x8 < 0 then (some ([] : List Int)) else (if x5.length < 17592186044416 then (spec_TourNear.l0 k x1 (x5 ++ [x8]) x905000 x905001) else (none)))
end
def spec_TourNear.f (k : Nat) (a0_0 : Int) (l0_1 : List (S41)) (l1 : List Int) : Option (List Int) := (spec_l1Ok.f k a0_0 l0_1).bind fun t905 => (if t905 = true then ((spec_l17Stops.f k a0_0 l0_1 l1).bind fun t906 => (spec_TourNear.j0 k l1 (!t906) a0_0 l0_1)) else (spec_TourNear.j0 k l1 true a0_0 l0_1))
theorem spec_TourNear.mono_l : ∀ k, (∀ y0 y1 y2 y3, LeO (spec_TourNear.j0 k y0 y1 y2 y3) (spec_TourNear.j0 (k + 1) y0 y1 y2 y3)) ∧ (∀ y0 y1 y2 y3, LeO (spec_TourNear.l0 k y0 y1 y2 y3) (spec_TourNear.l0 (k + 1) y0 y1 y2 y3)) ∧ (∀ y0 y1 y2 y3 y4 y5 y6 y7, LeO (spec_TourNear.l1 k y0 y1 y2 y3 y4 y5 y6 y7) (spec_TourNear.l1 (k + 1) y0 y1 y2 y3 y4 y5 y6 y7))
 | 0 => ⟨fun _ _ _ _ r h => by simp [spec_TourNear.j0] at h, fun _ _ _ _ r h => by simp [spec_TourNear.l0] at h, fun _ _ _ _ _ _ _ _ r h => by simp [spec_TourNear.l1] at h⟩
 | k + 1 => by
  obtain ⟨ih0, ih1, ih2⟩ := spec_TourNear.mono_l k
  refine ⟨?_, ?_, ?_⟩
  ·intro y0 y1 y2 y3
   unfold spec_TourNear.j0
   repeat' first
   | (with_reducible exact ih0 _ _ _ _)
   | (with_reducible exact ih1 _ _ _ _)
   | (with_reducible exact ih2 _ _ _ _ _ _ _ _)
   | (with_reducible exact spec_l12In.mono _ _ _)
   | (with_reducible exact spec_l17Stops.mono _ _ _ _)
   | (with_reducible exact spec_l1Ok.mono _ _ _)
   | (with_reducible exact spec_l3All.mono _ _ _ _)
   | (with_reducible exact LeO.refl _)
   | (with_reducible exact LeO.none _)
   | (with_reducible refine LeO.ite ?_ ?_)
   | (with_reducible refine LeO.bind ?_ (fun _ => ?_))
   | exact ih0 _ _ _ _
   | exact ih1 _ _ _ _
   | exact ih2 _ _ _ _ _ _ _ _
   | exact spec_l12In.mono _ _ _
   | exact spec_l17Stops.mono _ _ _ _
   | exact spec_l1Ok.mono _ _ _
   | exact spec_l3All.mono _ _ _ _
   | exact LeO.none _
   | refine LeO.ite ?_ ?_
   | refine LeO.bind ?_ (fun _ => ?_)
  ·intro y0 y1 y2 y3
   unfold spec_TourNear.l0
   repeat' first
   | (with_reducible exact ih0 _ _ _ _)
   | (with_reducible exact ih1 _ _ _ _)
   | (with_reducible exact ih2 _ _ _ _ _ _ _ _)
   | (with_reducible exact spec_l12In.mono _ _ _)
   | (with_reducible exact spec_l17Stops.mono _ _ _ _)
   | (with_reducible exact spec_l1Ok.mono _ _ _)
   | (with_reducible exact spec_l3All.mono _ _ _ _)
   | (with_reducible exact LeO.refl _)
   | (with_reducible exact LeO.none _)
   | (with_reducible refine LeO.ite ?_ ?_)
   | (with_reducible refine LeO.bind ?_ (fun _ => ?_))
   | exact ih0 _ _ _ _
   | exact ih1 _ _ _ _
   | exact ih2 _ _ _ _ _ _ _ _
   | exact spec_l12In.mono _ _ _
   | exact spec_l17Stops.mono _ _ _ _
   | exact spec_l1Ok.mono _ _ _
   | exact spec_l3All.mono _ _ _ _
   | exact LeO.none _
   | refine LeO.ite ?_ ?_
   | refine LeO.bind ?_ (fun _ => ?_)
  ·intro y0 y1 y2 y3 y4 y5 y6 y7
   unfold spec_TourNear.l1
   repeat' first
   | (with_reducible exact ih0 _ _ _ _)
   | (with_reducible exact ih1 _ _ _ _)
   | (with_reducible exact ih2 _ _ _ _ _ _ _ _)
   | (with_reducible exact spec_l12In.mono _ _ _)
   | (with_reducible exact spec_l17Stops.mono _ _ _ _)
   | (with_reducible exact spec_l1Ok.mono _ _ _)
   | (with_reducible exact spec_l3All.mono _ _ _ _)
   | (with_reducible exact LeO.refl _)
   | (with_reducible exact LeO.none _)
   | (with_reducible refine LeO.ite ?_ ?_)
   | (with_reducible refine LeO.bind ?_ (fun _ => ?_))
   | exact ih0 _ _ _ _
   | exact ih1 _ _ _ _
   | exact ih2 _ _ _ _ _ _ _ _
   | exact spec_l12In.mono _ _ _
   | exact spec_l17Stops.mono _ _ _ _
   | exact spec_l1Ok.mono _ _ _
   | exact spec_l3All.mono _ _ _ _
   | exact LeO.none _
   | refine LeO.ite ?_ ?_
   | refine LeO.bind ?_ (fun _ => ?_)
theorem spec_TourNear.mono : ∀ a0 a1 a2 k, LeO (spec_TourNear.f k a0 a1 a2) (spec_TourNear.f (k + 1) a0 a1 a2) := by
 intro a0 a1 a2 k
 obtain ⟨ih0, ih1, ih2⟩ := spec_TourNear.mono_l k
 unfold spec_TourNear.f
 repeat' first
   | (with_reducible exact ih0 _ _ _ _)
   | (with_reducible exact ih1 _ _ _ _)
   | (with_reducible exact ih2 _ _ _ _ _ _ _ _)
   | (with_reducible exact spec_l12In.mono _ _ _)
   | (with_reducible exact spec_l17Stops.mono _ _ _ _)
   | (with_reducible exact spec_l1Ok.mono _ _ _)
   | (with_reducible exact spec_l3All.mono _ _ _ _)
   | (with_reducible exact LeO.refl _)
   | (with_reducible exact LeO.none _)
   | (with_reducible refine LeO.ite ?_ ?_)
   | (with_reducible refine LeO.bind ?_ (fun _ => ?_))
   | exact ih0 _ _ _ _
   | exact ih1 _ _ _ _
   | exact ih2 _ _ _ _ _ _ _ _
   | exact spec_l12In.mono _ _ _
   | exact spec_l17Stops.mono _ _ _ _
   | exact spec_l1Ok.mono _ _ _
   | exact spec_l3All.mono _ _ _ _
   | exact LeO.none _
   | refine LeO.ite ?_ ?_
   | refine LeO.bind ?_ (fun _ => ?_)
def spec_TourNear.T5 : Bool × List (List Nat × List Nat) := (true, [([], []), ([], []), ([], []), ([2], [2]), ([3], [3]), ([1, 4], [1, 4]), ([5], [5]), ([0, 6], [0, 6]), ([7, 7, 0, 1, 2, 3, 4, 5, 6, 7], [7])])
def spec_TourNear.B5 : List Nat := [0, 0, 0, 4, 12, 30, 62, 127, 255]
theorem spec_TourNear.tab5 : rtab .any (opsOf Try.f33 5) = spec_TourNear.T5 := by kernel_rfl
theorem spec_TourNear.bits5 : waitsOk spec_TourNear.T5.2 spec_TourNear.B5 = true := by kernel_rfl
set_option maxHeartbeats 8000000 in
set_option maxRecDepth 100000 in
theorem spec_TourNear.calls (k : Nat) (a0_0 : Int) (A0_1 : Option Addr) (c0_1 : Nat) (l0_1 : List (S41)) (A1 : Option Addr) (c1 : Nat) (l1 : List Int) (r : List Int) (w : World) (hr0_1 : Kd.C k41 w A0_1 l0_1.length l0_1) (hc0_1 : l0_1.length ≤ c0_1) (hr1 : Kd.C (Kd.int .i64) w A1 l1.length l1) (hc1 : l1.length ≤ c1) (h : spec_TourNear.f k a0_0 l0_1 l1 = some r) :
  Calls Try.prog 33 #[.agg #[.int .i64 a0_0, .slice A0_1 l0_1.length c0_1], .slice A1 l1.length c1] w fun e w' => ∃ v0_ : Value, e = .returned (v0_) ∧ Kd.R (Kd.int .i64) 3 w' w.heap.size (fun _ => True) v0_ r ∧ Below w.heap.size w w' := by
 have hu25 := Try.underlying25
 have HR0_1 := Aside0.mk hr0_1
 have HC0_1 := Aside0.mk hc0_1
 clear hr0_1 hc0_1
 have HR1 := Aside0.mk hr1
 have HC1 := Aside0.mk hc1
 clear hr1 hc1
 have HB := Aside0.mk (Below.refl w.heap.size w)
 have H : ((spec_l1Ok.f k a0_0 l0_1).bind fun t905 => (if t905 = true then ((spec_l17Stops.f k a0_0 l0_1 l1).bind fun t906 => (spec_TourNear.j0 k l1 (!t906) a0_0 l0_1)) else (spec_TourNear.j0 k l1 true a0_0 l0_1))) = some r := h
 clear h
 have HC3 := Aside0.mk H
 clear H
 go_enter Try.func33, Try.ntmps33
 go_upto_region 1 with (first | ((with_reducible refine gate_dst (N := 2) rfl ?_); refine box_event ?hg (N := 2) ?hd (cs := #[.int .i64 a0_0, .slice A0_1 l0_1.length c0_1]) (t := 25) ?hr ?_; (case hd => rfl); (case hg => rfl); (case hr => first | (go_simp; done) | (go_simp; rfl)); intro gb904 hg w4 hbox hb; have BK904 := Aside0.mk (hbox); have GW904 := Aside0.mk ((by rw [hg]; exact (below_size (bl HB)) : w.heap.size ≤ gb904)); have GE904 := Aside0.mk ((by rw [hg]; exact (below_size (bl HB)) : w.heap.size ≤ gb904)); replace HB := Aside0.mk (below_step (bl HB) hb); clear hb hbox hg))
 (try simp only [Act.put, List.setIfInBounds_toArray, List.set_cons_zero, List.set_cons_succ])
 go_cut [18] (fun v18 wc => ∃ (kq : Nat) (x18_2 : Bool), v18 = .bool x18_2 ∧ Aside0 (spec_TourNear.j0 kq l1 x18_2 a0_0 l0_1 = some r) ∧ Aside0 (kq ≤ k) ∧ Aside0 (wc.heap[gb904]? = some (.cells #[.int .i64 a0_0, (.slice A0_1 l0_1.length c0_1)] 25 (0, 0))) ∧ Aside0 (Below w.heap.size w wc))
 case first =>
  have H := HC3.out
  clear HC3
  replace H := Option.bind_eq_some_iff.mp H
  obtain ⟨t905, A50, H⟩ := H
  have A5 := Aside0.mk A50
  clear A50
  by_cases c6 : t905 = true
  rotate_left
  ·replace c6 := Bool.eq_false_iff.mpr c6
   subst c6
   rw [if_neg (show ¬ (false = true) by decide)] at H
   have H' := Aside0.mk H
   clear H
   have hcz12_0 : w4.cell? ⟨gb904, 0, none⟩ = some (.int .i64 a0_0) := (blk_cell BK904.out 0).trans rfl
   have hcz12_1 : w4.cell? ⟨gb904, 1, none⟩ = some (.slice A0_1 l0_1.length c0_1) := (blk_cell BK904.out 1).trans rfl
   have hfz12_0 := blk_frozen BK904.out 0
   have hfz12_1 := blk_frozen BK904.out 1
   go_wp2_with (first | ((with_reducible refine gate_callee (f := 55) rfl ?_); refine goesL_ (some 11) rfl rfl Try.func55 (by kernel_rfl) rfl #[.agg #[.int .i64 a0_0, .slice A0_1 l0_1.length c0_1]] rfl (by (try simp only [List.map_toArray, List.map_cons, List.map_nil]); first | done | rfl | (simp only [List.length_drop, List.length_take]; rfl)) ?_; (with_reducible refine (spec_l1Ok.calls k a0_0 _ _ l0_1 false _ ?side1 ?side2 A5.out).mono ?_); (case side1 => repeat (first | exact (Kd.C_below HR0_1.out HB.out) | (with_reducible refine Kd.C_alloc ?_ _) | (with_reducible refine Kd.C_drewN ?_ _) | (with_reducible refine Kd.C_drew ?_))); (case side2 => exact HC0_1.out); rintro e w13 ⟨rfl, hb⟩; refine ⟨_, rfl, ?_⟩; replace BK904 := Aside0.mk (blk_below (bk BK904) hb); replace HB := Aside0.mk (below_step (bl1 HB GE904) hb); (try clear hb); (try clear hb2); (try clear hk); (try clear hi)))
   go_meet
   case rel => exact ⟨_, (true), (by first | rfl | (simp; done) | (simp [*]; done)), H', ⟨by first | omega | exact Nat.le_refl _⟩, ⟨bk BK904⟩, ⟨bl1 HB GE904⟩⟩
  subst c6
  rw [if_pos rfl] at H
  replace H := Option.bind_eq_some_iff.mp H
  obtain ⟨t906, A70, H⟩ := H
  have A7 := Aside0.mk A70
  clear A70
  have H' := Aside0.mk H
  clear H
  have hcz8_0 : w4.cell? ⟨gb904, 0, none⟩ = some (.int .i64 a0_0) := (blk_cell BK904.out 0).trans rfl
  have hcz8_1 : w4.cell? ⟨gb904, 1, none⟩ = some (.slice A0_1 l0_1.length c0_1) := (blk_cell BK904.out 1).trans rfl
  have hfz8_0 := blk_frozen BK904.out 0
  have hfz8_1 := blk_frozen BK904.out 1
  go_wp2_with (first | ((with_reducible refine gate_callee (f := 55) rfl ?_); refine goesL_ (some 11) rfl rfl Try.func55 (by kernel_rfl) rfl #[.agg #[.int .i64 a0_0, .slice A0_1 l0_1.length c0_1]] rfl (by (try simp only [List.map_toArray, List.map_cons, List.map_nil]); first | done | rfl | (simp only [List.length_drop, List.length_take]; rfl)) ?_; (with_reducible refine (spec_l1Ok.calls k a0_0 _ _ l0_1 true _ ?side1 ?side2 A5.out).mono ?_); (case side1 => repeat (first | exact (Kd.C_below HR0_1.out HB.out) | (with_reducible refine Kd.C_alloc ?_ _) | (with_reducible refine Kd.C_drewN ?_ _) | (with_reducible refine Kd.C_drew ?_))); (case side2 => exact HC0_1.out); rintro e w9 ⟨rfl, hb⟩; refine ⟨_, rfl, ?_⟩; replace BK904 := Aside0.mk (blk_below (bk BK904) hb); replace HB := Aside0.mk (below_step (bl1 HB GE904) hb); (try clear hb); (try clear hb2); (try clear hk); (try clear hi); have hcz10_0 : w9.cell? ⟨gb904, 0, none⟩ = some (.int .i64 a0_0) := (blk_cell BK904.out 0).trans rfl; have hcz10_1 : w9.cell? ⟨gb904, 1, none⟩ = some (.slice A0_1 l0_1.length c0_1) := (blk_cell BK904.out 1).trans rfl; have hfz10_0 := blk_frozen BK904.out 0; have hfz10_1 := blk_frozen BK904.out 1) | (go_at_call 56; (with_reducible refine (spec_l17Stops.calls k a0_0 _ _ l0_1 _ _ l1 t906 _ ?side1 ?side2 ?side3 ?side4 A7.out).mono ?_); (case side1 => repeat (first | exact (Kd.C_below HR0_1.out HB.out) | (with_reducible refine Kd.C_alloc ?_ _) | (with_reducible refine Kd.C_drewN ?_ _) | (with_reducible refine Kd.C_drew ?_))); (case side2 => exact HC0_1.out); (case side3 => repeat (first | exact (Kd.C_below HR1.out HB.out) | (with_reducible refine Kd.C_alloc ?_ _) | (with_reducible refine Kd.C_drewN ?_ _) | (with_reducible refine Kd.C_drew ?_))); (case side4 => exact HC1.out); rintro e w11 ⟨rfl, hb⟩; have n0_ := Aside0.mk (blk_below (bk BK904) hb); have n1_ := Aside0.mk (below_step (bl1 HB GE904) hb); clear BK904; clear HB; have BK904 := n0_; have HB := n1_; clear n0_ n1_; (try clear hb); (try clear hb2); (try clear hk); (try clear hi)))
  go_meet
  case rel => exact ⟨_, (!t906), (by first | rfl | (simp; done) | (simp [*]; done)), H', ⟨by first | omega | exact Nat.le_refl _⟩, ⟨bk BK904⟩, ⟨bl1 HB GE904⟩⟩
 clear HC3
 try clear c1
 try clear p2
 try clear c3
 try clear c5
 try clear c6
 try clear hcz10_0
 try clear hcz10_1
 try clear hcz12_0
 try clear hcz12_1
 try clear hcz8_0
 try clear hcz8_1
 try clear hfz10_0
 try clear hfz10_1
 try clear hfz12_0
 try clear hfz12_1
 try clear hfz8_0
 try clear hfz8_1
 obtain ⟨kq, x18_2, rfl, HA, HJ2, BK904, HB⟩ := hcut
 cases kq with
 | zero => exact absurd HA.out (by simp [spec_TourNear.j0])
 | succ kj2 =>
  have H := HA.out
  clear HA
  simp only [spec_TourNear.j0] at H
  by_cases c14 : x18_2 = true
  ·subst c14
   rw [if_pos rfl] at H
   obtain rfl := Option.some.inj H
   go_wp2
   go_ret
   exact ⟨_, by first | rfl | (simp [errW_none, errW_some] <;> rfl) | (simp [*, errW_none, errW_some] <;> rfl), by first | exact Kd.R_nil _ _ _ _ _ | exact Kd.N_nil _ _ _ _ _ | exact Kd.V_nil _ _ _ _ _ | exact Kd.Q_nil _ _ _ _ _ | exact Kd.S_nil _ _ _ _ _, bl1 HB GE904⟩
  replace c14 := Bool.eq_false_iff.mpr c14
  subst c14
  rw [if_neg (show ¬ (false = true) by decide)] at H
  by_cases c15 : 0 < (l1.length : Int)
  rotate_left
  ·rw [if_neg c15] at H
   exact absurd H (by simp)
  rw [if_pos c15] at H
  have c15b0 : decide (0 < (l1.length : Int)) = true := decide_eq_true c15
  have c15b1 : decide (0 < l1.length) = true := decide_eq_true (by omega)
  clear c15
  obtain ⟨y908, hy908⟩ : ∃ y_ : List Int, y_ = (([rd l1 0] : List Int)) := ⟨_, rfl⟩
  replace H : (spec_TourNear.l0 kj2 l1 y908 a0_0 l0_1) = some r := by first | (rw [hy908]; with_reducible exact H) | (have H2_ := (Option.bind_some _ _).symm.trans H; rw [hy908]; with_reducible exact H2_) | (have H2_ := (Option.bind_some _ _).symm.trans H; with_reducible exact H2_) | with_reducible exact H | (rw [hy908]; exact H) | exact H
  have Ny908 := Aside0.mk hy908
  clear hy908
  have H' := Aside0.mk H
  clear H
  have p907 : 0 ≤ (0 : Int) := (by omega)
  have q907 : 0 < (l1.length : Int) := oT (by first | (with_reducible assumption) | assumption)
  obtain ⟨ad907, e907, hx907_0⟩ := Kd.at_int HR1.out 0 p907 q907
  cases e907
  have qi907 : (0 < l1.length) = True := eq_true (by omega)
  (try rw [show ((0 : Int)).toNat = 0 from rfl] at hx907_0)
  (try rw [Addr.add_zero'] at hx907_0)
  replace hx907_0 := hcb HB.out hx907_0
  replace p907 := eq_true p907
  replace q907 := eq_true q907
  go_wp2_with (first | ((with_reducible refine gate_dst (N := 22) rfl ?_); refine Kd.R_lit (Kd.int .i64) _ 3 ?hg (N := 22) ?hd (xs := ([rd l1 0] : List Int)) (inner := [.int .i64 (rd l1 0)]) (ok := fun _ => True) (okp := fun _ => True) ?hr ?hp (fun _ hk => hk) trivial (Below.refl _ _) (Nat.le_refl _) (by simp) ?_; (case hd => rfl); (case hg => rfl); (case hr => first | (go_simp; done) | (go_simp; rfl)); (case hp => exact (Reps.one (show Kd.M (Kd.int .i64) _ _ _ (rd l1 0) [.int .i64 (rd l1 0)] from rfl) (Reps.none _ _))); intro v909 w16 ho17 hb hg_ hnew_; clear hg_ hnew_; (first | rw [← Ny908.out] at ho17 | (simp only [Int.reduceToNat] at ho17; rw [← Ny908.out] at ho17)); have HO910 := Aside0.mk (Kd.R_lower ho17 (below_size (bl1 HB GE904))); replace BK904 := Aside0.mk (blk_below (bk BK904) hb); replace HB := Aside0.mk (below_step (bl1 HB GE904) hb); clear hb ho17))
  go_loopg [5] kj2 (fun kq v5 w' => ∃ (x5_2 : List Int), Aside0 (spec_TourNear.l0 kq l1 x5_2 a0_0 l0_1 = some r) ∧ Aside0 (kq ≤ kj2) ∧ Aside0 (Kd.R (Kd.int .i64) 3 w' w.heap.size (fun _ => True) v5 x5_2) ∧ Aside0 (w'.heap[gb904]? = some (.cells #[.int .i64 a0_0, (.slice A0_1 l0_1.length c0_1)] 25 (0, 0))) ∧ Aside0 (Below w.heap.size w w'))
  case atStart => exact ⟨(y908), H', ⟨Nat.le_refl _⟩, ⟨rk HO910⟩, ⟨bk BK904⟩, ⟨bl1 HB GE904⟩⟩
  clear H'
  try clear c1
  try clear p2
  try clear c3
  try clear c5
  try clear c6
  try clear p9
  try clear q9
  try clear hx9
  try clear qi9
  try clear c14
  try clear c15
  try clear c15b0
  try clear c15b1
  try clear hcz10_0
  try clear hcz10_1
  try clear hcz12_0
  try clear hcz12_1
  try clear hcz8_0
  try clear hcz8_1
  try clear hfz10_0
  try clear hfz10_1
  try clear hfz12_0
  try clear hfz12_1
  try clear hfz8_0
  try clear hfz8_1
  try clear hx907_0
  try clear p2
  try clear p907
  try clear q907
  obtain ⟨x5_2, HA, HK2, HO_5, BK904, HB⟩ := hrel
  cases gk with
  | zero => exact absurd HA.out (by simp [spec_TourNear.l0])
  | succ k2 =>
   have H := HA.out
   clear HA
   simp only [spec_TourNear.l0] at H
   by_cases c18 : (x5_2.length : Int) < (l1.length : Int)
   rotate_left
   ·rw [if_neg c18] at H
    have c18b0 : decide ((x5_2.length : Int) < (l1.length : Int)) = false := decide_eq_false c18
    have c18b1 : decide (x5_2.length < l1.length) = false := decide_eq_false (fun h => c18 (Int.ofNat_lt.mpr h))
    clear c18
    obtain rfl := Option.some.inj H
    obtain ⟨Ao38, co38, eo38⟩ := Kd.R_slice HO_5.out
    subst eo38
    go_wp2
    go_ret
    exact ⟨_, by first | rfl | (simp [errW_none, errW_some] <;> rfl) | (simp [*, errW_none, errW_some] <;> rfl), rk HO_5, bl1 HB GE904⟩
   rw [if_pos c18] at H
   have c18b0 : decide ((x5_2.length : Int) < (l1.length : Int)) = true := decide_eq_true c18
   have c18b1 : decide (x5_2.length < l1.length) = true := decide_eq_true (Int.ofNat_lt.mp c18)
   clear c18
   obtain ⟨ji19, hji19⟩ : ∃ j_ : Int, (wrap64 ((x5_2.length : Int) - 1)) = j_ := ⟨_, rfl⟩
   replace H : (if 0 ≤ (ji19) then (if (ji19) < (x5_2.length : Int) then ((spec_l3All.f k2 a0_0 l0_1 (rd x5_2 (ji19))).bind fun t912 => (spec_TourNear.l1 k2 l1 x5_2 t912 99999 (-1) 0 a0_0 l0_1)) else (none)) else (none)) = some r := by first | (rw [hji19] at H; exact H) | (simp only [hji19] at H ⊢; exact H)
   have hji19w : (IntKind.i64.wrap ((x5_2.length : Int) - 1)) = ji19 := (i64_w _).trans hji19
   by_cases c20 : 0 ≤ (ji19)
   rotate_left
   ·rw [if_neg c20] at H
    exact absurd H (by simp)
   rw [if_pos c20] at H
   have c20b0 : decide (0 ≤ (ji19)) = true := decide_eq_true c20
   clear c20
   by_cases c21 : (ji19) < (x5_2.length : Int)
   rotate_left
   ·rw [if_neg c21] at H
    exact absurd H (by simp)
   rw [if_pos c21] at H
   have c21b0 : decide ((ji19) < (x5_2.length : Int)) = true := decide_eq_true c21
   clear c21
   replace H := Option.bind_eq_some_iff.mp H
   obtain ⟨t912, A220, H⟩ := H
   have A22 := Aside0.mk A220
   clear A220
   have H' := Aside0.mk H
   clear H
   obtain ⟨Ao23, co23, eo23⟩ := Kd.R_slice HO_5.out
   subst eo23
   try go_wp2
   replace HO_5 := Aside0.mk (Kd.R_drew HO_5.out)
   replace BK904 := Aside0.mk (blk_drew BK904.out)
   replace HB := Aside0.mk (below_drew1 HB.out)
   have p911 : 0 ≤ ((ji19) : Int) := oT (by first | (with_reducible assumption) | assumption)
   have q911 : (ji19) < (x5_2.length : Int) := oT (by first | (with_reducible assumption) | assumption)
   obtain ⟨ad911, e911, hx911_0⟩ := Kd.at_int (Kd.R_reads' HO_5.out).2.2 (ji19) p911 q911
   cases e911
   replace p911 := eq_true p911
   replace q911 := eq_true q911
   refine start_ (n := 9) (S := fun w' => w'.cell? ⟨gb904, 0, none⟩ = some (.int .i64 a0_0) ∧ w'.cell? ⟨gb904, 1, none⟩ = some (.slice A0_1 l0_1.length c0_1) ∧ w'.cell? (ad911.add ((ji19)).toNat) = some (.int .i64 (rd x5_2 (ji19)))) (ds := []) (ms 9 0) (by kernel_rfl) rfl (by kernel_rfl) ⟨(blk_cell BK904.out 0).trans rfl, (blk_cell BK904.out 1).trans rfl, hx911_0⟩ (fun hHeld => ?_); refine with_tabW spec_TourNear.tab5 spec_TourNear.bits5 (fun HT_ HW_ => ?_)
   generalize wr.drew = w24 at HO_5 BK904 HB hx911_0 hHeld ⊢
   refine pure_ (i := 1) (N := some 29) (v := ?_) (a' := ?_) (ms 9 2) rfl rfl (any_of HT_.out (by kernel_rfl)) (fun _ _ _ h => h) (Or.inl ⟨by rfl, ?_⟩) ?_ ?_
   rotate_left
   ·intro w'
    go_simp
    with_reducible rfl
   rotate_left
   ·simp only [Act.put, sA, sB, sC, i64_w, i32_w]
    rfl
   refine pure_ (i := 2) (N := some 30) (v := ?_) (a' := ?_) (ms 9 6) rfl rfl (any_of HT_.out (by kernel_rfl)) (fun _ _ _ h => h) (Or.inl ⟨by rfl, ?_⟩) ?_ ?_
   rotate_left
   ·intro w'
    go_simp
    with_reducible rfl
   rotate_left
   ·simp only [Act.put, sA, sB, sC, i64_w, i32_w]
    rfl
   refine pure_ (i := 3) (N := some 31) (v := ?_) (a' := ?_) (ms 9 14) rfl rfl (any_of HT_.out (by kernel_rfl)) (fun _ _ _ h => h) (Or.inl ⟨by rfl, ?_⟩) ?_ ?_
   rotate_left
   ·intro w'
    go_simp
    with_reducible rfl
   rotate_left
   ·simp only [Act.put, sA, sB, sC, i64_w, i32_w]
    rfl
   refine pure_ (i := 4) (N := some 32) (v := ?_) (a' := ?_) (ms 9 30) rfl rfl (any_of HT_.out (by kernel_rfl)) (fun _ _ _ h => h) (Or.inl ⟨by rfl, ?_⟩) ?_ ?_
   rotate_left
   ·intro w'
    go_simp
    with_reducible rfl
   rotate_left
   ·simp only [Act.put, sA, sB, sC, i64_w, i32_w]
    rfl
   refine pure_ (i := 5) (N := some 33) (v := ?_) (a' := ?_) (ms 9 62) rfl rfl (any_of HT_.out (by kernel_rfl)) (fun _ _ _ h => h) (Or.inl ⟨by rfl, ?_⟩) ?_ ?_
   rotate_left
   ·intro w'
    go_simp
    with_reducible rfl
   rotate_left
   ·simp only [Act.put, sA, sB, sC, i64_w, i32_w]
    rfl
   refine take_ (i := 0) (N := some 28) (v := ?_) (a' := ?_) (ms 9 63) rfl rfl (take_ofW HT_.out HW_.out (by kernel_rfl)) (fun _ _ _ h => h) (Or.inl ⟨by rfl, ?_⟩) hHeld ?_ ?_
   rotate_left
   ·rintro w' ⟨s0, s1, s2⟩
    go_simp
    with_reducible rfl
   rotate_left
   ·simp only [Act.put, sA, sB, sC, i64_w, i32_w]
    rfl
   refine take_ (i := 6) (N := some 34) (v := ?_) (a' := ?_) (ms 9 127) rfl rfl (take_ofW HT_.out HW_.out (by kernel_rfl)) (fun _ _ _ h => h) (Or.inl ⟨by rfl, ?_⟩) hHeld ?_ ?_
   rotate_left
   ·rintro w' ⟨s0, s1, s2⟩
    go_simp
    with_reducible rfl
   rotate_left
   ·simp only [Act.put, sA, sB, sC, i64_w, i32_w]
    rfl
   refine one_ (i := 7) (N := some 35) (ms 9 255) rfl rfl (one_of HT_.out (by kernel_rfl)) (by decide) (fun K hK => ?_)
   refine goes_ Try.func76 (by kernel_rfl) rfl #[.agg #[.int .i64 a0_0, .slice A0_1 l0_1.length c0_1], .int .i64 (rd x5_2 (ji19))] (by rfl) rfl rfl (by (try simp only [List.map_toArray, List.map_cons, List.map_nil]); first | done | (simp only [hji19]; rfl) | rfl | (simp only [List.length_drop, List.length_take]; rfl)) ?_
   with_reducible refine (spec_l3All.calls k2 a0_0 _ _ l0_1 (rd x5_2 (ji19)) t912 _ ?side1 ?side2 A22.out).mono ?_
   (case side1 => repeat (first | exact (Kd.C_below HR0_1.out HB.out) | (with_reducible refine Kd.C_alloc ?_ _) | (with_reducible refine Kd.C_drewN ?_ _) | (with_reducible refine Kd.C_drew ?_)))
   (case side2 => exact HC0_1.out)
   rintro e w25 ⟨v913, rfl, ho0, hb⟩
   have HS2_ := (hb.cell (World.block_lt_of_cell? _ _ (hHeld.2.2))).trans (hHeld.2.2)
   refine ⟨_, rfl, ?_⟩
   have HO914 := Aside0.mk (Kd.R_lower (Kd.R_new' ho0 (Kd.R_lt (rk HO_5))) (below_size (bl1 HB GE904)))
   replace HO_5 := Aside0.mk (Kd.R_elder' (rk HO_5) (Kd.R_base ho0) hb)
   replace BK904 := Aside0.mk (blk_below (bk BK904) hb)
   replace HB := Aside0.mk (below_step (bl1 HB GE904) hb)
   (try clear hb)
   (try clear hb2)
   (try clear hk)
   (try clear hi)
   (try clear ho0)
   refine hK.out _ _ ⟨(blk_cell BK904.out 0).trans rfl, (blk_cell BK904.out 1).trans rfl, HS2_⟩ (fun hHeld => ?_)
   clear hK K
   refine norm_ (a' := ?_) ?_ ?_
   rotate_left
   ·show Act.put _ (some 35) _ = _
    simp only [Act.put, sA, sB, sC, i64_w, i32_w]
    rfl
   refine pure_ (i := 8) (N := some 6) (v := ?_) (a' := ?_) (ms 9 511) rfl rfl (any_of HT_.out (by kernel_rfl)) (fun _ _ _ h => h) (Or.inl ⟨by rfl, ?_⟩) ?_ ?_
   rotate_left
   ·intro w'
    go_simp
    with_reducible rfl
   rotate_left
   ·simp only [Act.put, sA, sB, sC, i64_w, i32_w]
    rfl
   refine done_ (done_of HT_.out (by kernel_rfl)) ?_
   try go_wp2
   go_loopg [7, 8, 9] k2 (fun kq v7 v8 v9 w' => ∃ (x7_3 : Int) (x8_3 : Int) (x9_3 : Int), v7 = .int .i64 x7_3 ∧ v8 = .int .i64 x8_3 ∧ v9 = .int .i64 x9_3 ∧ Aside0 (spec_TourNear.l1 kq l1 x5_2 t912 x7_3 x8_3 x9_3 a0_0 l0_1 = some r) ∧ Aside0 (kq ≤ k2) ∧ Aside0 (Kd.R (Kd.int .i64) 3 w' w.heap.size (fun k_ => some k_ ≠ (v913 : Value).ownBlock) (.slice (some ad911) x5_2.length co23) x5_2) ∧ Aside0 (Kd.R (Kd.int .i64) 3 w' w.heap.size (fun k_ => some k_ ≠ ((.slice (some ad911) x5_2.length co23) : Value).ownBlock) v913 t912) ∧ Aside0 (w'.heap[gb904]? = some (.cells #[.int .i64 a0_0, (.slice A0_1 l0_1.length c0_1)] 25 (0, 0))) ∧ Aside0 (Below w.heap.size w w'))
   case atStart => exact ⟨(99999), ((-1)), (0), (by first | rfl | (simp; done) | (simp [*]; done)), (by first | rfl | (simp; done) | (simp [*]; done)), (by first | rfl | (simp; done) | (simp [*]; done)), H', ⟨Nat.le_refl _⟩, ⟨by (with_reducible repeat (first | apply Kd.R_alloc | apply Kd.R_drewN | apply Kd.R_drew)); exact Kd.R_mono HO_5.out (fun _ hk => hk.2)⟩, ⟨by (with_reducible repeat (first | apply Kd.R_alloc | apply Kd.R_drewN | apply Kd.R_drew)); exact Kd.R_mono HO914.out (fun _ hk => hk.2)⟩, ⟨bk BK904⟩, ⟨bl1 HB GE904⟩⟩
   clear H'
   try clear c1
   try clear c2
   try clear p2
   try clear c3
   try clear c5
   try clear c6
   try clear p6
   try clear c7
   try clear p9
   try clear q9
   try clear hx9
   try clear qi9
   try clear c14
   try clear c15
   try clear c15b0
   try clear c15b1
   try clear c18
   try clear c18b0
   try clear c18b1
   try clear c20
   try clear c20b0
   try clear c21
   try clear c21b0
   try clear hcz10_0
   try clear hcz10_1
   try clear hcz12_0
   try clear hcz12_1
   try clear hcz8_0
   try clear hcz8_1
   try clear hfz10_0
   try clear hfz10_1
   try clear hfz12_0
   try clear hfz12_1
   try clear hfz8_0
   try clear hfz8_1
   try clear hx907_0
   try clear hx911_0
   try clear p2
   try clear p9
   try clear p907
   try clear p911
   try clear q9
   try clear q907
   try clear q911
   obtain ⟨x7_3, x8_3, x9_3, rfl, rfl, rfl, HA, HK3, HO_5, HO_6, BK904, HB⟩ := hrel
   cases gk with
   | zero => exact absurd HA.out (by simp [spec_TourNear.l1])
   | succ k3 =>
    have H := HA.out
    clear HA
    simp only [spec_TourNear.l1] at H
    by_cases c26 : x9_3 < (l1.length : Int)
    rotate_left
    ·rw [if_neg c26] at H
     have c26b0 : decide (x9_3 < (l1.length : Int)) = false := decide_eq_false c26
     clear c26
     by_cases c35 : x8_3 < 0
     ·rw [if_pos c35] at H
      have c35b0 : decide (x8_3 < 0) = true := decide_eq_true c35
      clear c35
      obtain rfl := Option.some.inj H
      go_wp2
      go_ret
      exact ⟨_, by first | rfl | (simp [errW_none, errW_some] <;> rfl) | (simp only [← hji19]; first | rfl | (simp [errW_none, errW_some] <;> rfl)) | (simp [*, errW_none, errW_some] <;> rfl), by first | exact Kd.R_nil _ _ _ _ _ | exact Kd.N_nil _ _ _ _ _ | exact Kd.V_nil _ _ _ _ _ | exact Kd.Q_nil _ _ _ _ _ | exact Kd.S_nil _ _ _ _ _, bl1 HB GE904⟩
     rw [if_neg c35] at H
     have c35b0 : decide (x8_3 < 0) = false := decide_eq_false c35
     clear c35
     by_cases c36 : x5_2.length < 17592186044416
     rotate_left
     ·rw [if_neg c36] at H
      exact absurd H (by simp)
     rw [if_pos c36] at H
     have LMc36 := Aside0.mk c36
     clear c36
     obtain ⟨y922, hy922⟩ : ∃ y_ : List Int, y_ = (x5_2 ++ [x8_3]) := ⟨_, rfl⟩
     replace H : (spec_TourNear.l0 k3 l1 y922 a0_0 l0_1) = some r := by first | (rw [hy922]; with_reducible exact H) | (have H2_ := (Option.bind_some _ _).symm.trans H; rw [hy922]; with_reducible exact H2_) | (have H2_ := (Option.bind_some _ _).symm.trans H; with_reducible exact H2_) | with_reducible exact H | (rw [hy922]; exact H) | exact H
     have Ny922 := Aside0.mk hy922
     clear hy922
     have H' := Aside0.mk H
     clear H
     go_wp2_with (first | ((with_reducible refine gate_builtin (b := .append) (xs := #[.tmp 73, .tmp 75]) rfl ?_); at_builtin; refine Kd.R_append (Kd.int .i64) (w0 := w) w.heap.size rfl (.tmp 73) (.tmp 75) 26 3 (.int .i64 0) 8 rfl Try.underlying26 info3 rfl (by decide) (by omega) (.slice (some ad911) x5_2.length co23) x5_2 x8_3 [.int .i64 x8_3] (fun k_ => some k_ ≠ (v913 : Value).ownBlock) (fun _ => False) rfl rfl ?aP (fun _ hk => hk.elim) ?aF ?aO ?aB ?aS ?aL ?_; (case aP => exact rfl); (case aB => exact (bl1 HB GE904)); (case aF => exact (fun k_ hk => Kd.fresh' (Kd.R_lt (rk HO_6)) k_ hk)); (case aO => exact (rk HO_5)); (case aS => exact (below_size (bl1 HB GE904))); (case aL => have := LMc36.out; omega); intro v923 w37 ho hb hg hat; rw [← Ny922.out] at ho; have n0_ := Aside0.mk (Kd.R_after (ok := (fun _ => True)) (by (with_reducible repeat (first | apply Kd.R_alloc | apply Kd.R_drewN | apply Kd.R_drew)); exact Kd.R_mono HO_6.out (fun _ hk => ⟨trivial, hk⟩)) hg hat); have n1_ := Aside0.mk (blk_grown (bk BK904) hg (Kd.R_ne HO_5.out BK904.out (by decide))); have n2_ := Aside0.mk (hb); have n3_ := Aside0.mk (ho); clear HO_6; clear BK904; clear HB; clear HO_5; have HO_6 := n0_; have BK904 := n1_; have HB := n2_; have HO924 := n3_; clear n0_ n1_ n2_ n3_; clear ho hb hg hat))
     go_roundg k3
     case measure => have := HJ2.out; have := HK2.out; have := HK3.out; omega
     case rel => exact ⟨(y922), H', ⟨by have := HJ2.out; have := HK2.out; have := HK3.out; omega⟩, ⟨by (with_reducible repeat (first | apply Kd.R_alloc | apply Kd.R_drewN | apply Kd.R_drew)); exact Kd.R_mono HO924.out (fun _ hk => trivial)⟩, ⟨bk BK904⟩, ⟨bl1 HB GE904⟩⟩
    rw [if_pos c26] at H
    have c26b0 : decide (x9_3 < (l1.length : Int)) = true := decide_eq_true c26
    clear c26
    by_cases c27 : 0 ≤ x9_3
    rotate_left
    ·rw [if_neg c27] at H
     exact absurd H (by simp)
    rw [if_pos c27] at H
    have c27b0 : decide (0 ≤ x9_3) = true := decide_eq_true c27
    clear c27
    replace H := Option.bind_eq_some_iff.mp H
    obtain ⟨t916, A280, H⟩ := H
    have A28 := Aside0.mk A280
    clear A280
    by_cases c29 : t916 = true
    ·subst c29
     rw [if_pos rfl] at H
     have H' := Aside0.mk H
     clear H
     have p915 : 0 ≤ (x9_3 : Int) := oT (by first | (with_reducible assumption) | assumption)
     have q915 : x9_3 < (l1.length : Int) := oT (by first | (with_reducible assumption) | assumption)
     obtain ⟨ad915, e915, hx915_0⟩ := Kd.at_int HR1.out x9_3 p915 q915
     obtain rfl : ad907 = ad915 := (by injection e915)
     replace hx915_0 := hcb HB.out hx915_0
     replace p915 := eq_true p915
     replace q915 := eq_true q915
     go_wp2_with (first | ((with_reducible refine gate_callee (f := 81) rfl ?_); refine goesL_ (some 47) rfl rfl Try.func81 (by kernel_rfl) rfl #[.slice (some ad911) x5_2.length co23, .int .i64 (rd l1 x9_3)] rfl (by (try simp only [List.map_toArray, List.map_cons, List.map_nil]); first | done | rfl | (simp only [List.length_drop, List.length_take]; rfl)) ?_; (with_reducible refine (spec_l12In.calls k3 _ _ x5_2 (rd l1 x9_3) true _ ?side1 ?side2 A28.out).mono ?_); (case side1 => repeat (first | exact (Kd.R_reads' HO_5.out).2.2 | (with_reducible refine Kd.C_alloc ?_ _) | (with_reducible refine Kd.C_drewN ?_ _) | (with_reducible refine Kd.C_drew ?_))); (case side2 => exact (Kd.R_reads' HO_5.out).2.1); rintro e w' ⟨rfl, ⟨nd, rfl⟩⟩; refine ⟨_, rfl, ?_⟩))
     go_roundg k3
     case measure => have := HJ2.out; have := HK2.out; have := HK3.out; omega
     case rel => exact ⟨(x7_3), (x8_3), (wrap64 (x9_3 + 1)), (by first | rfl | (simp; done) | (simp [*]; done)), (by first | rfl | (simp; done) | (simp [*]; done)), (by first | rfl | (simp; done) | (simp [*]; done)), H', ⟨by have := HJ2.out; have := HK2.out; have := HK3.out; omega⟩, ⟨rk HO_5⟩, ⟨rk HO_6⟩, ⟨bk BK904⟩, ⟨bl1 HB GE904⟩⟩
    replace c29 := Bool.eq_false_iff.mpr c29
    subst c29
    rw [if_neg (show ¬ (false = true) by decide)] at H
    by_cases c30 : 0 ≤ (rd l1 x9_3)
    rotate_left
    ·rw [if_neg c30] at H
     exact absurd H (by simp)
    rw [if_pos c30] at H
    have c30b0 : decide (0 ≤ (rd l1 x9_3)) = true := decide_eq_true c30
    clear c30
    by_cases c31 : (rd l1 x9_3) < (t912.length : Int)
    rotate_left
    ·rw [if_neg c31] at H
     exact absurd H (by simp)
    rw [if_pos c31] at H
    have c31b0 : decide ((rd l1 x9_3) < (t912.length : Int)) = true := decide_eq_true c31
    clear c31
    by_cases c32 : (rd t912 (rd l1 x9_3)) < x7_3
    rotate_left
    ·rw [if_neg c32] at H
     have c32b0 : decide ((rd t912 (rd l1 x9_3)) < x7_3) = false := decide_eq_false c32
     clear c32
     have H' := Aside0.mk H
     clear H
     have p915 : 0 ≤ (x9_3 : Int) := oT (by first | (with_reducible assumption) | assumption)
     have q915 : x9_3 < (l1.length : Int) := oT (by first | (with_reducible assumption) | assumption)
     obtain ⟨ad915, e915, hx915_0⟩ := Kd.at_int HR1.out x9_3 p915 q915
     obtain rfl : ad907 = ad915 := (by injection e915)
     replace hx915_0 := hcb HB.out hx915_0
     replace p915 := eq_true p915
     replace q915 := eq_true q915
     go_wp2_with (first | ((with_reducible refine gate_callee (f := 81) rfl ?_); refine goesL_ (some 47) rfl rfl Try.func81 (by kernel_rfl) rfl #[.slice (some ad911) x5_2.length co23, .int .i64 (rd l1 x9_3)] rfl (by (try simp only [List.map_toArray, List.map_cons, List.map_nil]); first | done | rfl | (simp only [List.length_drop, List.length_take]; rfl)) ?_; (with_reducible refine (spec_l12In.calls k3 _ _ x5_2 (rd l1 x9_3) false _ ?side1 ?side2 A28.out).mono ?_); (case side1 => repeat (first | exact (Kd.R_reads' HO_5.out).2.2 | (with_reducible refine Kd.C_alloc ?_ _) | (with_reducible refine Kd.C_drewN ?_ _) | (with_reducible refine Kd.C_drew ?_))); (case side2 => exact (Kd.R_reads' HO_5.out).2.1); rintro e w' ⟨rfl, ⟨nd, rfl⟩⟩; refine ⟨_, rfl, ?_⟩; have p917 : 0 ≤ (x9_3 : Int) := oT (by first | (with_reducible assumption) | assumption); have q917 : x9_3 < (l1.length : Int) := oT (by first | (with_reducible assumption) | assumption); obtain ⟨ad917, e917, hx917_0⟩ := Kd.at_int HR1.out x9_3 p917 q917; obtain rfl : ad907 = ad917 := (by injection e917); replace hx917_0 := hcb HB.out hx917_0; replace p917 := eq_true p917; replace q917 := eq_true q917; obtain ⟨Ao34, co34, eo34⟩ := Kd.R_slice HO_6.out; subst eo34; have p918 : 0 ≤ ((rd l1 x9_3) : Int) := oT (by first | (with_reducible assumption) | assumption); have q918 : (rd l1 x9_3) < (t912.length : Int) := oT (by first | (with_reducible assumption) | assumption); obtain ⟨ad918, e918, hx918_0⟩ := Kd.at_int (Kd.R_reads' HO_6.out).2.2 (rd l1 x9_3) p918 q918; cases e918; replace p918 := eq_true p918; replace q918 := eq_true q918))
     go_roundg k3
     case measure => have := HJ2.out; have := HK2.out; have := HK3.out; omega
     case rel => exact ⟨(x7_3), (x8_3), (wrap64 (x9_3 + 1)), (by first | rfl | (simp; done) | (simp [*]; done)), (by first | rfl | (simp; done) | (simp [*]; done)), (by first | rfl | (simp; done) | (simp [*]; done)), H', ⟨by have := HJ2.out; have := HK2.out; have := HK3.out; omega⟩, ⟨rk HO_5⟩, ⟨rk HO_6⟩, ⟨bk BK904⟩, ⟨bl1 HB GE904⟩⟩
    rw [if_pos c32] at H
    have c32b0 : decide ((rd t912 (rd l1 x9_3)) < x7_3) = true := decide_eq_true c32
    clear c32
    have H' := Aside0.mk H
    clear H
    have p915 : 0 ≤ (x9_3 : Int) := oT (by first | (with_reducible assumption) | assumption)
    have q915 : x9_3 < (l1.length : Int) := oT (by first | (with_reducible assumption) | assumption)
    obtain ⟨ad915, e915, hx915_0⟩ := Kd.at_int HR1.out x9_3 p915 q915
    obtain rfl : ad907 = ad915 := (by injection e915)
    replace hx915_0 := hcb HB.out hx915_0
    replace p915 := eq_true p915
    replace q915 := eq_true q915
    go_wp2_with (first | ((with_reducible refine gate_callee (f := 81) rfl ?_); refine goesL_ (some 47) rfl rfl Try.func81 (by kernel_rfl) rfl #[.slice (some ad911) x5_2.length co23, .int .i64 (rd l1 x9_3)] rfl (by (try simp only [List.map_toArray, List.map_cons, List.map_nil]); first | done | rfl | (simp only [List.length_drop, List.length_take]; rfl)) ?_; (with_reducible refine (spec_l12In.calls k3 _ _ x5_2 (rd l1 x9_3) false _ ?side1 ?side2 A28.out).mono ?_); (case side1 => repeat (first | exact (Kd.R_reads' HO_5.out).2.2 | (with_reducible refine Kd.C_alloc ?_ _) | (with_reducible refine Kd.C_drewN ?_ _) | (with_reducible refine Kd.C_drew ?_))); (case side2 => exact (Kd.R_reads' HO_5.out).2.1); rintro e w' ⟨rfl, ⟨nd, rfl⟩⟩; refine ⟨_, rfl, ?_⟩; have p917 : 0 ≤ (x9_3 : Int) := oT (by first | (with_reducible assumption) | assumption); have q917 : x9_3 < (l1.length : Int) := oT (by first | (with_reducible assumption) | assumption); obtain ⟨ad917, e917, hx917_0⟩ := Kd.at_int HR1.out x9_3 p917 q917; obtain rfl : ad907 = ad917 := (by injection e917); replace hx917_0 := hcb HB.out hx917_0; replace p917 := eq_true p917; replace q917 := eq_true q917; obtain ⟨Ao33, co33, eo33⟩ := Kd.R_slice HO_6.out; subst eo33; have p918 : 0 ≤ ((rd l1 x9_3) : Int) := oT (by first | (with_reducible assumption) | assumption); have q918 : (rd l1 x9_3) < (t912.length : Int) := oT (by first | (with_reducible assumption) | assumption); obtain ⟨ad918, e918, hx918_0⟩ := Kd.at_int (Kd.R_reads' HO_6.out).2.2 (rd l1 x9_3) p918 q918; cases e918; replace p918 := eq_true p918; replace q918 := eq_true q918; have p919 : 0 ≤ (x9_3 : Int) := oT (by first | (with_reducible assumption) | assumption); have q919 : x9_3 < (l1.length : Int) := oT (by first | (with_reducible assumption) | assumption); obtain ⟨ad919, e919, hx919_0⟩ := Kd.at_int HR1.out x9_3 p919 q919; obtain rfl : ad907 = ad919 := (by injection e919); replace hx919_0 := hcb HB.out hx919_0; replace p919 := eq_true p919; replace q919 := eq_true q919; have p920 : 0 ≤ ((rd l1 x9_3) : Int) := oT (by first | (with_reducible assumption) | assumption); have q920 : (rd l1 x9_3) < (t912.length : Int) := oT (by first | (with_reducible assumption) | assumption); obtain ⟨ad920, e920, hx920_0⟩ := Kd.at_int (Kd.R_reads' HO_6.out).2.2 (rd l1 x9_3) p920 q920; obtain rfl : ad918 = ad920 := (by injection e920); replace p920 := eq_true p920; replace q920 := eq_true q920; have p921 : 0 ≤ (x9_3 : Int) := oT (by first | (with_reducible assumption) | assumption); have q921 : x9_3 < (l1.length : Int) := oT (by first | (with_reducible assumption) | assumption); obtain ⟨ad921, e921, hx921_0⟩ := Kd.at_int HR1.out x9_3 p921 q921; obtain rfl : ad907 = ad921 := (by injection e921); replace hx921_0 := hcb HB.out hx921_0; replace p921 := eq_true p921; replace q921 := eq_true q921))
    go_roundg k3
    case measure => have := HJ2.out; have := HK2.out; have := HK3.out; omega
    case rel => exact ⟨(rd t912 (rd l1 x9_3)), (rd l1 x9_3), (wrap64 (x9_3 + 1)), (by first | rfl | (simp; done) | (simp [*]; done)), (by first | rfl | (simp; done) | (simp [*]; done)), (by first | rfl | (simp; done) | (simp [*]; done)), H', ⟨by have := HJ2.out; have := HK2.out; have := HK3.out; omega⟩, ⟨rk HO_5⟩, ⟨rk HO_6⟩, ⟨bk BK904⟩, ⟨bl1 HB GE904⟩⟩

end Go.Proofs.Ytgickejeakmenaa.F
