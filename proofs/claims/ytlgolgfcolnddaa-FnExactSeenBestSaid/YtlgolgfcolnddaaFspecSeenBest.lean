-- Printed by wip/px/px.py of this claim's repository (the kit's printer, extended there). Lean checks it.
import Derived.Test.YtlgolgfcolnddaaFKinds
import Derived.Test.YtlgolgfcolnddaaFspecl1Ok
import Derived.Test.YtlgolgfcolnddaaFspecl15Ok
import Derived.Test.YtlgolgfcolnddaaFspecl15Rows
namespace Go.Proofs.Ytlgolgfcolnddaa.F
open Go.RowKit Go.Proofs.YtlgolgfcolnddaaW.PrintWords Go.Proofs.YtlgolgfcolnddaaW.PrintLast Go.Proofs.YtlgolgfcolnddaaW.PrintMore
attribute [local go_sem] max2_int min2_int max_two min_two max_three min_three max_four min_four   -- for this text's walks alone
set_option linter.unusedVariables false
set_option linter.unusedSimpArgs false

/-! ### spec_SeenBest: function 38 -/
mutual
def spec_SeenBest.j0 : Nat → List (List Int) → Bool → Int → List (S58) → Option (List Int × Int)
 | 0, _, _, _, _ => none
 | k + 1, x1, x21, x223000, x223001 => if x21 = true then (some (([] : List Int), (-1))) else ((spec_l15Rows.f k x223000 x223001 x1).bind fun bt225 => (spec_SeenBest.l0 k x1 bt225.1 bt225.2 (wrap64 ((x1.length : Int) - 1)) 0 1 x223000 x223001))
def spec_SeenBest.l0 : Nat → List (List Int) → List (List Int) → List (List Int) → Int → Int → Int → Int → List (S58) → Option (List Int × Int)
 | 0, _, _, _, _, _, _, _, _ => none
 | k + 1, x1, x6, x7, x8, x9, x10, x223000, x223001 => if x10 < x223000 then (if 0 ≤ x8 then (if x8 < (x6.length : Int) then (if 0 ≤ x10 then (if x10 < ((rd_L3 x6 x8).length : Int) then (if 0 ≤ x9 then (if x9 < ((rd_L3 x6 x8).length : Int) then (if (rd (rd_L3 x6 x8) x10) < (rd (rd_L3 x6 x8) x9) then (spec_SeenBest.l0 k x1 x6 x7 x8 x10 (wrap64 (x10 + 1)) x223000 x223001) else (spec_SeenBest.l0 k x1 x6 x7 x8 x9 (wrap64 (x10 + 1)) x223000 x223001)) else (none)) else (none)) else (none)) else (none)) else (none)) else (none)) else (if 0 ≤ (x1.length : Int) then (if ((x1.length : Int) : Int).toNat ≤ 35184372088832 then (spec_SeenBest.l1 k x6 x7 x8 x9 (List.replicate ((x1.length : Int) : Int).toNat 0) x8) else (none)) else (none))
def spec_SeenBest.l1 : Nat → List (List Int) → List (List Int) → Int → Int → List Int → Int → Option (List Int × Int)
 | 0, _, _, _, _, _, _ => none
 | k + 1, x6, x7, x8, x9, x11, x12 => if x12 ≥ 0 then (if 0 ≤ x12 then (if x12 < (x11.length : Int) then (if x12 < (x7.length : Int) then (if 0 ≤ x9 then (if x9 < ((rd_L3 x7 x12).length : Int) then (spec_SeenBest.l1 k x6 x7 x8 (rd (rd_L3 x7 x12) x9) (x11.set (x12 : Int).toNat x9) (wrap64 (x12 - 1))) else (none)) else (none)) else (none)) else (none)) else (none)) else (if 0 ≤ x8 then (if x8 < (x6.length : Int) then (if x8 < (x11.length : Int) then (if 0 ≤ (rd x11 x8) then (if (rd x11 x8) < ((rd_L3 x6 x8).length : Int) then (some (x11, rd (rd_L3 x6 x8) (rd x11 x8))) else (none)) else (none)) else (none)) else (none)) else (none))
end
def spec_SeenBest.f (k : Nat) (a0_0 : Int) (l0_1 : List (S58)) (l1 : List (List Int)) : Option (List Int × Int) := (spec_l1Ok.f k a0_0 l0_1).bind fun t223 => (if t223 = true then ((spec_l15Ok.f k a0_0 l0_1 l1).bind fun t224 => (spec_SeenBest.j0 k l1 (!t224) a0_0 l0_1)) else (spec_SeenBest.j0 k l1 true a0_0 l0_1))
theorem spec_SeenBest.mono_l : ∀ k, (∀ y0 y1 y2 y3, LeO (spec_SeenBest.j0 k y0 y1 y2 y3) (spec_SeenBest.j0 (k + 1) y0 y1 y2 y3)) ∧ (∀ y0 y1 y2 y3 y4 y5 y6 y7, LeO (spec_SeenBest.l0 k y0 y1 y2 y3 y4 y5 y6 y7) (spec_SeenBest.l0 (k + 1) y0 y1 y2 y3 y4 y5 y6 y7)) ∧ (∀ y0 y1 y2 y3 y4 y5, LeO (spec_SeenBest.l1 k y0 y1 y2 y3 y4 y5) (spec_SeenBest.l1 (k + 1) y0 y1 y2 y3 y4 y5))
 | 0 => ⟨fun _ _ _ _ r h => by simp [spec_SeenBest.j0] at h, fun _ _ _ _ _ _ _ _ r h => by simp [spec_SeenBest.l0] at h, fun _ _ _ _ _ _ r h => by simp [spec_SeenBest.l1] at h⟩
 | k + 1 => by
  obtain ⟨ih0, ih1, ih2⟩ := spec_SeenBest.mono_l k
  refine ⟨?_, ?_, ?_⟩
  ·intro y0 y1 y2 y3
   unfold spec_SeenBest.j0
   repeat' first
   | (with_reducible exact ih0 _ _ _ _)
   | (with_reducible exact ih1 _ _ _ _ _ _ _ _)
   | (with_reducible exact ih2 _ _ _ _ _ _)
   | (with_reducible exact spec_l15Ok.mono _ _ _ _)
   | (with_reducible exact spec_l15Rows.mono _ _ _ _)
   | (with_reducible exact spec_l1Ok.mono _ _ _)
   | (with_reducible exact LeO.refl _)
   | (with_reducible exact LeO.none _)
   | (with_reducible refine LeO.ite ?_ ?_)
   | (with_reducible refine LeO.bind ?_ (fun _ => ?_))
   | exact ih0 _ _ _ _
   | exact ih1 _ _ _ _ _ _ _ _
   | exact ih2 _ _ _ _ _ _
   | exact spec_l15Ok.mono _ _ _ _
   | exact spec_l15Rows.mono _ _ _ _
   | exact spec_l1Ok.mono _ _ _
   | exact LeO.none _
   | refine LeO.ite ?_ ?_
   | refine LeO.bind ?_ (fun _ => ?_)
  ·intro y0 y1 y2 y3 y4 y5 y6 y7
   unfold spec_SeenBest.l0
   repeat' first
   | (with_reducible exact ih0 _ _ _ _)
   | (with_reducible exact ih1 _ _ _ _ _ _ _ _)
   | (with_reducible exact ih2 _ _ _ _ _ _)
   | (with_reducible exact spec_l15Ok.mono _ _ _ _)
   | (with_reducible exact spec_l15Rows.mono _ _ _ _)
   | (with_reducible exact spec_l1Ok.mono _ _ _)
   | (with_reducible exact LeO.refl _)
   | (with_reducible exact LeO.none _)
   | (with_reducible refine LeO.ite ?_ ?_)
   | (with_reducible refine LeO.bind ?_ (fun _ => ?_))
   | exact ih0 _ _ _ _
   | exact ih1 _ _ _ _ _ _ _ _
   | exact ih2 _ _ _ _ _ _
   | exact spec_l15Ok.mono _ _ _ _
   | exact spec_l15Rows.mono _ _ _ _
   | exact spec_l1Ok.mono _ _ _
   | exact LeO.none _
   | refine LeO.ite ?_ ?_
   | refine LeO.bind ?_ (fun _ => ?_)
  ·intro y0 y1 y2 y3 y4 y5
   unfold spec_SeenBest.l1
   repeat' first
   | (with_reducible exact ih0 _ _ _ _)
   | (with_reducible exact ih1 _ _ _ _ _ _ _ _)
   | (with_reducible exact ih2 _ _ _ _ _ _)
   | (with_reducible exact spec_l15Ok.mono _ _ _ _)
   | (with_reducible exact spec_l15Rows.mono _ _ _ _)
   | (with_reducible exact spec_l1Ok.mono _ _ _)
   | (with_reducible exact LeO.refl _)
   | (with_reducible exact LeO.none _)
   | (with_reducible refine LeO.ite ?_ ?_)
   | (with_reducible refine LeO.bind ?_ (fun _ => ?_))
   | exact ih0 _ _ _ _
   | exact ih1 _ _ _ _ _ _ _ _
   | exact ih2 _ _ _ _ _ _
   | exact spec_l15Ok.mono _ _ _ _
   | exact spec_l15Rows.mono _ _ _ _
   | exact spec_l1Ok.mono _ _ _
   | exact LeO.none _
   | refine LeO.ite ?_ ?_
   | refine LeO.bind ?_ (fun _ => ?_)
theorem spec_SeenBest.mono : ∀ a0 a1 a2 k, LeO (spec_SeenBest.f k a0 a1 a2) (spec_SeenBest.f (k + 1) a0 a1 a2) := by
 intro a0 a1 a2 k
 obtain ⟨ih0, ih1, ih2⟩ := spec_SeenBest.mono_l k
 unfold spec_SeenBest.f
 repeat' first
   | (with_reducible exact ih0 _ _ _ _)
   | (with_reducible exact ih1 _ _ _ _ _ _ _ _)
   | (with_reducible exact ih2 _ _ _ _ _ _)
   | (with_reducible exact spec_l15Ok.mono _ _ _ _)
   | (with_reducible exact spec_l15Rows.mono _ _ _ _)
   | (with_reducible exact spec_l1Ok.mono _ _ _)
   | (with_reducible exact LeO.refl _)
   | (with_reducible exact LeO.none _)
   | (with_reducible refine LeO.ite ?_ ?_)
   | (with_reducible refine LeO.bind ?_ (fun _ => ?_))
   | exact ih0 _ _ _ _
   | exact ih1 _ _ _ _ _ _ _ _
   | exact ih2 _ _ _ _ _ _
   | exact spec_l15Ok.mono _ _ _ _
   | exact spec_l15Rows.mono _ _ _ _
   | exact spec_l1Ok.mono _ _ _
   | exact LeO.none _
   | refine LeO.ite ?_ ?_
   | refine LeO.bind ?_ (fun _ => ?_)
set_option maxHeartbeats 8000000 in
set_option maxRecDepth 100000 in
theorem spec_SeenBest.calls (k : Nat) (a0_0 : Int) (A0_1 : Option Addr) (c0_1 : Nat) (l0_1 : List (S58)) (A1 : Option Addr) (c1 : Nat) (l1 : List (List Int)) (r1 : List Int) (r2 : Int) (w : World) (hr0_1 : Kd.C k58 w A0_1 l0_1.length l0_1) (hc0_1 : l0_1.length ≤ c0_1) (hr1 : Kd.C (Kd.slice 3 (Kd.int .i64)) w A1 l1.length l1) (hc1 : l1.length ≤ c1) (h : spec_SeenBest.f k a0_0 l0_1 l1 = some (r1, r2)) :
  Calls Try.prog 38 #[.agg #[.int .i64 a0_0, .slice A0_1 l0_1.length c0_1], .slice A1 l1.length c1] w fun e w' => ∃ v0_ : Value, e = .returned (.tuple #[v0_, .int .i64 r2]) ∧ Kd.R (Kd.int .i64) 3 w' w.heap.size (fun _ => True) v0_ r1 ∧ Below w.heap.size w w' := by
 have hu25 := Try.underlying25
 have HR0_1 := ak hr0_1
 have HC0_1 := ak hc0_1
 clear hr0_1 hc0_1
 have HR1 := ak hr1
 have HC1 := ak hc1
 clear hr1 hc1
 have HB := ak (Below.refl w.heap.size w)
 have H : ((spec_l1Ok.f k a0_0 l0_1).bind fun t223 => (if t223 = true then ((spec_l15Ok.f k a0_0 l0_1 l1).bind fun t224 => (spec_SeenBest.j0 k l1 (!t224) a0_0 l0_1)) else (spec_SeenBest.j0 k l1 true a0_0 l0_1))) = some (r1, r2) := h
 clear h
 have HC3 := ak H
 clear H
 go_enter Try.func38, Try.ntmps38
 go_upto_region 1 with (first | ((with_reducible refine gate_dst (N := 2) rfl ?_); refine box_event ?hg (N := 2) ?hd (cs := #[.int .i64 a0_0, .slice A0_1 l0_1.length c0_1]) (t := 25) ?hr ?_; (case hd => rfl); (case hg => rfl); (case hr => first | (go_simp; done) | (go_simp; rfl)); intro gb222 hg w4 hbox hb; have BK222 := ak (hbox); have GW222 := ak ((by rw [hg]; exact (below_size (bl HB)) : w.heap.size ≤ gb222)); have GE222 := ak ((by rw [hg]; exact (below_size (bl HB)) : w.heap.size ≤ gb222)); replace HB := ak (below_step (bl HB) hb); clear hb hbox hg))
 repeat (go_quiet (first | ((with_reducible refine gate_dst (N := 2) rfl ?_); refine box_event ?hg (N := 2) ?hd (cs := #[.int .i64 a0_0, .slice A0_1 l0_1.length c0_1]) (t := 25) ?hr ?_; (case hd => rfl); (case hg => rfl); (case hr => first | (go_simp; done) | (go_simp; rfl)); intro gb222 hg w4 hbox hb; have BK222 := ak (hbox); have GW222 := ak ((by rw [hg]; exact (below_size (bl HB)) : w.heap.size ≤ gb222)); have GE222 := ak ((by rw [hg]; exact (below_size (bl HB)) : w.heap.size ≤ gb222)); replace HB := ak (below_step (bl HB) hb); clear hb hbox hg)); go_upto_region 1 with (first | ((with_reducible refine gate_dst (N := 2) rfl ?_); refine box_event ?hg (N := 2) ?hd (cs := #[.int .i64 a0_0, .slice A0_1 l0_1.length c0_1]) (t := 25) ?hr ?_; (case hd => rfl); (case hg => rfl); (case hr => first | (go_simp; done) | (go_simp; rfl)); intro gb222 hg w4 hbox hb; have BK222 := ak (hbox); have GW222 := ak ((by rw [hg]; exact (below_size (bl HB)) : w.heap.size ≤ gb222)); have GE222 := ak ((by rw [hg]; exact (below_size (bl HB)) : w.heap.size ≤ gb222)); replace HB := ak (below_step (bl HB) hb); clear hb hbox hg)))
 (try simp only [Act.put, List.setIfInBounds_toArray, List.set_cons_zero, List.set_cons_succ])
 go_cut [21] (fun v21 wc => ∃ (kq : Nat) (x21_2 : Bool), v21 = .bool x21_2 ∧ Aside0 (spec_SeenBest.j0 kq l1 x21_2 a0_0 l0_1 = some (r1, r2)) ∧ Aside0 (kq ≤ k) ∧ Aside0 (wc.heap[gb222]? = some (.cells #[.int .i64 a0_0, (.slice A0_1 l0_1.length c0_1)] 25 (0, 0))) ∧ Aside0 (Below w.heap.size w wc))
 case first =>
  have H := HC3.out
  clear HC3
  replace H := Option.bind_eq_some_iff.mp H
  obtain ⟨t223, A50, H⟩ := H
  have A5 := ak A50
  clear A50
  by_cases c6 : t223 = true
  rotate_left
  ·replace c6 := Bool.eq_false_iff.mpr c6
   subst c6
   rw [if_neg (show ¬ (false = true) by decide)] at H
   have H' := ak H
   clear H
   have hcz12_0 := bc w4 BK222 0 (.int .i64 a0_0) rfl
   have hcz12_1 := bc w4 BK222 1 (.slice A0_1 l0_1.length c0_1) rfl
   have hfz12_0 := fz BK222 0
   have hfz12_1 := fz BK222 1
   go_wp2_with (first | (go_at_call 53; (with_reducible refine (spec_l1Ok.calls k a0_0 _ _ l0_1 false _ ?side1 ?side2 A5.out).mono ?_); (case side1 => repeat (first | exact (Kd.C_below HR0_1.out HB.out) | (with_reducible refine Kd.C_alloc ?_ _) | (with_reducible refine Kd.C_drewN ?_ _) | (with_reducible refine Kd.C_drew ?_))); (case side2 => exact HC0_1.out); rintro e w13 ⟨rfl, hb⟩; have n0_ := ak (blk_below (bk BK222) hb); have n1_ := ak (below_step (bl1 HB GE222) hb); clear BK222; clear HB; have BK222 := n0_; have HB := n1_; clear n0_ n1_; (try clear hb); (try clear hb2); (try clear hk); (try clear hi)) | go_values | go_skip | go_guarded | go_step | go_upon | go_back | go_quiet (first | (go_at_call 53; (with_reducible refine (spec_l1Ok.calls k a0_0 _ _ l0_1 false _ ?side1 ?side2 A5.out).mono ?_); (case side1 => repeat (first | exact (Kd.C_below HR0_1.out HB.out) | (with_reducible refine Kd.C_alloc ?_ _) | (with_reducible refine Kd.C_drewN ?_ _) | (with_reducible refine Kd.C_drew ?_))); (case side2 => exact HC0_1.out); rintro e w13 ⟨rfl, hb⟩; have n0_ := ak (blk_below (bk BK222) hb); have n1_ := ak (below_step (bl1 HB GE222) hb); clear BK222; clear HB; have BK222 := n0_; have HB := n1_; clear n0_ n1_; (try clear hb); (try clear hb2); (try clear hk); (try clear hi))))
   go_meet
   case rel => exact ⟨_, (true), (by first | rfl | (simp; done) | (simp [*]; done)), H', ⟨by first | omega | exact Nat.le_refl _⟩, ⟨bk BK222⟩, ⟨bl1 HB GE222⟩⟩
  subst c6
  rw [if_pos rfl] at H
  replace H := Option.bind_eq_some_iff.mp H
  obtain ⟨t224, A70, H⟩ := H
  have A7 := ak A70
  clear A70
  have H' := ak H
  clear H
  have hcz8_0 := bc w4 BK222 0 (.int .i64 a0_0) rfl
  have hcz8_1 := bc w4 BK222 1 (.slice A0_1 l0_1.length c0_1) rfl
  have hfz8_0 := fz BK222 0
  have hfz8_1 := fz BK222 1
  go_wp2_with (first | (go_at_call 53; (with_reducible refine (spec_l1Ok.calls k a0_0 _ _ l0_1 true _ ?side1 ?side2 A5.out).mono ?_); (case side1 => repeat (first | exact (Kd.C_below HR0_1.out HB.out) | (with_reducible refine Kd.C_alloc ?_ _) | (with_reducible refine Kd.C_drewN ?_ _) | (with_reducible refine Kd.C_drew ?_))); (case side2 => exact HC0_1.out); rintro e w9 ⟨rfl, hb⟩; have n0_ := ak (blk_below (bk BK222) hb); have n1_ := ak (below_step (bl1 HB GE222) hb); clear BK222; clear HB; have BK222 := n0_; have HB := n1_; clear n0_ n1_; (try clear hb); (try clear hb2); (try clear hk); (try clear hi); have hcz10_0 := bc w9 BK222 0 (.int .i64 a0_0) rfl; have hcz10_1 := bc w9 BK222 1 (.slice A0_1 l0_1.length c0_1) rfl; have hfz10_0 := fz BK222 0; have hfz10_1 := fz BK222 1) | (go_at_call 76; (with_reducible refine (spec_l15Ok.calls k a0_0 _ _ l0_1 _ _ l1 t224 _ ?side1 ?side2 ?side3 ?side4 A7.out).mono ?_); (case side1 => repeat (first | exact (Kd.C_below HR0_1.out HB.out) | (with_reducible refine Kd.C_alloc ?_ _) | (with_reducible refine Kd.C_drewN ?_ _) | (with_reducible refine Kd.C_drew ?_))); (case side2 => exact HC0_1.out); (case side3 => repeat (first | exact (Kd.C_below HR1.out HB.out) | (with_reducible refine Kd.C_alloc ?_ _) | (with_reducible refine Kd.C_drewN ?_ _) | (with_reducible refine Kd.C_drew ?_))); (case side4 => exact HC1.out); rintro e w11 ⟨rfl, hb⟩; have n0_ := ak (blk_below (bk BK222) hb); have n1_ := ak (below_step (bl1 HB GE222) hb); clear BK222; clear HB; have BK222 := n0_; have HB := n1_; clear n0_ n1_; (try clear hb); (try clear hb2); (try clear hk); (try clear hi)) | go_values | go_skip | go_guarded | go_step | go_upon | go_back | go_quiet (first | (go_at_call 53; (with_reducible refine (spec_l1Ok.calls k a0_0 _ _ l0_1 true _ ?side1 ?side2 A5.out).mono ?_); (case side1 => repeat (first | exact (Kd.C_below HR0_1.out HB.out) | (with_reducible refine Kd.C_alloc ?_ _) | (with_reducible refine Kd.C_drewN ?_ _) | (with_reducible refine Kd.C_drew ?_))); (case side2 => exact HC0_1.out); rintro e w9 ⟨rfl, hb⟩; have n0_ := ak (blk_below (bk BK222) hb); have n1_ := ak (below_step (bl1 HB GE222) hb); clear BK222; clear HB; have BK222 := n0_; have HB := n1_; clear n0_ n1_; (try clear hb); (try clear hb2); (try clear hk); (try clear hi); have hcz10_0 := bc w9 BK222 0 (.int .i64 a0_0) rfl; have hcz10_1 := bc w9 BK222 1 (.slice A0_1 l0_1.length c0_1) rfl; have hfz10_0 := fz BK222 0; have hfz10_1 := fz BK222 1) | (go_at_call 76; (with_reducible refine (spec_l15Ok.calls k a0_0 _ _ l0_1 _ _ l1 t224 _ ?side1 ?side2 ?side3 ?side4 A7.out).mono ?_); (case side1 => repeat (first | exact (Kd.C_below HR0_1.out HB.out) | (with_reducible refine Kd.C_alloc ?_ _) | (with_reducible refine Kd.C_drewN ?_ _) | (with_reducible refine Kd.C_drew ?_))); (case side2 => exact HC0_1.out); (case side3 => repeat (first | exact (Kd.C_below HR1.out HB.out) | (with_reducible refine Kd.C_alloc ?_ _) | (with_reducible refine Kd.C_drewN ?_ _) | (with_reducible refine Kd.C_drew ?_))); (case side4 => exact HC1.out); rintro e w11 ⟨rfl, hb⟩; have n0_ := ak (blk_below (bk BK222) hb); have n1_ := ak (below_step (bl1 HB GE222) hb); clear BK222; clear HB; have BK222 := n0_; have HB := n1_; clear n0_ n1_; (try clear hb); (try clear hb2); (try clear hk); (try clear hi))))
  go_meet
  case rel => exact ⟨_, (!t224), (by first | rfl | (simp; done) | (simp [*]; done)), H', ⟨by first | omega | exact Nat.le_refl _⟩, ⟨bk BK222⟩, ⟨bl1 HB GE222⟩⟩
 clear HC3
 try clear c1
 try clear p2
 try clear c3
 try clear c6
 try clear hcz10_0
 try clear hcz10_1
 try clear hcz12_0
 try clear hcz12_1
 try clear hcz8_0
 try clear hcz8_1
 try clear hfz10_0
 try clear hfz10_1
 try clear hfz12_0
 try clear hfz12_1
 try clear hfz8_0
 try clear hfz8_1
 obtain ⟨kq, x21_2, rfl, HA, HJ2, BK222, HB⟩ := hcut
 cases kq with
 | zero => exact absurd HA.out (by simp [spec_SeenBest.j0])
 | succ kj2 =>
  have H := HA.out
  clear HA
  simp only [spec_SeenBest.j0] at H
  by_cases c14 : x21_2 = true
  ·subst c14
   rw [if_pos rfl] at H
   simp only [Option.some.injEq, Prod.mk.injEq] at H
   obtain ⟨rfl, rfl⟩ := H
   go_wp2
   repeat (go_quiet (fail); try go_wp2)
   go_ret2
   exact ⟨_, by first | rfl | (simp [errW_none, errW_some] <;> rfl) | (simp [*, errW_none, errW_some] <;> rfl), by first | exact Kd.R_nil _ _ _ _ _ | exact Kd.N_nil _ _ _ _ _ | exact Kd.V_nil _ _ _ _ _ | exact Kd.Q_nil _ _ _ _ _ | exact Kd.S_nil _ _ _ _ _, bl1 HB GE222⟩
  replace c14 := Bool.eq_false_iff.mpr c14
  subst c14
  rw [if_neg (show ¬ (false = true) by decide)] at H
  replace H := Option.bind_eq_some_iff.mp H
  obtain ⟨⟨t225, t228⟩, A150, H⟩ := H
  have A15 := ak A150
  clear A150
  have H' := ak H
  clear H
  have hcz16_0 := bc wc BK222 0 (.int .i64 a0_0) rfl
  have hcz16_1 := bc wc BK222 1 (.slice A0_1 l0_1.length c0_1) rfl
  have hfz16_0 := fz BK222 0
  have hfz16_1 := fz BK222 1
  go_wp2_with (first | (go_at_call 77; (with_reducible refine (spec_l15Rows.calls kj2 a0_0 _ _ l0_1 _ _ l1 t225 t228 _ ?side1 ?side2 ?side3 ?side4 A15.out).mono ?_); (case side1 => repeat (first | exact (Kd.C_below HR0_1.out HB.out) | (with_reducible refine Kd.C_alloc ?_ _) | (with_reducible refine Kd.C_drewN ?_ _) | (with_reducible refine Kd.C_drew ?_))); (case side2 => exact HC0_1.out); (case side3 => repeat (first | exact (Kd.C_below HR1.out HB.out) | (with_reducible refine Kd.C_alloc ?_ _) | (with_reducible refine Kd.C_drewN ?_ _) | (with_reducible refine Kd.C_drew ?_))); (case side4 => exact HC1.out); rintro e w17 ⟨v226, v229, rfl, ho0, ho1, hb⟩; have n0_ := ak (Kd.N_lower (Kd.N_mono (ok' := fun k_ => some k_ ≠ (v229 : Value).ownBlock ∧ k_ ≠ gb222) ho0 (fun k_ hk_ => ⟨hk_.2, (Kd.freshB (bk BK222) k_ hk_.1)⟩)) (below_size (bl1 HB GE222))); have n1_ := ak (Kd.N_lower (Kd.N_mono (ok' := fun k_ => some k_ ≠ (v226 : Value).ownBlock ∧ k_ ≠ gb222) ho1 (fun k_ hk_ => ⟨hk_.2, (Kd.freshB (bk BK222) k_ hk_.1)⟩)) (below_size (bl1 HB GE222))); have n2_ := ak (blk_below (bk BK222) hb); have n3_ := ak (below_step (bl1 HB GE222) hb); clear BK222; clear HB; have HO227 := n0_; have HO230 := n1_; have BK222 := n2_; have HB := n3_; clear n0_ n1_ n2_ n3_; (try clear hb); (try clear hb2); (try clear hk); (try clear hi); (try clear ho0); (try clear ho1)) | go_values | go_skip | go_guarded | go_step | go_upon | go_back | go_quiet (first | (go_at_call 77; (with_reducible refine (spec_l15Rows.calls kj2 a0_0 _ _ l0_1 _ _ l1 t225 t228 _ ?side1 ?side2 ?side3 ?side4 A15.out).mono ?_); (case side1 => repeat (first | exact (Kd.C_below HR0_1.out HB.out) | (with_reducible refine Kd.C_alloc ?_ _) | (with_reducible refine Kd.C_drewN ?_ _) | (with_reducible refine Kd.C_drew ?_))); (case side2 => exact HC0_1.out); (case side3 => repeat (first | exact (Kd.C_below HR1.out HB.out) | (with_reducible refine Kd.C_alloc ?_ _) | (with_reducible refine Kd.C_drewN ?_ _) | (with_reducible refine Kd.C_drew ?_))); (case side4 => exact HC1.out); rintro e w17 ⟨v226, v229, rfl, ho0, ho1, hb⟩; have n0_ := ak (Kd.N_lower (Kd.N_mono (ok' := fun k_ => some k_ ≠ (v229 : Value).ownBlock ∧ k_ ≠ gb222) ho0 (fun k_ hk_ => ⟨hk_.2, (Kd.freshB (bk BK222) k_ hk_.1)⟩)) (below_size (bl1 HB GE222))); have n1_ := ak (Kd.N_lower (Kd.N_mono (ok' := fun k_ => some k_ ≠ (v226 : Value).ownBlock ∧ k_ ≠ gb222) ho1 (fun k_ hk_ => ⟨hk_.2, (Kd.freshB (bk BK222) k_ hk_.1)⟩)) (below_size (bl1 HB GE222))); have n2_ := ak (blk_below (bk BK222) hb); have n3_ := ak (below_step (bl1 HB GE222) hb); clear BK222; clear HB; have HO227 := n0_; have HO230 := n1_; have BK222 := n2_; have HB := n3_; clear n0_ n1_ n2_ n3_; (try clear hb); (try clear hb2); (try clear hk); (try clear hi); (try clear ho0); (try clear ho1))))
  go_loopg [9, 10] kj2 (fun kq v9 v10 w' => ∃ (x9_2 : Int) (x10_2 : Int), v9 = .int .i64 x9_2 ∧ v10 = .int .i64 x10_2 ∧ Aside0 (spec_SeenBest.l0 kq l1 t225 t228 (wrap64 ((l1.length : Int) - 1)) x9_2 x10_2 a0_0 l0_1 = some (r1, r2)) ∧ Aside0 (kq ≤ kj2) ∧ Aside0 (Kd.N (Kd.slice 3 (Kd.int .i64)) 33 w' w.heap.size (fun k_ => some k_ ≠ (v229 : Value).ownBlock ∧ k_ ≠ gb222) v226 t225) ∧ Aside0 (Kd.N (Kd.slice 3 (Kd.int .i64)) 33 w' w.heap.size (fun k_ => some k_ ≠ (v226 : Value).ownBlock ∧ k_ ≠ gb222) v229 t228) ∧ Aside0 (w'.heap[gb222]? = some (.cells #[.int .i64 a0_0, (.slice A0_1 l0_1.length c0_1)] 25 (0, 0))) ∧ Aside0 (Below w.heap.size w w'))
  case atStart => exact ⟨(0), (1), (by first | rfl | (simp; done) | (simp [*]; done)), (by first | rfl | (simp; done) | (simp [*]; done)), H', ⟨Nat.le_refl _⟩, ⟨by (with_reducible repeat (first | apply Kd.N_alloc | apply Kd.N_drewN | apply Kd.N_drew)); exact HO227.out⟩, ⟨by (with_reducible repeat (first | apply Kd.N_alloc | apply Kd.N_drewN | apply Kd.N_drew)); exact HO230.out⟩, ⟨bk BK222⟩, ⟨bl1 HB GE222⟩⟩
  clear H'
  try clear c1
  try clear p2
  try clear c3
  try clear c6
  try clear p6
  try clear c14
  try clear hcz10_0
  try clear hcz10_1
  try clear hcz12_0
  try clear hcz12_1
  try clear hcz16_0
  try clear hcz16_1
  try clear hcz8_0
  try clear hcz8_1
  try clear hfz10_0
  try clear hfz10_1
  try clear hfz12_0
  try clear hfz12_1
  try clear hfz16_0
  try clear hfz16_1
  try clear hfz8_0
  try clear hfz8_1
  try clear p2
  obtain ⟨x9_2, x10_2, rfl, rfl, HA, HK2, HO_6, HO_7, BK222, HB⟩ := hrel
  cases gk with
  | zero => exact absurd HA.out (by simp [spec_SeenBest.l0])
  | succ k2 =>
   have H := HA.out
   clear HA
   simp only [spec_SeenBest.l0] at H
   by_cases c18 : x10_2 < a0_0
   ·rw [if_pos c18] at H
    have c18b0 : decide (x10_2 < a0_0) = true := decide_eq_true c18
    clear c18
    obtain ⟨ji19, hji19⟩ : ∃ j_ : Int, (wrap64 ((l1.length : Int) - 1)) = j_ := ⟨_, rfl⟩
    replace H : (if 0 ≤ (ji19) then (if (ji19) < (t225.length : Int) then (if 0 ≤ x10_2 then (if x10_2 < ((rd_L3 t225 (ji19)).length : Int) then (if 0 ≤ x9_2 then (if x9_2 < ((rd_L3 t225 (ji19)).length : Int) then (if (rd (rd_L3 t225 (ji19)) x10_2) < (rd (rd_L3 t225 (ji19)) x9_2) then (spec_SeenBest.l0 k2 l1 t225 t228 (ji19) x10_2 (wrap64 (x10_2 + 1)) a0_0 l0_1) else (spec_SeenBest.l0 k2 l1 t225 t228 (ji19) x9_2 (wrap64 (x10_2 + 1)) a0_0 l0_1)) else (none)) else (none)) else (none)) else (none)) else (none)) else (none)) = some (r1, r2) := by first | (rw [hji19] at H; exact H) | (simp only [hji19] at H ⊢; exact H)
    have hji19w : (IntKind.i64.wrap ((l1.length : Int) - 1)) = ji19 := (i64_w _).trans hji19
    by_cases c20 : 0 ≤ (ji19)
    rotate_left
    ·rw [if_neg c20] at H
     exact absurd H (by simp)
    rw [if_pos c20] at H
    have c20b0 : decide (0 ≤ (ji19)) = true := decide_eq_true c20
    clear c20
    by_cases c21 : (ji19) < (t225.length : Int)
    rotate_left
    ·rw [if_neg c21] at H
     exact absurd H (by simp)
    rw [if_pos c21] at H
    have c21b0 : decide ((ji19) < (t225.length : Int)) = true := decide_eq_true c21
    clear c21
    by_cases c22 : 0 ≤ x10_2
    rotate_left
    ·rw [if_neg c22] at H
     exact absurd H (by simp)
    rw [if_pos c22] at H
    have c22b0 : decide (0 ≤ x10_2) = true := decide_eq_true c22
    clear c22
    by_cases c23 : x10_2 < ((rd_L3 t225 (ji19)).length : Int)
    rotate_left
    ·rw [if_neg c23] at H
     exact absurd H (by simp)
    rw [if_pos c23] at H
    have c23b0 : decide (x10_2 < ((rd_L3 t225 (ji19)).length : Int)) = true := decide_eq_true c23
    clear c23
    by_cases c24 : 0 ≤ x9_2
    rotate_left
    ·rw [if_neg c24] at H
     exact absurd H (by simp)
    rw [if_pos c24] at H
    have c24b0 : decide (0 ≤ x9_2) = true := decide_eq_true c24
    clear c24
    by_cases c25 : x9_2 < ((rd_L3 t225 (ji19)).length : Int)
    rotate_left
    ·rw [if_neg c25] at H
     exact absurd H (by simp)
    rw [if_pos c25] at H
    have c25b0 : decide (x9_2 < ((rd_L3 t225 (ji19)).length : Int)) = true := decide_eq_true c25
    clear c25
    by_cases c26 : (rd (rd_L3 t225 (ji19)) x10_2) < (rd (rd_L3 t225 (ji19)) x9_2)
    ·rw [if_pos c26] at H
     have c26b0 : decide ((rd (rd_L3 t225 (ji19)) x10_2) < (rd (rd_L3 t225 (ji19)) x9_2)) = true := decide_eq_true c26
     clear c26
     have H' := ak H
     clear H
     have hcz27_0 := bc wr BK222 0 (.int .i64 a0_0) rfl
     have hcz27_1 := bc wr BK222 1 (.slice A0_1 l0_1.length c0_1) rfl
     have hfz27_0 := fz BK222 0
     have hfz27_1 := fz BK222 1
     obtain ⟨Ao28, co28, eo28⟩ := Kd.N_slice HO_6.out
     subst eo28
     have p231 : 0 ≤ ((ji19) : Int) := oT (by first | (with_reducible assumption) | assumption)
     have q231 : (ji19) < (t225.length : Int) := oT (by first | (with_reducible assumption) | assumption)
     obtain ⟨ad231, A231_0, c231_0, e231, hx231_0, hl231_0, hi231_0⟩ := at_L3 (Kd.N_reads' HO_6.out).2.2 (ji19) p231 q231
     cases e231
     obtain ⟨ce231, hce231, hMe231, hcc231⟩ := Kd.N_get HO_6.out [] (ji19) p231 (by first | exact q231 | exact oT (by first | (with_reducible assumption) | assumption) | (have e_ := (Kd.N_reads' HO_6.out).1; omega))
     obtain ⟨ua231_0, uc231_0, rfl, ul231_0, ge231_0⟩ := Kd.FK_slice_open hMe231
     have hv231_0 := hcc231 0 _ rfl
     rw [Nat.add_zero, show ((Kd.slice 3 (Kd.int .i64))).sz = 1 from rfl, Nat.mul_one] at hv231_0
     replace hv231_0 := Option.some.inj (hv231_0.symm.trans hx231_0)
     injection hv231_0 with hva_ hvn_ hvc_
     rw [hva_] at ge231_0
     rw [hvc_] at ul231_0
     have HL231_0 := ak (show Kd.V (Kd.int .i64) 3 _ w.heap.size _ _ (rd_L3 t225 (ji19)) from Kd.V_mk ul231_0 ge231_0)
     clear hva_ hvn_ hvc_ ge231_0 ul231_0
     clear hcc231 hce231
     have HR231_0 := ak hi231_0
     have HC231_0 := ak hl231_0
     clear hi231_0 hl231_0
     replace p231 := eq_true p231
     replace q231 := eq_true q231
     have p232 : 0 ≤ (x10_2 : Int) := oT (by first | (with_reducible assumption) | assumption)
     have q232 : x10_2 < ((rd_L3 t225 (ji19)).length : Int) := oT (by first | (with_reducible assumption) | assumption)
     obtain ⟨ad232, e232, hx232_0⟩ := Kd.at_int (by repeat (first | (with_reducible exact HR231_0.out) | (with_reducible refine Kd.C_alloc ?_ _) | (with_reducible refine Kd.C_drewN ?_ _) | (with_reducible refine Kd.C_drew ?_) | exact HR231_0.out)) x10_2 p232 q232
     cases e232
     replace p232 := eq_true p232
     replace q232 := eq_true q232
     have p233 : 0 ≤ ((ji19) : Int) := oT (by first | (with_reducible assumption) | assumption)
     have q233 : (ji19) < (t225.length : Int) := oT (by first | (with_reducible assumption) | assumption)
     obtain ⟨ad233, A233_0, c233_0, e233, hx233_0, hl233_0, hi233_0⟩ := at_L3 (Kd.N_reads' HO_6.out).2.2 (ji19) p233 q233
     obtain rfl : ad231 = ad233 := (by injection e233)
     obtain ⟨ce233, hce233, hMe233, hcc233⟩ := Kd.N_get HO_6.out [] (ji19) p233 (by first | exact q233 | exact oT (by first | (with_reducible assumption) | assumption) | (have e_ := (Kd.N_reads' HO_6.out).1; omega))
     obtain ⟨ua233_0, uc233_0, rfl, ul233_0, ge233_0⟩ := Kd.FK_slice_open hMe233
     have hv233_0 := hcc233 0 _ rfl
     rw [Nat.add_zero, show ((Kd.slice 3 (Kd.int .i64))).sz = 1 from rfl, Nat.mul_one] at hv233_0
     replace hv233_0 := Option.some.inj (hv233_0.symm.trans hx233_0)
     injection hv233_0 with hva_ hvn_ hvc_
     rw [hva_] at ge233_0
     rw [hvc_] at ul233_0
     have HL233_0 := ak (show Kd.V (Kd.int .i64) 3 _ w.heap.size _ _ (rd_L3 t225 (ji19)) from Kd.V_mk ul233_0 ge233_0)
     clear hva_ hvn_ hvc_ ge233_0 ul233_0
     clear hcc233 hce233
     have HR233_0 := ak hi233_0
     have HC233_0 := ak hl233_0
     clear hi233_0 hl233_0
     replace p233 := eq_true p233
     replace q233 := eq_true q233
     have ea_ := Option.some.inj (hx231_0.symm.trans hx233_0)
     injection ea_ with ea_ en_ ec_
     subst ea_
     subst ec_
     clear en_
     have p234 : 0 ≤ (x9_2 : Int) := oT (by first | (with_reducible assumption) | assumption)
     have q234 : x9_2 < ((rd_L3 t225 (ji19)).length : Int) := oT (by first | (with_reducible assumption) | assumption)
     obtain ⟨ad234, e234, hx234_0⟩ := Kd.at_int (by repeat (first | (with_reducible exact HR233_0.out) | (with_reducible refine Kd.C_alloc ?_ _) | (with_reducible refine Kd.C_drewN ?_ _) | (with_reducible refine Kd.C_drew ?_) | exact HR233_0.out)) x9_2 p234 q234
     cases e234
     replace p234 := eq_true p234
     replace q234 := eq_true q234
     go_wp2
     repeat (go_quiet (fail); try go_wp2)
     (try subst hji19)
     (try subst hji46)
     go_roundg k2
     case measure => have := HJ2.out; have := HK2.out; omega
     case rel => exact ⟨(x10_2), (wrap64 (x10_2 + 1)), (by first | rfl | (simp; done) | (simp [*]; done)), (by first | rfl | (simp; done) | (simp [*]; done)), H', ⟨by have := HJ2.out; have := HK2.out; omega⟩, ⟨by (with_reducible repeat (first | apply Kd.N_alloc | apply Kd.N_drewN | apply Kd.N_drew)); exact HO_6.out⟩, ⟨by (with_reducible repeat (first | apply Kd.N_alloc | apply Kd.N_drewN | apply Kd.N_drew)); exact HO_7.out⟩, ⟨bk BK222⟩, ⟨bl1 HB GE222⟩⟩
    rw [if_neg c26] at H
    have c26b0 : decide ((rd (rd_L3 t225 (ji19)) x10_2) < (rd (rd_L3 t225 (ji19)) x9_2)) = false := decide_eq_false c26
    clear c26
    have H' := ak H
    clear H
    have hcz29_0 := bc wr BK222 0 (.int .i64 a0_0) rfl
    have hcz29_1 := bc wr BK222 1 (.slice A0_1 l0_1.length c0_1) rfl
    have hfz29_0 := fz BK222 0
    have hfz29_1 := fz BK222 1
    obtain ⟨Ao30, co30, eo30⟩ := Kd.N_slice HO_6.out
    subst eo30
    have p231 : 0 ≤ ((ji19) : Int) := oT (by first | (with_reducible assumption) | assumption)
    have q231 : (ji19) < (t225.length : Int) := oT (by first | (with_reducible assumption) | assumption)
    obtain ⟨ad231, A231_0, c231_0, e231, hx231_0, hl231_0, hi231_0⟩ := at_L3 (Kd.N_reads' HO_6.out).2.2 (ji19) p231 q231
    cases e231
    obtain ⟨ce231, hce231, hMe231, hcc231⟩ := Kd.N_get HO_6.out [] (ji19) p231 (by first | exact q231 | exact oT (by first | (with_reducible assumption) | assumption) | (have e_ := (Kd.N_reads' HO_6.out).1; omega))
    obtain ⟨ua231_0, uc231_0, rfl, ul231_0, ge231_0⟩ := Kd.FK_slice_open hMe231
    have hv231_0 := hcc231 0 _ rfl
    rw [Nat.add_zero, show ((Kd.slice 3 (Kd.int .i64))).sz = 1 from rfl, Nat.mul_one] at hv231_0
    replace hv231_0 := Option.some.inj (hv231_0.symm.trans hx231_0)
    injection hv231_0 with hva_ hvn_ hvc_
    rw [hva_] at ge231_0
    rw [hvc_] at ul231_0
    have HL231_0 := ak (show Kd.V (Kd.int .i64) 3 _ w.heap.size _ _ (rd_L3 t225 (ji19)) from Kd.V_mk ul231_0 ge231_0)
    clear hva_ hvn_ hvc_ ge231_0 ul231_0
    clear hcc231 hce231
    have HR231_0 := ak hi231_0
    have HC231_0 := ak hl231_0
    clear hi231_0 hl231_0
    replace p231 := eq_true p231
    replace q231 := eq_true q231
    have p232 : 0 ≤ (x10_2 : Int) := oT (by first | (with_reducible assumption) | assumption)
    have q232 : x10_2 < ((rd_L3 t225 (ji19)).length : Int) := oT (by first | (with_reducible assumption) | assumption)
    obtain ⟨ad232, e232, hx232_0⟩ := Kd.at_int (by repeat (first | (with_reducible exact HR231_0.out) | (with_reducible refine Kd.C_alloc ?_ _) | (with_reducible refine Kd.C_drewN ?_ _) | (with_reducible refine Kd.C_drew ?_) | exact HR231_0.out)) x10_2 p232 q232
    cases e232
    replace p232 := eq_true p232
    replace q232 := eq_true q232
    have p233 : 0 ≤ ((ji19) : Int) := oT (by first | (with_reducible assumption) | assumption)
    have q233 : (ji19) < (t225.length : Int) := oT (by first | (with_reducible assumption) | assumption)
    obtain ⟨ad233, A233_0, c233_0, e233, hx233_0, hl233_0, hi233_0⟩ := at_L3 (Kd.N_reads' HO_6.out).2.2 (ji19) p233 q233
    obtain rfl : ad231 = ad233 := (by injection e233)
    obtain ⟨ce233, hce233, hMe233, hcc233⟩ := Kd.N_get HO_6.out [] (ji19) p233 (by first | exact q233 | exact oT (by first | (with_reducible assumption) | assumption) | (have e_ := (Kd.N_reads' HO_6.out).1; omega))
    obtain ⟨ua233_0, uc233_0, rfl, ul233_0, ge233_0⟩ := Kd.FK_slice_open hMe233
    have hv233_0 := hcc233 0 _ rfl
    rw [Nat.add_zero, show ((Kd.slice 3 (Kd.int .i64))).sz = 1 from rfl, Nat.mul_one] at hv233_0
    replace hv233_0 := Option.some.inj (hv233_0.symm.trans hx233_0)
    injection hv233_0 with hva_ hvn_ hvc_
    rw [hva_] at ge233_0
    rw [hvc_] at ul233_0
    have HL233_0 := ak (show Kd.V (Kd.int .i64) 3 _ w.heap.size _ _ (rd_L3 t225 (ji19)) from Kd.V_mk ul233_0 ge233_0)
    clear hva_ hvn_ hvc_ ge233_0 ul233_0
    clear hcc233 hce233
    have HR233_0 := ak hi233_0
    have HC233_0 := ak hl233_0
    clear hi233_0 hl233_0
    replace p233 := eq_true p233
    replace q233 := eq_true q233
    have ea_ := Option.some.inj (hx231_0.symm.trans hx233_0)
    injection ea_ with ea_ en_ ec_
    subst ea_
    subst ec_
    clear en_
    have p234 : 0 ≤ (x9_2 : Int) := oT (by first | (with_reducible assumption) | assumption)
    have q234 : x9_2 < ((rd_L3 t225 (ji19)).length : Int) := oT (by first | (with_reducible assumption) | assumption)
    obtain ⟨ad234, e234, hx234_0⟩ := Kd.at_int (by repeat (first | (with_reducible exact HR233_0.out) | (with_reducible refine Kd.C_alloc ?_ _) | (with_reducible refine Kd.C_drewN ?_ _) | (with_reducible refine Kd.C_drew ?_) | exact HR233_0.out)) x9_2 p234 q234
    cases e234
    replace p234 := eq_true p234
    replace q234 := eq_true q234
    go_wp2
    repeat (go_quiet (fail); try go_wp2)
    (try subst hji19)
    (try subst hji46)
    go_roundg k2
    case measure => have := HJ2.out; have := HK2.out; omega
    case rel => exact ⟨(x9_2), (wrap64 (x10_2 + 1)), (by first | rfl | (simp; done) | (simp [*]; done)), (by first | rfl | (simp; done) | (simp [*]; done)), H', ⟨by have := HJ2.out; have := HK2.out; omega⟩, ⟨by (with_reducible repeat (first | apply Kd.N_alloc | apply Kd.N_drewN | apply Kd.N_drew)); exact HO_6.out⟩, ⟨by (with_reducible repeat (first | apply Kd.N_alloc | apply Kd.N_drewN | apply Kd.N_drew)); exact HO_7.out⟩, ⟨bk BK222⟩, ⟨bl1 HB GE222⟩⟩
   rw [if_neg c18] at H
   have c18b0 : decide (x10_2 < a0_0) = false := decide_eq_false c18
   clear c18
   by_cases c31 : 0 ≤ (l1.length : Int)
   rotate_left
   ·rw [if_neg c31] at H
    exact absurd H (by simp)
   rw [if_pos c31] at H
   have c31b0 := eq_true c31
   have c31b1 : decide (0 ≤ (l1.length : Int)) = true := decide_eq_true c31
   clear c31
   by_cases c32 : ((l1.length : Int) : Int).toNat ≤ 35184372088832
   rotate_left
   ·rw [if_neg c32] at H
    exact absurd H (by simp)
   rw [if_pos c32] at H
   have c32b0 := eq_true c32
   have c32b1 : decide (((l1.length : Int) : Int).toNat ≤ 35184372088832) = true := decide_eq_true c32
   clear c32
   obtain ⟨y235, hy235⟩ : ∃ y_ : List Int, y_ = (List.replicate ((l1.length : Int) : Int).toNat 0) := ⟨_, rfl⟩
   replace H : (spec_SeenBest.l1 k2 t225 t228 (wrap64 ((l1.length : Int) - 1)) x9_2 y235 (wrap64 ((l1.length : Int) - 1))) = some (r1, r2) := by first | (rw [hy235]; with_reducible exact H) | (have H2_ := (Option.bind_some _ _).symm.trans H; rw [hy235]; with_reducible exact H2_) | (have H2_ := (Option.bind_some _ _).symm.trans H; with_reducible exact H2_) | with_reducible exact H | (rw [hy235]; exact H) | exact H
   have Ny235 := ak hy235
   clear hy235
   have H' := ak H
   clear H
   have hcz33_0 := bc wr BK222 0 (.int .i64 a0_0) rfl
   have hcz33_1 := bc wr BK222 1 (.slice A0_1 l0_1.length c0_1) rfl
   have hfz33_0 := fz BK222 0
   have hfz33_1 := fz BK222 1
   go_wp2_with (first | ((with_reducible refine gate_dst (N := 55) rfl ?_); refine Kd.R_make (Kd.int .i64) _ 3 rfl (N := 55) rfl 33 _ _ rfl (l1.length : Int) rfl rfl Try.underlying33 (.int .i64 0) 8 info3 rfl (by decide) (by omega) 0 (ok := fun _ => True) (okp := fun _ => True) rfl (fun _ hk => hk) trivial (oT (by first | (with_reducible assumption) | assumption)) (Nat.le_trans (Nat.mul_le_mul_right _ (oT (by first | (with_reducible assumption) | assumption) : (l1.length : Int).toNat ≤ 35184372088832)) (by omega)) (Below.refl _ _) (Nat.le_refl _) ?_; intro v236 w34 ho35 hb hg_ hnew_; clear hg_ hnew_; (first | rw [← Ny235.out] at ho35 | (simp only [Int.reduceToNat] at ho35; rw [← Ny235.out] at ho35)); replace HO_6 := ak (Kd.N_elder' (by (with_reducible repeat (first | apply Kd.N_alloc | apply Kd.N_drewN | apply Kd.N_drew)); exact HO_6.out) (Kd.R_base ho35) hb); replace HO_7 := ak (Kd.N_elder' (by (with_reducible repeat (first | apply Kd.N_alloc | apply Kd.N_drewN | apply Kd.N_drew)); exact HO_7.out) (Kd.R_base ho35) hb); have HO237 := ak (Kd.R_lower ho35 (below_size (bl1 HB GE222))); replace BK222 := ak (blk_below (bk BK222) hb); replace HB := ak (below_step (bl1 HB GE222) hb); clear hb ho35) | go_values | go_skip | go_guarded | go_step | go_upon | go_back | go_quiet (first | ((with_reducible refine gate_dst (N := 55) rfl ?_); refine Kd.R_make (Kd.int .i64) _ 3 rfl (N := 55) rfl 33 _ _ rfl (l1.length : Int) rfl rfl Try.underlying33 (.int .i64 0) 8 info3 rfl (by decide) (by omega) 0 (ok := fun _ => True) (okp := fun _ => True) rfl (fun _ hk => hk) trivial (oT (by first | (with_reducible assumption) | assumption)) (Nat.le_trans (Nat.mul_le_mul_right _ (oT (by first | (with_reducible assumption) | assumption) : (l1.length : Int).toNat ≤ 35184372088832)) (by omega)) (Below.refl _ _) (Nat.le_refl _) ?_; intro v236 w34 ho35 hb hg_ hnew_; clear hg_ hnew_; (first | rw [← Ny235.out] at ho35 | (simp only [Int.reduceToNat] at ho35; rw [← Ny235.out] at ho35)); replace HO_6 := ak (Kd.N_elder' (by (with_reducible repeat (first | apply Kd.N_alloc | apply Kd.N_drewN | apply Kd.N_drew)); exact HO_6.out) (Kd.R_base ho35) hb); replace HO_7 := ak (Kd.N_elder' (by (with_reducible repeat (first | apply Kd.N_alloc | apply Kd.N_drewN | apply Kd.N_drew)); exact HO_7.out) (Kd.R_base ho35) hb); have HO237 := ak (Kd.R_lower ho35 (below_size (bl1 HB GE222))); replace BK222 := ak (blk_below (bk BK222) hb); replace HB := ak (below_step (bl1 HB GE222) hb); clear hb ho35)))
   go_loopg [9, 12] k2 (fun kq v9 v12 w' => ∃ (x9_3 : Int) (x11_3 : List Int) (x12_3 : Int), v9 = .int .i64 x9_3 ∧ v12 = .int .i64 x12_3 ∧ Aside0 (spec_SeenBest.l1 kq t225 t228 (wrap64 ((l1.length : Int) - 1)) x9_3 x11_3 x12_3 = some (r1, r2)) ∧ Aside0 (kq ≤ k2) ∧ Aside0 (Kd.N (Kd.slice 3 (Kd.int .i64)) 33 w' w.heap.size (fun k_ => some k_ ≠ (v229 : Value).ownBlock ∧ some k_ ≠ (v236 : Value).ownBlock ∧ k_ ≠ gb222) v226 t225) ∧ Aside0 (Kd.N (Kd.slice 3 (Kd.int .i64)) 33 w' w.heap.size (fun k_ => some k_ ≠ (v226 : Value).ownBlock ∧ some k_ ≠ (v236 : Value).ownBlock ∧ k_ ≠ gb222) v229 t228) ∧ Aside0 (Kd.R (Kd.int .i64) 3 w' w.heap.size (fun _ => True) v236 x11_3) ∧ Aside0 (w'.heap[gb222]? = some (.cells #[.int .i64 a0_0, (.slice A0_1 l0_1.length c0_1)] 25 (0, 0))) ∧ Aside0 (Below w.heap.size w w'))
   case atStart => exact ⟨(x9_2), (y235), ((wrap64 ((l1.length : Int) - 1))), (by first | rfl | (simp; done) | (simp [*]; done)), (by first | rfl | (simp; done) | (simp [*]; done)), H', ⟨Nat.le_refl _⟩, ⟨by (with_reducible repeat (first | apply Kd.N_alloc | apply Kd.N_drewN | apply Kd.N_drew)); exact Kd.N_mono HO_6.out (fun _ hk => ⟨hk.1.1, ⟨hk.2, hk.1.2⟩⟩)⟩, ⟨by (with_reducible repeat (first | apply Kd.N_alloc | apply Kd.N_drewN | apply Kd.N_drew)); exact Kd.N_mono HO_7.out (fun _ hk => ⟨hk.1.1, ⟨hk.2, hk.1.2⟩⟩)⟩, ⟨rk HO237⟩, ⟨bk BK222⟩, ⟨bl1 HB GE222⟩⟩
   clear H'
   try clear c1
   try clear c2
   try clear p2
   try clear q2
   try clear hx2
   try clear c3
   try clear c6
   try clear p6
   try clear c14
   try clear c18
   try clear c18b0
   try clear c20
   try clear c20b0
   try clear c21
   try clear c21b0
   try clear c22
   try clear c22b0
   try clear c23
   try clear c23b0
   try clear p23
   try clear q23
   try clear hx23
   try clear c24
   try clear c24b0
   try clear c25
   try clear c25b0
   try clear c26
   try clear c26b0
   try clear c31
   try clear c31b0
   try clear c31b1
   try clear c32
   try clear c32b0
   try clear c32b1
   try clear hcz10_0
   try clear hcz10_1
   try clear hcz12_0
   try clear hcz12_1
   try clear hcz16_0
   try clear hcz16_1
   try clear hcz27_0
   try clear hcz27_1
   try clear hcz29_0
   try clear hcz29_1
   try clear hcz33_0
   try clear hcz33_1
   try clear hcz8_0
   try clear hcz8_1
   try clear hfz10_0
   try clear hfz10_1
   try clear hfz12_0
   try clear hfz12_1
   try clear hfz16_0
   try clear hfz16_1
   try clear hfz27_0
   try clear hfz27_1
   try clear hfz29_0
   try clear hfz29_1
   try clear hfz33_0
   try clear hfz33_1
   try clear hfz8_0
   try clear hfz8_1
   try clear hx231_0
   try clear hx232_0
   try clear hx233_0
   try clear hx234_0
   try clear p2
   try clear p231
   try clear p232
   try clear p233
   try clear p234
   try clear p6
   try clear q231
   try clear q232
   try clear q233
   try clear q234
   obtain ⟨x9_3, x11_3, x12_3, rfl, rfl, HA, HK3, HO_6, HO_7, HO_11, BK222, HB⟩ := hrel
   cases gk with
   | zero => exact absurd HA.out (by simp [spec_SeenBest.l1])
   | succ k3 =>
    have H := HA.out
    clear HA
    simp only [spec_SeenBest.l1] at H
    by_cases c36 : x12_3 ≥ 0
    rotate_left
    ·rw [if_neg c36] at H
     have c36b0 : decide (0 ≤ x12_3) = false := decide_eq_false c36
     clear c36
     obtain ⟨ji46, hji46⟩ : ∃ j_ : Int, (wrap64 ((l1.length : Int) - 1)) = j_ := ⟨_, rfl⟩
     replace H : (if 0 ≤ (ji46) then (if (ji46) < (t225.length : Int) then (if (ji46) < (x11_3.length : Int) then (if 0 ≤ (rd x11_3 (ji46)) then (if (rd x11_3 (ji46)) < ((rd_L3 t225 (ji46)).length : Int) then (some (x11_3, rd (rd_L3 t225 (ji46)) (rd x11_3 (ji46)))) else (none)) else (none)) else (none)) else (none)) else (none)) = some (r1, r2) := by first | (rw [hji46] at H; exact H) | (simp only [hji46] at H ⊢; exact H)
     have hji46w : (IntKind.i64.wrap ((l1.length : Int) - 1)) = ji46 := (i64_w _).trans hji46
     by_cases c47 : 0 ≤ (ji46)
     rotate_left
     ·rw [if_neg c47] at H
      exact absurd H (by simp)
     rw [if_pos c47] at H
     have c47b0 : decide (0 ≤ (ji46)) = true := decide_eq_true c47
     clear c47
     by_cases c48 : (ji46) < (t225.length : Int)
     rotate_left
     ·rw [if_neg c48] at H
      exact absurd H (by simp)
     rw [if_pos c48] at H
     have c48b0 : decide ((ji46) < (t225.length : Int)) = true := decide_eq_true c48
     clear c48
     by_cases c49 : (ji46) < (x11_3.length : Int)
     rotate_left
     ·rw [if_neg c49] at H
      exact absurd H (by simp)
     rw [if_pos c49] at H
     have c49b0 : decide ((ji46) < (x11_3.length : Int)) = true := decide_eq_true c49
     clear c49
     by_cases c50 : 0 ≤ (rd x11_3 (ji46))
     rotate_left
     ·rw [if_neg c50] at H
      exact absurd H (by simp)
     rw [if_pos c50] at H
     have c50b0 : decide (0 ≤ (rd x11_3 (ji46))) = true := decide_eq_true c50
     clear c50
     by_cases c51 : (rd x11_3 (ji46)) < ((rd_L3 t225 (ji46)).length : Int)
     rotate_left
     ·rw [if_neg c51] at H
      exact absurd H (by simp)
     rw [if_pos c51] at H
     have c51b0 : decide ((rd x11_3 (ji46)) < ((rd_L3 t225 (ji46)).length : Int)) = true := decide_eq_true c51
     clear c51
     simp only [Option.some.injEq, Prod.mk.injEq] at H
     obtain ⟨rfl, rfl⟩ := H
     obtain ⟨Ao52, co52, eo52⟩ := Kd.N_slice HO_6.out
     subst eo52
     have p241 : 0 ≤ ((ji46) : Int) := oT (by first | (with_reducible assumption) | assumption)
     have q241 : (ji46) < (t225.length : Int) := oT (by first | (with_reducible assumption) | assumption)
     obtain ⟨ad241, A241_0, c241_0, e241, hx241_0, hl241_0, hi241_0⟩ := at_L3 (Kd.N_reads' HO_6.out).2.2 (ji46) p241 q241
     cases e241
     obtain ⟨ce241, hce241, hMe241, hcc241⟩ := Kd.N_get HO_6.out [] (ji46) p241 (by first | exact q241 | exact oT (by first | (with_reducible assumption) | assumption) | (have e_ := (Kd.N_reads' HO_6.out).1; omega))
     obtain ⟨ua241_0, uc241_0, rfl, ul241_0, ge241_0⟩ := Kd.FK_slice_open hMe241
     have hv241_0 := hcc241 0 _ rfl
     rw [Nat.add_zero, show ((Kd.slice 3 (Kd.int .i64))).sz = 1 from rfl, Nat.mul_one] at hv241_0
     replace hv241_0 := Option.some.inj (hv241_0.symm.trans hx241_0)
     injection hv241_0 with hva_ hvn_ hvc_
     rw [hva_] at ge241_0
     rw [hvc_] at ul241_0
     have HL241_0 := ak (show Kd.V (Kd.int .i64) 3 _ w.heap.size _ _ (rd_L3 t225 (ji46)) from Kd.V_mk ul241_0 ge241_0)
     clear hva_ hvn_ hvc_ ge241_0 ul241_0
     clear hcc241 hce241
     have HR241_0 := ak hi241_0
     have HC241_0 := ak hl241_0
     clear hi241_0 hl241_0
     replace p241 := eq_true p241
     replace q241 := eq_true q241
     obtain ⟨Ao53, co53, eo53⟩ := Kd.R_slice HO_11.out
     subst eo53
     have p242 : 0 ≤ ((ji46) : Int) := oT (by first | (with_reducible assumption) | assumption)
     have q242 : (ji46) < (x11_3.length : Int) := oT (by first | (with_reducible assumption) | assumption)
     obtain ⟨ad242, e242, hx242_0⟩ := Kd.at_int (Kd.R_reads' HO_11.out).2.2 (ji46) p242 q242
     cases e242
     replace p242 := eq_true p242
     replace q242 := eq_true q242
     have p243 : 0 ≤ ((rd x11_3 (ji46)) : Int) := oT (by first | (with_reducible assumption) | assumption)
     have q243 : (rd x11_3 (ji46)) < ((rd_L3 t225 (ji46)).length : Int) := oT (by first | (with_reducible assumption) | assumption)
     obtain ⟨ad243, e243, hx243_0⟩ := Kd.at_int (by repeat (first | (with_reducible exact HR241_0.out) | (with_reducible refine Kd.C_alloc ?_ _) | (with_reducible refine Kd.C_drewN ?_ _) | (with_reducible refine Kd.C_drew ?_) | exact HR241_0.out)) (rd x11_3 (ji46)) p243 q243
     cases e243
     replace p243 := eq_true p243
     replace q243 := eq_true q243
     go_wp2
     repeat (go_quiet (fail); try go_wp2)
     go_ret2
     exact ⟨_, by first | rfl | (simp [errW_none, errW_some] <;> rfl) | (simp only [← hji46]; first | rfl | (simp [errW_none, errW_some] <;> rfl)) | (simp [*, errW_none, errW_some] <;> rfl), rk HO_11, bl1 HB GE222⟩
    rw [if_pos c36] at H
    have c36b0 : decide (0 ≤ x12_3) = true := decide_eq_true c36
    clear c36
    by_cases c37 : 0 ≤ x12_3
    rotate_left
    ·rw [if_neg c37] at H
     exact absurd H (by simp)
    rw [if_pos c37] at H
    have c37b0 : decide (0 ≤ x12_3) = true := decide_eq_true c37
    clear c37
    by_cases c38 : x12_3 < (x11_3.length : Int)
    rotate_left
    ·rw [if_neg c38] at H
     exact absurd H (by simp)
    rw [if_pos c38] at H
    have c38b0 : decide (x12_3 < (x11_3.length : Int)) = true := decide_eq_true c38
    clear c38
    obtain ⟨y238, hy238⟩ : ∃ y_ : List Int, y_ = (x11_3.set (x12_3 : Int).toNat x9_3) := ⟨_, rfl⟩
    replace H : (if x12_3 < (t228.length : Int) then (if 0 ≤ x9_3 then (if x9_3 < ((rd_L3 t228 x12_3).length : Int) then (spec_SeenBest.l1 k3 t225 t228 (wrap64 ((l1.length : Int) - 1)) (rd (rd_L3 t228 x12_3) x9_3) y238 (wrap64 (x12_3 - 1))) else (none)) else (none)) else (none)) = some (r1, r2) := by first | (rw [hy238]; with_reducible exact H) | (have H2_ := (Option.bind_some _ _).symm.trans H; rw [hy238]; with_reducible exact H2_) | (have H2_ := (Option.bind_some _ _).symm.trans H; with_reducible exact H2_) | with_reducible exact H | (rw [hy238]; exact H) | exact H
    have Ny238 := ak hy238
    clear hy238
    by_cases c40 : x12_3 < (t228.length : Int)
    rotate_left
    ·rw [if_neg c40] at H
     exact absurd H (by simp)
    rw [if_pos c40] at H
    have c40b0 : decide (x12_3 < (t228.length : Int)) = true := decide_eq_true c40
    clear c40
    by_cases c41 : 0 ≤ x9_3
    rotate_left
    ·rw [if_neg c41] at H
     exact absurd H (by simp)
    rw [if_pos c41] at H
    have c41b0 : decide (0 ≤ x9_3) = true := decide_eq_true c41
    clear c41
    by_cases c42 : x9_3 < ((rd_L3 t228 x12_3).length : Int)
    rotate_left
    ·rw [if_neg c42] at H
     exact absurd H (by simp)
    rw [if_pos c42] at H
    have c42b0 : decide (x9_3 < ((rd_L3 t228 x12_3).length : Int)) = true := decide_eq_true c42
    clear c42
    have H' := ak H
    clear H
    have p39 : 0 ≤ (x12_3 : Int) := oT (by first | (with_reducible assumption) | assumption)
    have q39 : (x12_3 : Int) < ((x11_3.length : Int) : Int) := oT (by first | (with_reducible assumption) | assumption)
    obtain ⟨go39, co39, eo39, gb39, gl39, cl39, HG39⟩ := Kd.R_form HO_11.out (by omega)
    (first | cases eo39 | (injection eo39 with ea_ en_ ec_; (first | subst ea_ | (injection ea_ with ea_; subst ea_)); subst ec_; clear en_))
    have GB39 := ak gb39
    have GG39 := ak HG39
    clear gb39 gl39 HG39
    obtain ⟨hx39_0, hf39_0⟩ := Kd.R_celln 0 HO_11.out (x12_3 : Int) p39 q39
    replace p39 := eq_true p39
    replace q39 := eq_true q39
    have HP43 := Kd.R_putg HO_11.out (x12_3 : Int) x9_3
    go_wp2_with (first | ((with_reducible refine gate_store (t := 3) (p := 64) rfl ?_); (try (rw [drewN_self wr]; generalize hq_ : World.drewN wr _ = wr; have n0_ := ak (Kd.N_at hq_ HO_6.out); have n1_ := ak (Kd.N_at hq_ HO_7.out); have n2_ := ak (Kd.R_at hq_ HO_11.out); have n3_ := ak (blk_at hq_ BK222.out); have n4_ := ak (below_at hq_ HB.out); clear hq_ HO_6 HO_7 HO_11 BK222 HB; have HO_6 := n0_; have HO_7 := n1_; have HO_11 := n2_; have BK222 := n3_; have HB := n4_; clear n0_ n1_ n2_ n3_ n4_; (try (have HP43 := Kd.R_putg HO_11.out (x12_3 : Int) x9_3)))); refine store_event (t := 3) (p := 64) (v := ?vo_w44) (w1 := (wr.setCell ⟨go39, (x12_3 : Int).toNat, none⟩ (.int .i64 x9_3))) ?hg ?ho ?hn ?hr ?_; (case ho => rfl); (case hg => rfl); (case hn => rfl); (case hr => first | (go_simp; done) | (go_simp; rfl)); intro w44 hw; have hg : wr.grownBy w44 (some go39) := (by rw [hw]; exact HP43.2); have hp_ : Kd.R (Kd.int .i64) 3 w44 w.heap.size (fun _ => True) (.slice (some ⟨go39, 0, none⟩) x11_3.length co39) y238 := (by rw [hw, Ny238.out]; exact HP43.1); clear HP43; replace HO_6 := ak (Kd.N_afterv (v := (.slice (some ⟨go39, 0, none⟩) x11_3.length co39)) (v1 := (.slice (some ⟨go39, 0, none⟩) x11_3.length co39)) (ok := (fun k_ => some k_ ≠ (v229 : Value).ownBlock ∧ k_ ≠ gb222)) (by (with_reducible repeat (first | apply Kd.N_alloc | apply Kd.N_drewN | apply Kd.N_drew)); exact Kd.N_mono HO_6.out (fun _ hk => ⟨⟨hk.1, hk.2.2⟩, hk.2.1⟩)) hg (.inl rfl)); replace HO_7 := ak (Kd.N_afterv (v := (.slice (some ⟨go39, 0, none⟩) x11_3.length co39)) (v1 := (.slice (some ⟨go39, 0, none⟩) x11_3.length co39)) (ok := (fun k_ => some k_ ≠ (v226 : Value).ownBlock ∧ k_ ≠ gb222)) (by (with_reducible repeat (first | apply Kd.N_alloc | apply Kd.N_drewN | apply Kd.N_drew)); exact Kd.N_mono HO_7.out (fun _ hk => ⟨⟨hk.1, hk.2.2⟩, hk.2.1⟩)) hg (.inl rfl)); replace BK222 := ak (blk_grown (bk BK222) hg (Kd.R_ne HO_11.out BK222.out (by decide))); replace HO_11 := ak (hp_); replace HB := ak ((by rw [hw]; exact below_set (HB.out) GB39.out : Below w.heap.size w w44)); clear hg hw hp_; obtain ⟨Ao45, co45, eo45⟩ := Kd.N_slice HO_7.out; subst eo45; have p239 : 0 ≤ (x12_3 : Int) := oT (by first | (with_reducible assumption) | assumption); have q239 : x12_3 < (t228.length : Int) := oT (by first | (with_reducible assumption) | assumption); obtain ⟨ad239, A239_0, c239_0, e239, hx239_0, hl239_0, hi239_0⟩ := at_L3 (Kd.N_reads' HO_7.out).2.2 x12_3 p239 q239; cases e239; obtain ⟨ce239, hce239, hMe239, hcc239⟩ := Kd.N_get HO_7.out [] x12_3 p239 (by first | exact q239 | exact oT (by first | (with_reducible assumption) | assumption) | (have e_ := (Kd.N_reads' HO_7.out).1; omega)); obtain ⟨ua239_0, uc239_0, rfl, ul239_0, ge239_0⟩ := Kd.FK_slice_open hMe239; have hv239_0 := hcc239 0 _ rfl; rw [Nat.add_zero, show ((Kd.slice 3 (Kd.int .i64))).sz = 1 from rfl, Nat.mul_one] at hv239_0; replace hv239_0 := Option.some.inj (hv239_0.symm.trans hx239_0); injection hv239_0 with hva_ hvn_ hvc_; rw [hva_] at ge239_0; rw [hvc_] at ul239_0; have HL239_0 := ak (show Kd.V (Kd.int .i64) 3 _ w.heap.size _ _ (rd_L3 t228 x12_3) from Kd.V_mk ul239_0 ge239_0); clear hva_ hvn_ hvc_ ge239_0 ul239_0; clear hcc239 hce239; have HR239_0 := ak hi239_0; have HC239_0 := ak hl239_0; clear hi239_0 hl239_0; replace p239 := eq_true p239; replace q239 := eq_true q239; have p240 : 0 ≤ (x9_3 : Int) := oT (by first | (with_reducible assumption) | assumption); have q240 : x9_3 < ((rd_L3 t228 x12_3).length : Int) := oT (by first | (with_reducible assumption) | assumption); obtain ⟨ad240, e240, hx240_0⟩ := Kd.at_int (by repeat (first | (with_reducible exact HR239_0.out) | (with_reducible refine Kd.C_alloc ?_ _) | (with_reducible refine Kd.C_drewN ?_ _) | (with_reducible refine Kd.C_drew ?_) | exact HR239_0.out)) x9_3 p240 q240; cases e240; replace p240 := eq_true p240; replace q240 := eq_true q240) | go_values | go_skip | go_guarded | go_step | go_upon | go_back | go_quiet (first | ((with_reducible refine gate_store (t := 3) (p := 64) rfl ?_); (try (rw [drewN_self wr]; generalize hq_ : World.drewN wr _ = wr; have n0_ := ak (Kd.N_at hq_ HO_6.out); have n1_ := ak (Kd.N_at hq_ HO_7.out); have n2_ := ak (Kd.R_at hq_ HO_11.out); have n3_ := ak (blk_at hq_ BK222.out); have n4_ := ak (below_at hq_ HB.out); clear hq_ HO_6 HO_7 HO_11 BK222 HB; have HO_6 := n0_; have HO_7 := n1_; have HO_11 := n2_; have BK222 := n3_; have HB := n4_; clear n0_ n1_ n2_ n3_ n4_; (try (have HP43 := Kd.R_putg HO_11.out (x12_3 : Int) x9_3)))); refine store_event (t := 3) (p := 64) (v := ?vo_w44) (w1 := (wr.setCell ⟨go39, (x12_3 : Int).toNat, none⟩ (.int .i64 x9_3))) ?hg ?ho ?hn ?hr ?_; (case ho => rfl); (case hg => rfl); (case hn => rfl); (case hr => first | (go_simp; done) | (go_simp; rfl)); intro w44 hw; have hg : wr.grownBy w44 (some go39) := (by rw [hw]; exact HP43.2); have hp_ : Kd.R (Kd.int .i64) 3 w44 w.heap.size (fun _ => True) (.slice (some ⟨go39, 0, none⟩) x11_3.length co39) y238 := (by rw [hw, Ny238.out]; exact HP43.1); clear HP43; replace HO_6 := ak (Kd.N_afterv (v := (.slice (some ⟨go39, 0, none⟩) x11_3.length co39)) (v1 := (.slice (some ⟨go39, 0, none⟩) x11_3.length co39)) (ok := (fun k_ => some k_ ≠ (v229 : Value).ownBlock ∧ k_ ≠ gb222)) (by (with_reducible repeat (first | apply Kd.N_alloc | apply Kd.N_drewN | apply Kd.N_drew)); exact Kd.N_mono HO_6.out (fun _ hk => ⟨⟨hk.1, hk.2.2⟩, hk.2.1⟩)) hg (.inl rfl)); replace HO_7 := ak (Kd.N_afterv (v := (.slice (some ⟨go39, 0, none⟩) x11_3.length co39)) (v1 := (.slice (some ⟨go39, 0, none⟩) x11_3.length co39)) (ok := (fun k_ => some k_ ≠ (v226 : Value).ownBlock ∧ k_ ≠ gb222)) (by (with_reducible repeat (first | apply Kd.N_alloc | apply Kd.N_drewN | apply Kd.N_drew)); exact Kd.N_mono HO_7.out (fun _ hk => ⟨⟨hk.1, hk.2.2⟩, hk.2.1⟩)) hg (.inl rfl)); replace BK222 := ak (blk_grown (bk BK222) hg (Kd.R_ne HO_11.out BK222.out (by decide))); replace HO_11 := ak (hp_); replace HB := ak ((by rw [hw]; exact below_set (HB.out) GB39.out : Below w.heap.size w w44)); clear hg hw hp_; obtain ⟨Ao45, co45, eo45⟩ := Kd.N_slice HO_7.out; subst eo45; have p239 : 0 ≤ (x12_3 : Int) := oT (by first | (with_reducible assumption) | assumption); have q239 : x12_3 < (t228.length : Int) := oT (by first | (with_reducible assumption) | assumption); obtain ⟨ad239, A239_0, c239_0, e239, hx239_0, hl239_0, hi239_0⟩ := at_L3 (Kd.N_reads' HO_7.out).2.2 x12_3 p239 q239; cases e239; obtain ⟨ce239, hce239, hMe239, hcc239⟩ := Kd.N_get HO_7.out [] x12_3 p239 (by first | exact q239 | exact oT (by first | (with_reducible assumption) | assumption) | (have e_ := (Kd.N_reads' HO_7.out).1; omega)); obtain ⟨ua239_0, uc239_0, rfl, ul239_0, ge239_0⟩ := Kd.FK_slice_open hMe239; have hv239_0 := hcc239 0 _ rfl; rw [Nat.add_zero, show ((Kd.slice 3 (Kd.int .i64))).sz = 1 from rfl, Nat.mul_one] at hv239_0; replace hv239_0 := Option.some.inj (hv239_0.symm.trans hx239_0); injection hv239_0 with hva_ hvn_ hvc_; rw [hva_] at ge239_0; rw [hvc_] at ul239_0; have HL239_0 := ak (show Kd.V (Kd.int .i64) 3 _ w.heap.size _ _ (rd_L3 t228 x12_3) from Kd.V_mk ul239_0 ge239_0); clear hva_ hvn_ hvc_ ge239_0 ul239_0; clear hcc239 hce239; have HR239_0 := ak hi239_0; have HC239_0 := ak hl239_0; clear hi239_0 hl239_0; replace p239 := eq_true p239; replace q239 := eq_true q239; have p240 : 0 ≤ (x9_3 : Int) := oT (by first | (with_reducible assumption) | assumption); have q240 : x9_3 < ((rd_L3 t228 x12_3).length : Int) := oT (by first | (with_reducible assumption) | assumption); obtain ⟨ad240, e240, hx240_0⟩ := Kd.at_int (by repeat (first | (with_reducible exact HR239_0.out) | (with_reducible refine Kd.C_alloc ?_ _) | (with_reducible refine Kd.C_drewN ?_ _) | (with_reducible refine Kd.C_drew ?_) | exact HR239_0.out)) x9_3 p240 q240; cases e240; replace p240 := eq_true p240; replace q240 := eq_true q240)))
    (try subst hji19)
    (try subst hji46)
    go_roundg k3
    case measure => have := HJ2.out; have := HK2.out; have := HK3.out; omega
    case rel => exact ⟨(rd (rd_L3 t228 x12_3) x9_3), (y238), (wrap64 (x12_3 - 1)), (by first | rfl | (simp; done) | (simp [*]; done)), (by first | rfl | (simp; done) | (simp [*]; done)), H', ⟨by have := HJ2.out; have := HK2.out; have := HK3.out; omega⟩, ⟨by (with_reducible repeat (first | apply Kd.N_alloc | apply Kd.N_drewN | apply Kd.N_drew)); exact Kd.N_mono HO_6.out (fun _ hk => ⟨hk.1.1, ⟨hk.2, hk.1.2⟩⟩)⟩, ⟨by (with_reducible repeat (first | apply Kd.N_alloc | apply Kd.N_drewN | apply Kd.N_drew)); exact Kd.N_mono HO_7.out (fun _ hk => ⟨hk.1.1, ⟨hk.2, hk.1.2⟩⟩)⟩, ⟨rk HO_11⟩, ⟨bk BK222⟩, ⟨bl1 HB GE222⟩⟩

end Go.Proofs.Ytlgolgfcolnddaa.F
