-- Printed by wip/px/px.py of this claim's repository (the kit's printer, extended there). Lean checks it.
import Derived.Test.YtgickejeakmenaaFKinds
import Derived.Test.YtgickejeakmenaaFimplNear
import Derived.Test.YtgickejeakmenaaFimplseenOk
import Derived.Test.YtgickejeakmenaaFimplNethas
namespace Go.Proofs.Ytgickejeakmenaa.F
open Go.RowKit Go.Proofs.YtgickejeakmenaaW.PrintWords Go.Proofs.YtgickejeakmenaaW.PrintLast Go.Proofs.YtgickejeakmenaaW.PrintMore
attribute [local go_sem] max2_int min2_int max_two min_two max_three min_three max_four min_four   -- for this text's walks alone
set_option linter.unusedVariables false
set_option linter.unusedSimpArgs false

/-! ### impl_SeenCost: function 40 -/
mutual
def impl_SeenCost.j0 : Nat → List (List Int) → List Int → Bool → Int → List (S41) → Option (Int)
 | 0, _, _, _, _, _ => none
 | k + 1, x1, x2, x28, x373000, x373001 => if x28 = true then (some (-1)) else ((impl_Net_table.f k x373000 x373001).bind fun t375 => (impl_SeenCost.l0 k x1 x2 t375 0 x2 (x2.length : Int) 0))
def impl_SeenCost.l0 : Nat → List (List Int) → List Int → List (List Int) → Int → List Int → Int → Int → Option (Int)
 | 0, _, _, _, _, _, _, _ => none
 | k + 1, x1, x2, x7, x8, x31, x32, x33 => if x33 < x32 then (if 0 ≤ x33 then (if x33 < (x31.length : Int) then (if x33 < (x1.length : Int) then (if 0 ≤ (rd x31 x33) then (if (rd x31 x33) < ((rd_L3 x1 x33).length : Int) then (if x33 = 0 then (impl_SeenCost.l0 k x1 x2 x7 (wrap64 (x8 + (rd (rd_L3 x1 x33) (rd x31 x33)))) x31 x32 (wrap64 (x33 + 1))) else (if 0 ≤ (wrap64 (x33 - 1)) then (if (wrap64 (x33 - 1)) < (x2.length : Int) then (if 0 ≤ (rd x2 (wrap64 (x33 - 1))) then (if (rd x2 (wrap64 (x33 - 1))) < (x7.length : Int) then (if (rd x31 x33) < ((rd_L3 x7 (rd x2 (wrap64 (x33 - 1)))).length : Int) then (if (rd (rd_L3 x7 (rd x2 (wrap64 (x33 - 1)))) (rd x31 x33)) = 99999 then (some 99999) else (impl_SeenCost.l0 k x1 x2 x7 (wrap64 ((wrap64 (x8 + (rd (rd_L3 x1 x33) (rd x31 x33)))) + (rd (rd_L3 x7 (rd x2 (wrap64 (x33 - 1)))) (rd x31 x33)))) x31 x32 (wrap64 (x33 + 1)))) else (none)) else (none)) else (none)) else (none)) else (none))) else (none)) else (none)) else (none)) else (none)) else (none)) else (some x8)
end
def impl_SeenCost.f (k : Nat) (a0_0 : Int) (l0_1 : List (S41)) (l1 : List (List Int)) (l2 : List Int) : Option (Int) := (impl_seenOk.f a0_0 l0_1 l1).bind fun t373 => (if t373 = true then (if (l2.length : Int) = (l1.length : Int) then ((impl_Net_has.f a0_0 l0_1 l2).bind fun t374 => (impl_SeenCost.j0 k l1 l2 (!t374) a0_0 l0_1)) else (impl_SeenCost.j0 k l1 l2 true a0_0 l0_1)) else (impl_SeenCost.j0 k l1 l2 true a0_0 l0_1))
theorem impl_SeenCost.mono_l : ∀ k, (∀ y0 y1 y2 y3 y4, LeO (impl_SeenCost.j0 k y0 y1 y2 y3 y4) (impl_SeenCost.j0 (k + 1) y0 y1 y2 y3 y4)) ∧ (∀ y0 y1 y2 y3 y4 y5 y6, LeO (impl_SeenCost.l0 k y0 y1 y2 y3 y4 y5 y6) (impl_SeenCost.l0 (k + 1) y0 y1 y2 y3 y4 y5 y6))
 | 0 => ⟨fun _ _ _ _ _ r h => by simp [impl_SeenCost.j0] at h, fun _ _ _ _ _ _ _ r h => by simp [impl_SeenCost.l0] at h⟩
 | k + 1 => by
  obtain ⟨ih0, ih1⟩ := impl_SeenCost.mono_l k
  refine ⟨?_, ?_⟩
  ·intro y0 y1 y2 y3 y4
   unfold impl_SeenCost.j0
   repeat' first
   | (with_reducible exact ih0 _ _ _ _ _)
   | (with_reducible exact ih1 _ _ _ _ _ _ _)
   | (with_reducible exact impl_Net_table.mono _ _ _)
   | (with_reducible exact LeO.refl _)
   | (with_reducible exact LeO.none _)
   | (with_reducible refine LeO.ite ?_ ?_)
   | (with_reducible refine LeO.bind ?_ (fun _ => ?_))
   | exact ih0 _ _ _ _ _
   | exact ih1 _ _ _ _ _ _ _
   | exact impl_Net_table.mono _ _ _
   | exact LeO.none _
   | refine LeO.ite ?_ ?_
   | refine LeO.bind ?_ (fun _ => ?_)
  ·intro y0 y1 y2 y3 y4 y5 y6
   unfold impl_SeenCost.l0
   repeat' first
   | (with_reducible exact ih0 _ _ _ _ _)
   | (with_reducible exact ih1 _ _ _ _ _ _ _)
   | (with_reducible exact impl_Net_table.mono _ _ _)
   | (with_reducible exact LeO.refl _)
   | (with_reducible exact LeO.none _)
   | (with_reducible refine LeO.ite ?_ ?_)
   | (with_reducible refine LeO.bind ?_ (fun _ => ?_))
   | exact ih0 _ _ _ _ _
   | exact ih1 _ _ _ _ _ _ _
   | exact impl_Net_table.mono _ _ _
   | exact LeO.none _
   | refine LeO.ite ?_ ?_
   | refine LeO.bind ?_ (fun _ => ?_)
theorem impl_SeenCost.mono : ∀ a0 a1 a2 a3 k, LeO (impl_SeenCost.f k a0 a1 a2 a3) (impl_SeenCost.f (k + 1) a0 a1 a2 a3) := by
 intro a0 a1 a2 a3 k
 obtain ⟨ih0, ih1⟩ := impl_SeenCost.mono_l k
 unfold impl_SeenCost.f
 repeat' first
   | (with_reducible exact ih0 _ _ _ _ _)
   | (with_reducible exact ih1 _ _ _ _ _ _ _)
   | (with_reducible exact impl_Net_table.mono _ _ _)
   | (with_reducible exact LeO.refl _)
   | (with_reducible exact LeO.none _)
   | (with_reducible refine LeO.ite ?_ ?_)
   | (with_reducible refine LeO.bind ?_ (fun _ => ?_))
   | exact ih0 _ _ _ _ _
   | exact ih1 _ _ _ _ _ _ _
   | exact impl_Net_table.mono _ _ _
   | exact LeO.none _
   | refine LeO.ite ?_ ?_
   | refine LeO.bind ?_ (fun _ => ?_)
set_option maxHeartbeats 8000000 in
set_option maxRecDepth 100000 in
theorem impl_SeenCost.calls (k : Nat) (a0_0 : Int) (A0_1 : Option Addr) (c0_1 : Nat) (l0_1 : List (S41)) (A1 : Option Addr) (c1 : Nat) (l1 : List (List Int)) (A2 : Option Addr) (c2 : Nat) (l2 : List Int) (r : Int) (w : World) (hr0_1 : Kd.C k41 w A0_1 l0_1.length l0_1) (hc0_1 : l0_1.length ≤ c0_1) (hr1 : Kd.C (Kd.slice 3 (Kd.int .i64)) w A1 l1.length l1) (hc1 : l1.length ≤ c1) (hr2 : Kd.C (Kd.int .i64) w A2 l2.length l2) (hc2 : l2.length ≤ c2) (h : impl_SeenCost.f k a0_0 l0_1 l1 l2 = some r) :
  Calls Try.prog 40 #[.agg #[.int .i64 a0_0, .slice A0_1 l0_1.length c0_1], .slice A1 l1.length c1, .slice A2 l2.length c2] w fun e w' => e = .returned (.int .i64 r) ∧ Below w.heap.size w w' := by
 have hu25 := Try.underlying25
 have HR0_1 := ak hr0_1
 have HC0_1 := ak hc0_1
 clear hr0_1 hc0_1
 have HR1 := ak hr1
 have HC1 := ak hc1
 clear hr1 hc1
 have HR2 := ak hr2
 have HC2 := ak hc2
 clear hr2 hc2
 have HB := ak (Below.refl w.heap.size w)
 have H : ((impl_seenOk.f a0_0 l0_1 l1).bind fun t373 => (if t373 = true then (if (l2.length : Int) = (l1.length : Int) then ((impl_Net_has.f a0_0 l0_1 l2).bind fun t374 => (impl_SeenCost.j0 k l1 l2 (!t374) a0_0 l0_1)) else (impl_SeenCost.j0 k l1 l2 true a0_0 l0_1)) else (impl_SeenCost.j0 k l1 l2 true a0_0 l0_1))) = some r := h
 clear h
 have HC4 := ak H
 clear H
 go_enter Try.func40, Try.ntmps40
 go_upto_region 1 with (first | ((with_reducible refine gate_dst (N := 3) rfl ?_); refine box_event ?hg (N := 3) ?hd (cs := #[.int .i64 a0_0, .slice A0_1 l0_1.length c0_1]) (t := 25) ?hr ?_; (case hd => rfl); (case hg => rfl); (case hr => first | (go_simp; done) | (go_simp; rfl)); intro gb372 hg w5 hbox hb; have BK372 := ak (hbox); have GW372 := ak ((by rw [hg]; exact (below_size (bl HB)) : w.heap.size ≤ gb372)); have GE372 := ak ((by rw [hg]; exact (below_size (bl HB)) : w.heap.size ≤ gb372)); replace HB := ak (below_step (bl HB) hb); clear hb hbox hg))
 (try simp only [Act.put, List.setIfInBounds_toArray, List.set_cons_zero, List.set_cons_succ])
 go_cut [28] (fun v28 wc => ∃ (kq : Nat) (x28_3 : Bool), v28 = .bool x28_3 ∧ Aside0 (impl_SeenCost.j0 kq l1 l2 x28_3 a0_0 l0_1 = some r) ∧ Aside0 (kq ≤ k) ∧ Aside0 (wc.heap[gb372]? = some (.cells #[.int .i64 a0_0, (.slice A0_1 l0_1.length c0_1)] 25 (0, 0))) ∧ Aside0 (Below w.heap.size w wc))
 case first =>
  have H := HC4.out
  clear HC4
  replace H := Option.bind_eq_some_iff.mp H
  obtain ⟨t373, A60, H⟩ := H
  have A6 := ak A60
  clear A60
  by_cases c7 : t373 = true
  rotate_left
  ·replace c7 := Bool.eq_false_iff.mpr c7
   subst c7
   rw [if_neg (show ¬ (false = true) by decide)] at H
   have H' := ak H
   clear H
   have hcz16_0 := bc w5 BK372 0 (.int .i64 a0_0) rfl
   have hcz16_1 := bc w5 BK372 1 (.slice A0_1 l0_1.length c0_1) rfl
   have hfz16_0 := fz BK372 0
   have hfz16_1 := fz BK372 1
   go_wp2_with (first | ((with_reducible refine gate_callee (f := 86) rfl ?_); refine goesL_ (some 14) rfl rfl Try.func86 (by kernel_rfl) rfl #[.agg #[.int .i64 a0_0, .slice A0_1 l0_1.length c0_1], .slice A1 l1.length c1] rfl (by (try simp only [List.map_toArray, List.map_cons, List.map_nil]); first | done | rfl | (simp only [List.length_drop, List.length_take]; rfl)) ?_; (with_reducible refine (impl_seenOk.calls a0_0 _ _ l0_1 _ _ l1 false _ ?side1 ?side2 ?side3 ?side4 A6.out).mono ?_); (case side1 => repeat (first | exact (Kd.C_below HR0_1.out HB.out) | (with_reducible refine Kd.C_alloc ?_ _) | (with_reducible refine Kd.C_drewN ?_ _) | (with_reducible refine Kd.C_drew ?_))); (case side2 => exact HC0_1.out); (case side3 => repeat (first | exact (Kd.C_below HR1.out HB.out) | (with_reducible refine Kd.C_alloc ?_ _) | (with_reducible refine Kd.C_drewN ?_ _) | (with_reducible refine Kd.C_drew ?_))); (case side4 => exact HC1.out); rintro e w17 ⟨rfl, hb⟩; refine ⟨_, rfl, ?_⟩; replace BK372 := ak (blk_below (bk BK372) hb); replace HB := ak (below_step (bl1 HB GE372) hb); (try clear hb); (try clear hb2); (try clear hk); (try clear hi)))
   go_meet
   case rel => exact ⟨_, (true), (by first | rfl | (simp; done) | (simp [*]; done)), H', ⟨by first | omega | exact Nat.le_refl _⟩, ⟨bk BK372⟩, ⟨bl1 HB GE372⟩⟩
  subst c7
  rw [if_pos rfl] at H
  by_cases c8 : (l2.length : Int) = (l1.length : Int)
  rotate_left
  ·rw [if_neg c8] at H
   have c8b0 : ((l2.length : Int) == (l1.length : Int)) = false := beq_eq_false_iff_ne.mpr c8
   have c8b1 : ((l2.length : Int) != (l1.length : Int)) = true := bne_iff_ne.mpr c8
   have c8b2 : (l2.length == l1.length) = false := by first | simpa using c8 | (simp at c8 ⊢; omega)
   (first | rw [c8b0] | (simp only [i64_w, i32_w]; rw [c8b0]) | skip)
   have H' := ak H
   clear H
   have hcz14_0 := bc w5 BK372 0 (.int .i64 a0_0) rfl
   have hcz14_1 := bc w5 BK372 1 (.slice A0_1 l0_1.length c0_1) rfl
   have hfz14_0 := fz BK372 0
   have hfz14_1 := fz BK372 1
   go_wp2_with (first | ((with_reducible refine gate_callee (f := 86) rfl ?_); refine goesL_ (some 14) rfl rfl Try.func86 (by kernel_rfl) rfl #[.agg #[.int .i64 a0_0, .slice A0_1 l0_1.length c0_1], .slice A1 l1.length c1] rfl (by (try simp only [List.map_toArray, List.map_cons, List.map_nil]); first | done | rfl | (simp only [List.length_drop, List.length_take]; rfl)) ?_; (with_reducible refine (impl_seenOk.calls a0_0 _ _ l0_1 _ _ l1 true _ ?side1 ?side2 ?side3 ?side4 A6.out).mono ?_); (case side1 => repeat (first | exact (Kd.C_below HR0_1.out HB.out) | (with_reducible refine Kd.C_alloc ?_ _) | (with_reducible refine Kd.C_drewN ?_ _) | (with_reducible refine Kd.C_drew ?_))); (case side2 => exact HC0_1.out); (case side3 => repeat (first | exact (Kd.C_below HR1.out HB.out) | (with_reducible refine Kd.C_alloc ?_ _) | (with_reducible refine Kd.C_drewN ?_ _) | (with_reducible refine Kd.C_drew ?_))); (case side4 => exact HC1.out); rintro e w15 ⟨rfl, hb⟩; refine ⟨_, rfl, ?_⟩; replace BK372 := ak (blk_below (bk BK372) hb); replace HB := ak (below_step (bl1 HB GE372) hb); (try clear hb); (try clear hb2); (try clear hk); (try clear hi)))
   go_meet
   case rel => exact ⟨_, (true), (by first | rfl | (simp; done) | (simp [*]; done)), H', ⟨by first | omega | exact Nat.le_refl _⟩, ⟨bk BK372⟩, ⟨bl1 HB GE372⟩⟩
  rw [if_pos c8] at H
  have c8b0 : ((l2.length : Int) == (l1.length : Int)) = true := beq_iff_eq.mpr c8
  have c8b1 : ((l2.length : Int) != (l1.length : Int)) = false := bne_eq_false_iff_eq.mpr c8
  have c8b2 : (l2.length == l1.length) = true := by first | simpa using c8 | (simp at c8 ⊢; omega)
  clear c8
  (first | rw [c8b0] | (simp only [i64_w, i32_w]; rw [c8b0]) | skip)
  replace H := Option.bind_eq_some_iff.mp H
  obtain ⟨t374, A90, H⟩ := H
  have A9 := ak A90
  clear A90
  have H' := ak H
  clear H
  have hcz10_0 := bc w5 BK372 0 (.int .i64 a0_0) rfl
  have hcz10_1 := bc w5 BK372 1 (.slice A0_1 l0_1.length c0_1) rfl
  have hfz10_0 := fz BK372 0
  have hfz10_1 := fz BK372 1
  go_wp2_with (first | ((with_reducible refine gate_callee (f := 86) rfl ?_); refine goesL_ (some 14) rfl rfl Try.func86 (by kernel_rfl) rfl #[.agg #[.int .i64 a0_0, .slice A0_1 l0_1.length c0_1], .slice A1 l1.length c1] rfl (by (try simp only [List.map_toArray, List.map_cons, List.map_nil]); first | done | rfl | (simp only [List.length_drop, List.length_take]; rfl)) ?_; (with_reducible refine (impl_seenOk.calls a0_0 _ _ l0_1 _ _ l1 true _ ?side1 ?side2 ?side3 ?side4 A6.out).mono ?_); (case side1 => repeat (first | exact (Kd.C_below HR0_1.out HB.out) | (with_reducible refine Kd.C_alloc ?_ _) | (with_reducible refine Kd.C_drewN ?_ _) | (with_reducible refine Kd.C_drew ?_))); (case side2 => exact HC0_1.out); (case side3 => repeat (first | exact (Kd.C_below HR1.out HB.out) | (with_reducible refine Kd.C_alloc ?_ _) | (with_reducible refine Kd.C_drewN ?_ _) | (with_reducible refine Kd.C_drew ?_))); (case side4 => exact HC1.out); rintro e w11 ⟨rfl, hb⟩; refine ⟨_, rfl, ?_⟩; replace BK372 := ak (blk_below (bk BK372) hb); replace HB := ak (below_step (bl1 HB GE372) hb); (try clear hb); (try clear hb2); (try clear hk); (try clear hi); have hcz12_0 := bc w11 BK372 0 (.int .i64 a0_0) rfl; have hcz12_1 := bc w11 BK372 1 (.slice A0_1 l0_1.length c0_1) rfl; have hfz12_0 := fz BK372 0; have hfz12_1 := fz BK372 1) | (go_at_call 73; (with_reducible refine (impl_Net_has.calls a0_0 _ _ l0_1 _ _ l2 t374 _ ?side1 ?side2 ?side3 ?side4 A9.out).mono ?_); (case side1 => repeat (first | exact (Kd.C_below HR0_1.out HB.out) | (with_reducible refine Kd.C_alloc ?_ _) | (with_reducible refine Kd.C_drewN ?_ _) | (with_reducible refine Kd.C_drew ?_))); (case side2 => exact HC0_1.out); (case side3 => repeat (first | exact (Kd.C_below HR2.out HB.out) | (with_reducible refine Kd.C_alloc ?_ _) | (with_reducible refine Kd.C_drewN ?_ _) | (with_reducible refine Kd.C_drew ?_))); (case side4 => exact HC2.out); rintro e w13 ⟨rfl, hb⟩; have n0_ := ak (blk_below (bk BK372) hb); have n1_ := ak (below_step (bl1 HB GE372) hb); clear BK372; clear HB; have BK372 := n0_; have HB := n1_; clear n0_ n1_; (try clear hb); (try clear hb2); (try clear hk); (try clear hi)))
  go_meet
  case rel => exact ⟨_, (!t374), (by first | rfl | (simp; done) | (simp [*]; done)), H', ⟨by first | omega | exact Nat.le_refl _⟩, ⟨bk BK372⟩, ⟨bl1 HB GE372⟩⟩
 clear HC4
 try clear c1
 try clear c2
 try clear p2
 try clear c4
 try clear c7
 try clear c8
 try clear c8b0
 try clear c8b1
 try clear c8b2
 try clear hcz10_0
 try clear hcz10_1
 try clear hcz12_0
 try clear hcz12_1
 try clear hcz14_0
 try clear hcz14_1
 try clear hcz16_0
 try clear hcz16_1
 try clear hfz10_0
 try clear hfz10_1
 try clear hfz12_0
 try clear hfz12_1
 try clear hfz14_0
 try clear hfz14_1
 try clear hfz16_0
 try clear hfz16_1
 obtain ⟨kq, x28_3, rfl, HA, HJ3, BK372, HB⟩ := hcut
 cases kq with
 | zero => exact absurd HA.out (by simp [impl_SeenCost.j0])
 | succ kj3 =>
  have H := HA.out
  clear HA
  simp only [impl_SeenCost.j0] at H
  by_cases c18 : x28_3 = true
  ·subst c18
   rw [if_pos rfl] at H
   obtain rfl := Option.some.inj H
   go_wp2
   go_ret
   exact ⟨by first | rfl | (simp [errW_none, errW_some] <;> rfl) | (simp [*, errW_none, errW_some] <;> rfl), bl1 HB GE372⟩
  replace c18 := Bool.eq_false_iff.mpr c18
  subst c18
  rw [if_neg (show ¬ (false = true) by decide)] at H
  replace H := Option.bind_eq_some_iff.mp H
  obtain ⟨t375, A190, H⟩ := H
  have A19 := ak A190
  clear A190
  have H' := ak H
  clear H
  have hcz20_0 := bc wc BK372 0 (.int .i64 a0_0) rfl
  have hcz20_1 := bc wc BK372 1 (.slice A0_1 l0_1.length c0_1) rfl
  have hfz20_0 := fz BK372 0
  have hfz20_1 := fz BK372 1
  go_wp2_with (first | ((with_reducible refine gate_callee (f := 54) rfl ?_); refine goesL_ (some 30) rfl rfl Try.func54 (by kernel_rfl) rfl #[.agg #[.int .i64 a0_0, .slice A0_1 l0_1.length c0_1]] rfl (by (try simp only [List.map_toArray, List.map_cons, List.map_nil]); first | done | rfl | (simp only [List.length_drop, List.length_take]; rfl)) ?_; (with_reducible refine (impl_Net_table.calls kj3 a0_0 _ _ l0_1 t375 _ ?side1 ?side2 A19.out).mono ?_); (case side1 => repeat (first | exact (Kd.C_below HR0_1.out HB.out) | (with_reducible refine Kd.C_alloc ?_ _) | (with_reducible refine Kd.C_drewN ?_ _) | (with_reducible refine Kd.C_drew ?_))); (case side2 => exact HC0_1.out); rintro e w21 ⟨v376, rfl, ho0, hb⟩; refine ⟨_, rfl, ?_⟩; have HO377 := ak (Kd.S_lower ho0 (below_size (bl1 HB GE372))); replace BK372 := ak (blk_below (bk BK372) hb); replace HB := ak (below_step (bl1 HB GE372) hb); (try clear hb); (try clear hb2); (try clear hk); (try clear hi); (try clear ho0)))
  go_loopg [8, 33] kj3 (fun kq v8 v33 w' => ∃ (x8_2 : Int) (x33_2 : Int), v8 = .int .i64 x8_2 ∧ v33 = .int .i64 x33_2 ∧ Aside0 (impl_SeenCost.l0 kq l1 l2 t375 x8_2 l2 (l2.length : Int) x33_2 = some r) ∧ Aside0 (kq ≤ kj3) ∧ Aside0 (Kd.S (Kd.slice 3 (Kd.int .i64)) 26 w' w.heap.size (fun _ => True) v376 t375) ∧ Aside0 (w'.heap[gb372]? = some (.cells #[.int .i64 a0_0, (.slice A0_1 l0_1.length c0_1)] 25 (0, 0))) ∧ Aside0 (Below w.heap.size w w'))
  case atStart => exact ⟨(0), (0), (by first | rfl | (simp; done) | (simp [*]; done)), (by first | rfl | (simp; done) | (simp [*]; done)), H', ⟨Nat.le_refl _⟩, ⟨by (with_reducible repeat (first | apply Kd.S_alloc | apply Kd.S_drewN | apply Kd.S_drew)); exact HO377.out⟩, ⟨bk BK372⟩, ⟨bl1 HB GE372⟩⟩
  clear H'
  try clear c1
  try clear c2
  try clear p2
  try clear c4
  try clear c5
  try clear c7
  try clear c8
  try clear c8b0
  try clear c8b1
  try clear c8b2
  try clear c18
  try clear hcz10_0
  try clear hcz10_1
  try clear hcz12_0
  try clear hcz12_1
  try clear hcz14_0
  try clear hcz14_1
  try clear hcz16_0
  try clear hcz16_1
  try clear hcz20_0
  try clear hcz20_1
  try clear hfz10_0
  try clear hfz10_1
  try clear hfz12_0
  try clear hfz12_1
  try clear hfz14_0
  try clear hfz14_1
  try clear hfz16_0
  try clear hfz16_1
  try clear hfz20_0
  try clear hfz20_1
  try clear p2
  obtain ⟨x8_2, x33_2, rfl, rfl, HA, HK2, HO_7, BK372, HB⟩ := hrel
  cases gk with
  | zero => exact absurd HA.out (by simp [impl_SeenCost.l0])
  | succ k2 =>
   have H := HA.out
   clear HA
   simp only [impl_SeenCost.l0] at H
   by_cases c22 : x33_2 < (l2.length : Int)
   rotate_left
   ·rw [if_neg c22] at H
    have c22b0 : decide (x33_2 < (l2.length : Int)) = false := decide_eq_false c22
    clear c22
    obtain rfl := Option.some.inj H
    go_wp2
    go_ret
    exact ⟨by first | rfl | (simp [errW_none, errW_some] <;> rfl) | (simp [*, errW_none, errW_some] <;> rfl), bl1 HB GE372⟩
   rw [if_pos c22] at H
   have c22b0 : decide (x33_2 < (l2.length : Int)) = true := decide_eq_true c22
   clear c22
   by_cases c23 : 0 ≤ x33_2
   rotate_left
   ·rw [if_neg c23] at H
    exact absurd H (by simp)
   rw [if_pos c23] at H
   have c23b0 : decide (0 ≤ x33_2) = true := decide_eq_true c23
   clear c23
   by_cases c24 : x33_2 < (l2.length : Int)
   rotate_left
   ·rw [if_neg c24] at H
    exact absurd H (by simp)
   rw [if_pos c24] at H
   have c24b0 : decide (x33_2 < (l2.length : Int)) = true := decide_eq_true c24
   clear c24
   by_cases c25 : x33_2 < (l1.length : Int)
   rotate_left
   ·rw [if_neg c25] at H
    exact absurd H (by simp)
   rw [if_pos c25] at H
   have c25b0 : decide (x33_2 < (l1.length : Int)) = true := decide_eq_true c25
   clear c25
   by_cases c26 : 0 ≤ (rd l2 x33_2)
   rotate_left
   ·rw [if_neg c26] at H
    exact absurd H (by simp)
   rw [if_pos c26] at H
   have c26b0 : decide (0 ≤ (rd l2 x33_2)) = true := decide_eq_true c26
   clear c26
   by_cases c27 : (rd l2 x33_2) < ((rd_L3 l1 x33_2).length : Int)
   rotate_left
   ·rw [if_neg c27] at H
    exact absurd H (by simp)
   rw [if_pos c27] at H
   have c27b0 : decide ((rd l2 x33_2) < ((rd_L3 l1 x33_2).length : Int)) = true := decide_eq_true c27
   clear c27
   by_cases c28 : x33_2 = 0
   ·rw [if_pos c28] at H
    have c28b0 : (x33_2 == 0) = true := beq_iff_eq.mpr c28
    have c28b1 : (x33_2 != 0) = false := bne_eq_false_iff_eq.mpr c28
    clear c28
    have H' := ak H
    clear H
    have p378 : 0 ≤ (x33_2 : Int) := oT (by first | (with_reducible assumption) | assumption)
    have q378 : x33_2 < (l2.length : Int) := oT (by first | (with_reducible assumption) | assumption)
    obtain ⟨ad378, e378, hx378_0⟩ := Kd.at_int HR2.out x33_2 p378 q378
    cases e378
    replace hx378_0 := hcb HB.out hx378_0
    replace p378 := eq_true p378
    replace q378 := eq_true q378
    have p379 : 0 ≤ (x33_2 : Int) := oT (by first | (with_reducible assumption) | assumption)
    have q379 : x33_2 < (l1.length : Int) := oT (by first | (with_reducible assumption) | assumption)
    obtain ⟨ad379, A379_0, c379_0, e379, hx379_0, hl379_0, hi379_0⟩ := at_L3 HR1.out x33_2 p379 q379
    cases e379
    replace hx379_0 := hcb HB.out hx379_0
    have HR379_0 := ak hi379_0
    have HC379_0 := ak hl379_0
    clear hi379_0 hl379_0
    replace p379 := eq_true p379
    replace q379 := eq_true q379
    have p380 : 0 ≤ ((rd l2 x33_2) : Int) := oT (by first | (with_reducible assumption) | assumption)
    have q380 : (rd l2 x33_2) < ((rd_L3 l1 x33_2).length : Int) := oT (by first | (with_reducible assumption) | assumption)
    obtain ⟨ad380, e380, hx380_0⟩ := Kd.at_int HR379_0.out (rd l2 x33_2) p380 q380
    cases e380
    replace hx380_0 := hcb HB.out hx380_0
    replace p380 := eq_true p380
    replace q380 := eq_true q380
    go_wp2
    go_roundg k2
    case measure => have := HJ3.out; have := HK2.out; omega
    case rel => exact ⟨(wrap64 (x8_2 + (rd (rd_L3 l1 x33_2) (rd l2 x33_2)))), (wrap64 (x33_2 + 1)), (by first | rfl | (simp; done) | (simp [*]; done)), (by first | rfl | (simp; done) | (simp [*]; done)), H', ⟨by have := HJ3.out; have := HK2.out; omega⟩, ⟨by (with_reducible repeat (first | apply Kd.S_alloc | apply Kd.S_drewN | apply Kd.S_drew)); exact HO_7.out⟩, ⟨bk BK372⟩, ⟨bl1 HB GE372⟩⟩
   rw [if_neg c28] at H
   have c28b0 : (x33_2 == 0) = false := beq_eq_false_iff_ne.mpr c28
   have c28b1 : (x33_2 != 0) = true := bne_iff_ne.mpr c28
   obtain ⟨ji29, hji29⟩ : ∃ j_ : Int, (wrap64 (x33_2 - 1)) = j_ := ⟨_, rfl⟩
   replace H : (if 0 ≤ (ji29) then (if (ji29) < (l2.length : Int) then (if 0 ≤ (rd l2 (ji29)) then (if (rd l2 (ji29)) < (t375.length : Int) then (if (rd l2 x33_2) < ((rd_L3 t375 (rd l2 (ji29))).length : Int) then (if (rd (rd_L3 t375 (rd l2 (ji29))) (rd l2 x33_2)) = 99999 then (some 99999) else (impl_SeenCost.l0 k2 l1 l2 t375 (wrap64 ((wrap64 (x8_2 + (rd (rd_L3 l1 x33_2) (rd l2 x33_2)))) + (rd (rd_L3 t375 (rd l2 (ji29))) (rd l2 x33_2)))) l2 (l2.length : Int) (wrap64 (x33_2 + 1)))) else (none)) else (none)) else (none)) else (none)) else (none)) = some r := by first | (rw [hji29] at H; exact H) | (simp only [hji29] at H ⊢; exact H)
   have hji29w : (IntKind.i64.wrap (x33_2 - 1)) = ji29 := (i64_w _).trans hji29
   by_cases c30 : 0 ≤ (ji29)
   rotate_left
   ·rw [if_neg c30] at H
    exact absurd H (by simp)
   rw [if_pos c30] at H
   have c30b0 : decide (0 ≤ (ji29)) = true := decide_eq_true c30
   clear c30
   by_cases c31 : (ji29) < (l2.length : Int)
   rotate_left
   ·rw [if_neg c31] at H
    exact absurd H (by simp)
   rw [if_pos c31] at H
   have c31b0 : decide ((ji29) < (l2.length : Int)) = true := decide_eq_true c31
   clear c31
   by_cases c32 : 0 ≤ (rd l2 (ji29))
   rotate_left
   ·rw [if_neg c32] at H
    exact absurd H (by simp)
   rw [if_pos c32] at H
   have c32b0 : decide (0 ≤ (rd l2 (ji29))) = true := decide_eq_true c32
   clear c32
   by_cases c33 : (rd l2 (ji29)) < (t375.length : Int)
   rotate_left
   ·rw [if_neg c33] at H
    exact absurd H (by simp)
   rw [if_pos c33] at H
   have c33b0 : decide ((rd l2 (ji29)) < (t375.length : Int)) = true := decide_eq_true c33
   clear c33
   by_cases c34 : (rd l2 x33_2) < ((rd_L3 t375 (rd l2 (ji29))).length : Int)
   rotate_left
   ·rw [if_neg c34] at H
    exact absurd H (by simp)
   rw [if_pos c34] at H
   have c34b0 : decide ((rd l2 x33_2) < ((rd_L3 t375 (rd l2 (ji29))).length : Int)) = true := decide_eq_true c34
   clear c34
   by_cases c35 : (rd (rd_L3 t375 (rd l2 (ji29))) (rd l2 x33_2)) = 99999
   ·rw [if_pos c35] at H
    have c35b0 : ((rd (rd_L3 t375 (rd l2 (ji29))) (rd l2 x33_2)) == 99999) = true := beq_iff_eq.mpr c35
    have c35b1 : ((rd (rd_L3 t375 (rd l2 (ji29))) (rd l2 x33_2)) != 99999) = false := bne_eq_false_iff_eq.mpr c35
    clear c35
    obtain rfl := Option.some.inj H
    have p378 : 0 ≤ (x33_2 : Int) := oT (by first | (with_reducible assumption) | assumption)
    have q378 : x33_2 < (l2.length : Int) := oT (by first | (with_reducible assumption) | assumption)
    obtain ⟨ad378, e378, hx378_0⟩ := Kd.at_int HR2.out x33_2 p378 q378
    cases e378
    replace hx378_0 := hcb HB.out hx378_0
    replace p378 := eq_true p378
    replace q378 := eq_true q378
    have p379 : 0 ≤ (x33_2 : Int) := oT (by first | (with_reducible assumption) | assumption)
    have q379 : x33_2 < (l1.length : Int) := oT (by first | (with_reducible assumption) | assumption)
    obtain ⟨ad379, A379_0, c379_0, e379, hx379_0, hl379_0, hi379_0⟩ := at_L3 HR1.out x33_2 p379 q379
    cases e379
    replace hx379_0 := hcb HB.out hx379_0
    have HR379_0 := ak hi379_0
    have HC379_0 := ak hl379_0
    clear hi379_0 hl379_0
    replace p379 := eq_true p379
    replace q379 := eq_true q379
    have p380 : 0 ≤ ((rd l2 x33_2) : Int) := oT (by first | (with_reducible assumption) | assumption)
    have q380 : (rd l2 x33_2) < ((rd_L3 l1 x33_2).length : Int) := oT (by first | (with_reducible assumption) | assumption)
    obtain ⟨ad380, e380, hx380_0⟩ := Kd.at_int HR379_0.out (rd l2 x33_2) p380 q380
    cases e380
    replace hx380_0 := hcb HB.out hx380_0
    replace p380 := eq_true p380
    replace q380 := eq_true q380
    have p381 : 0 ≤ ((ji29) : Int) := oT (by first | (with_reducible assumption) | assumption)
    have q381 : (ji29) < (l2.length : Int) := oT (by first | (with_reducible assumption) | assumption)
    obtain ⟨ad381, e381, hx381_0⟩ := Kd.at_int HR2.out (ji29) p381 q381
    obtain rfl : ad378 = ad381 := (by injection e381)
    replace hx381_0 := hcb HB.out hx381_0
    replace p381 := eq_true p381
    replace q381 := eq_true q381
    obtain ⟨Ao36, co36, eo36⟩ := Kd.S_slice HO_7.out
    subst eo36
    have p382 : 0 ≤ ((rd l2 (ji29)) : Int) := oT (by first | (with_reducible assumption) | assumption)
    have q382 : (rd l2 (ji29)) < (t375.length : Int) := oT (by first | (with_reducible assumption) | assumption)
    obtain ⟨ad382, A382_0, c382_0, e382, hx382_0, hl382_0, hi382_0⟩ := at_L3 (Kd.S_reads' HO_7.out).2.2 (rd l2 (ji29)) p382 q382
    cases e382
    obtain ⟨ce382, hce382, hMe382, hcc382⟩ := Kd.S_get HO_7.out [] (rd l2 (ji29)) p382 (by first | exact q382 | exact oT (by first | (with_reducible assumption) | assumption) | (have e_ := (Kd.S_reads' HO_7.out).1; omega))
    obtain ⟨ve382_0, rfl, ge382_0⟩ := hMe382
    have hv382_0 := hcc382 0 _ rfl
    rw [Nat.add_zero, show ((Kd.slice 3 (Kd.int .i64))).sz = 1 from rfl, Nat.mul_one] at hv382_0
    replace hv382_0 := Option.some.inj (hv382_0.symm.trans hx382_0)
    rw [hv382_0] at ge382_0
    have HL382_0 := ak (show Kd.R (Kd.int .i64) 3 _ _ _ _ (rd_L3 t375 (rd l2 (ji29))) from ge382_0)
    clear hv382_0 ge382_0
    clear hcc382 hce382
    have HR382_0 := ak hi382_0
    have HC382_0 := ak hl382_0
    clear hi382_0 hl382_0
    replace p382 := eq_true p382
    replace q382 := eq_true q382
    have p383 : 0 ≤ ((rd l2 x33_2) : Int) := oT (by first | (with_reducible assumption) | assumption)
    have q383 : (rd l2 x33_2) < ((rd_L3 t375 (rd l2 (ji29))).length : Int) := oT (by first | (with_reducible assumption) | assumption)
    obtain ⟨ad383, e383, hx383_0⟩ := Kd.at_int (by repeat (first | (with_reducible exact HR382_0.out) | (with_reducible refine Kd.C_alloc ?_ _) | (with_reducible refine Kd.C_drewN ?_ _) | (with_reducible refine Kd.C_drew ?_) | exact HR382_0.out)) (rd l2 x33_2) p383 q383
    cases e383
    replace p383 := eq_true p383
    replace q383 := eq_true q383
    go_wp2
    go_ret
    exact ⟨by first | rfl | (simp [errW_none, errW_some] <;> rfl) | (simp only [← hji29]; first | rfl | (simp [errW_none, errW_some] <;> rfl)) | (simp [*, errW_none, errW_some] <;> rfl), bl1 HB GE372⟩
   rw [if_neg c35] at H
   have c35b0 : ((rd (rd_L3 t375 (rd l2 (ji29))) (rd l2 x33_2)) == 99999) = false := beq_eq_false_iff_ne.mpr c35
   have c35b1 : ((rd (rd_L3 t375 (rd l2 (ji29))) (rd l2 x33_2)) != 99999) = true := bne_iff_ne.mpr c35
   have H' := ak H
   clear H
   have p378 : 0 ≤ (x33_2 : Int) := oT (by first | (with_reducible assumption) | assumption)
   have q378 : x33_2 < (l2.length : Int) := oT (by first | (with_reducible assumption) | assumption)
   obtain ⟨ad378, e378, hx378_0⟩ := Kd.at_int HR2.out x33_2 p378 q378
   cases e378
   replace hx378_0 := hcb HB.out hx378_0
   replace p378 := eq_true p378
   replace q378 := eq_true q378
   have p379 : 0 ≤ (x33_2 : Int) := oT (by first | (with_reducible assumption) | assumption)
   have q379 : x33_2 < (l1.length : Int) := oT (by first | (with_reducible assumption) | assumption)
   obtain ⟨ad379, A379_0, c379_0, e379, hx379_0, hl379_0, hi379_0⟩ := at_L3 HR1.out x33_2 p379 q379
   cases e379
   replace hx379_0 := hcb HB.out hx379_0
   have HR379_0 := ak hi379_0
   have HC379_0 := ak hl379_0
   clear hi379_0 hl379_0
   replace p379 := eq_true p379
   replace q379 := eq_true q379
   have p380 : 0 ≤ ((rd l2 x33_2) : Int) := oT (by first | (with_reducible assumption) | assumption)
   have q380 : (rd l2 x33_2) < ((rd_L3 l1 x33_2).length : Int) := oT (by first | (with_reducible assumption) | assumption)
   obtain ⟨ad380, e380, hx380_0⟩ := Kd.at_int HR379_0.out (rd l2 x33_2) p380 q380
   cases e380
   replace hx380_0 := hcb HB.out hx380_0
   replace p380 := eq_true p380
   replace q380 := eq_true q380
   have p381 : 0 ≤ ((ji29) : Int) := oT (by first | (with_reducible assumption) | assumption)
   have q381 : (ji29) < (l2.length : Int) := oT (by first | (with_reducible assumption) | assumption)
   obtain ⟨ad381, e381, hx381_0⟩ := Kd.at_int HR2.out (ji29) p381 q381
   obtain rfl : ad378 = ad381 := (by injection e381)
   replace hx381_0 := hcb HB.out hx381_0
   replace p381 := eq_true p381
   replace q381 := eq_true q381
   obtain ⟨Ao37, co37, eo37⟩ := Kd.S_slice HO_7.out
   subst eo37
   have p382 : 0 ≤ ((rd l2 (ji29)) : Int) := oT (by first | (with_reducible assumption) | assumption)
   have q382 : (rd l2 (ji29)) < (t375.length : Int) := oT (by first | (with_reducible assumption) | assumption)
   obtain ⟨ad382, A382_0, c382_0, e382, hx382_0, hl382_0, hi382_0⟩ := at_L3 (Kd.S_reads' HO_7.out).2.2 (rd l2 (ji29)) p382 q382
   cases e382
   obtain ⟨ce382, hce382, hMe382, hcc382⟩ := Kd.S_get HO_7.out [] (rd l2 (ji29)) p382 (by first | exact q382 | exact oT (by first | (with_reducible assumption) | assumption) | (have e_ := (Kd.S_reads' HO_7.out).1; omega))
   obtain ⟨ve382_0, rfl, ge382_0⟩ := hMe382
   have hv382_0 := hcc382 0 _ rfl
   rw [Nat.add_zero, show ((Kd.slice 3 (Kd.int .i64))).sz = 1 from rfl, Nat.mul_one] at hv382_0
   replace hv382_0 := Option.some.inj (hv382_0.symm.trans hx382_0)
   rw [hv382_0] at ge382_0
   have HL382_0 := ak (show Kd.R (Kd.int .i64) 3 _ _ _ _ (rd_L3 t375 (rd l2 (ji29))) from ge382_0)
   clear hv382_0 ge382_0
   clear hcc382 hce382
   have HR382_0 := ak hi382_0
   have HC382_0 := ak hl382_0
   clear hi382_0 hl382_0
   replace p382 := eq_true p382
   replace q382 := eq_true q382
   have p383 : 0 ≤ ((rd l2 x33_2) : Int) := oT (by first | (with_reducible assumption) | assumption)
   have q383 : (rd l2 x33_2) < ((rd_L3 t375 (rd l2 (ji29))).length : Int) := oT (by first | (with_reducible assumption) | assumption)
   obtain ⟨ad383, e383, hx383_0⟩ := Kd.at_int (by repeat (first | (with_reducible exact HR382_0.out) | (with_reducible refine Kd.C_alloc ?_ _) | (with_reducible refine Kd.C_drewN ?_ _) | (with_reducible refine Kd.C_drew ?_) | exact HR382_0.out)) (rd l2 x33_2) p383 q383
   cases e383
   replace p383 := eq_true p383
   replace q383 := eq_true q383
   go_wp2
   go_roundg k2
   case measure => have := HJ3.out; have := HK2.out; omega
   case rel => exact ⟨(wrap64 ((wrap64 (x8_2 + (rd (rd_L3 l1 x33_2) (rd l2 x33_2)))) + (rd (rd_L3 t375 (rd l2 (ji29))) (rd l2 x33_2)))), (wrap64 (x33_2 + 1)), (by first | rfl | (simp; done) | (simp only [← hji29] <;> (first | rfl | simp)) | (simp [*]; done)), (by first | rfl | (simp; done) | (simp [*]; done)), H', ⟨by have := HJ3.out; have := HK2.out; omega⟩, ⟨by (with_reducible repeat (first | apply Kd.S_alloc | apply Kd.S_drewN | apply Kd.S_drew)); exact HO_7.out⟩, ⟨bk BK372⟩, ⟨bl1 HB GE372⟩⟩

end Go.Proofs.Ytgickejeakmenaa.F
