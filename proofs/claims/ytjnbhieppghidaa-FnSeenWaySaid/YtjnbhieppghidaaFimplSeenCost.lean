-- Printed by wip/px/px.py of this claim's repository (the kit's printer, extended there). Lean checks it.
import Derived.Test.YtjnbhieppghidaaFKinds
import Derived.Test.YtjnbhieppghidaaFimplNethas
import Derived.Test.YtjnbhieppghidaaFimplseenOk
import Derived.Test.YtjnbhieppghidaaFimplNear
namespace Go.Proofs.Ytjnbhieppghidaa.F
open Go.RowKit Go.Proofs.YtjnbhieppghidaaW.PrintWords Go.Proofs.YtjnbhieppghidaaW.PrintLast Go.Proofs.YtjnbhieppghidaaW.PrintMore
attribute [local go_sem] max2_int min2_int max_two min_two max_three min_three max_four min_four   -- for this text's walks alone
set_option linter.unusedVariables false
set_option linter.unusedSimpArgs false

/-! ### impl_SeenCost: function 10 -/
mutual
def impl_SeenCost.j0 : Nat → List (List Int) → List Int → Bool → Int → List (S60) → Option (Int)
 | 0, _, _, _, _, _ => none
 | k + 1, x1, x2, x28, x394000, x394001 => if x28 = true then (some (-1)) else ((impl_Net_table.f k x394000 x394001).bind fun t396 => (impl_SeenCost.l0 k x1 x2 t396 0 x2 (x2.length : Int) 0))
def impl_SeenCost.l0 : Nat → List (List Int) → List Int → List (List Int) → Int → List Int → Int → Int → Option (Int)
 | 0, _, _, _, _, _, _, _ => none
 | k + 1, x1, x2, x7, x8, x31, x32, x33 => if x33 < x32 then (if 0 ≤ x33 then (if x33 < (x31.length : Int) then (if x33 < (x1.length : Int) then (if 0 ≤ (rd x31 x33) then (if (rd x31 x33) < ((rd_L4 x1 x33).length : Int) then (if x33 = 0 then (impl_SeenCost.l0 k x1 x2 x7 (wrap64 (x8 + (rd (rd_L4 x1 x33) (rd x31 x33)))) x31 x32 (wrap64 (x33 + 1))) else (if 0 ≤ (wrap64 (x33 - 1)) then (if (wrap64 (x33 - 1)) < (x2.length : Int) then (if 0 ≤ (rd x2 (wrap64 (x33 - 1))) then (if (rd x2 (wrap64 (x33 - 1))) < (x7.length : Int) then (if (rd x31 x33) < ((rd_L4 x7 (rd x2 (wrap64 (x33 - 1)))).length : Int) then (if (rd (rd_L4 x7 (rd x2 (wrap64 (x33 - 1)))) (rd x31 x33)) = 99999 then (some 99999) else (impl_SeenCost.l0 k x1 x2 x7 (wrap64 ((wrap64 (x8 + (rd (rd_L4 x1 x33) (rd x31 x33)))) + (rd (rd_L4 x7 (rd x2 (wrap64 (x33 - 1)))) (rd x31 x33)))) x31 x32 (wrap64 (x33 + 1)))) else (none)) else (none)) else (none)) else (none)) else (none))) else (none)) else (none)) else (none)) else (none)) else (none)) else (some x8)
end
def impl_SeenCost.f (k : Nat) (a0_0 : Int) (l0_1 : List (S60)) (l1 : List (List Int)) (l2 : List Int) : Option (Int) := (impl_seenOk.f a0_0 l0_1 l1).bind fun t394 => (if t394 = true then (if (l2.length : Int) = (l1.length : Int) then ((impl_Net_has.f a0_0 l0_1 l2).bind fun t395 => (impl_SeenCost.j0 k l1 l2 (!t395) a0_0 l0_1)) else (impl_SeenCost.j0 k l1 l2 true a0_0 l0_1)) else (impl_SeenCost.j0 k l1 l2 true a0_0 l0_1))
theorem impl_SeenCost.mono_l : ∀ k, (∀ y0 y1 y2 y3 y4, LeO (impl_SeenCost.j0 k y0 y1 y2 y3 y4) (impl_SeenCost.j0 (k + 1) y0 y1 y2 y3 y4)) ∧ (∀ y0 y1 y2 y3 y4 y5 y6, LeO (impl_SeenCost.l0 k y0 y1 y2 y3 y4 y5 y6) (impl_SeenCost.l0 (k + 1) y0 y1 y2 y3 y4 y5 y6))
 | 0 => ⟨fun _ _ _ _ _ r h => by simp [impl_SeenCost.j0] at h, fun _ _ _ _ _ _ _ r h => by simp [impl_SeenCost.l0] at h⟩
 | k + 1 => by
  obtain ⟨ih0, ih1⟩ := impl_SeenCost.mono_l k
  refine ⟨?_, ?_⟩
  ·intro y0 y1 y2 y3 y4
   unfold impl_SeenCost.j0
   repeat' first | (with_reducible exact ih1 _ _ _ _ _ _ _) | (with_reducible exact impl_Net_table.mono _ _ _) | (with_reducible exact LeO.refl _) | (with_reducible refine LeO.ite ?_ ?_) | (with_reducible refine LeO.bind ?_ (fun _ => ?_))
  ·intro y0 y1 y2 y3 y4 y5 y6
   unfold impl_SeenCost.l0
   repeat' first | (with_reducible exact ih1 _ _ _ _ _ _ _) | (with_reducible exact LeO.refl _) | (with_reducible refine LeO.ite ?_ ?_)
theorem impl_SeenCost.mono : ∀ a0 a1 a2 a3 k, LeO (impl_SeenCost.f k a0 a1 a2 a3) (impl_SeenCost.f (k + 1) a0 a1 a2 a3) := by
 intro a0 a1 a2 a3 k
 obtain ⟨ih0, ih1⟩ := impl_SeenCost.mono_l k
 unfold impl_SeenCost.f
 repeat' first | (with_reducible exact ih0 _ _ _ _ _) | (with_reducible exact LeO.refl _) | (with_reducible refine LeO.ite ?_ ?_) | (with_reducible refine LeO.bind ?_ (fun _ => ?_))
set_option maxHeartbeats 8000000 in
set_option maxRecDepth 100000 in
theorem impl_SeenCost.calls (k : Nat) (a0_0 : Int) (A0_1 : Option Addr) (c0_1 : Nat) (l0_1 : List (S60)) (A1 : Option Addr) (c1 : Nat) (l1 : List (List Int)) (A2 : Option Addr) (c2 : Nat) (l2 : List Int) (r : Int) (w : World) (hr0_1 : Kd.C k60 w A0_1 l0_1.length l0_1) (hc0_1 : l0_1.length ≤ c0_1) (hr1 : Kd.C (Kd.slice 3 (Kd.int .i64)) w A1 l1.length l1) (hc1 : l1.length ≤ c1) (hr2 : Kd.C (Kd.int .i64) w A2 l2.length l2) (hc2 : l2.length ≤ c2) (h : impl_SeenCost.f k a0_0 l0_1 l1 l2 = some r) :
  Calls Try.prog 10 #[.agg #[.int .i64 a0_0, .slice A0_1 l0_1.length c0_1], .slice A1 l1.length c1, .slice A2 l2.length c2] w fun e w' => e = .returned (.int .i64 r) ∧ Below w.heap.size w w' := by
 have hu25 := Try.underlying25
 have HR0_1 := ak hr0_1
 have HC0_1 := ak hc0_1
 clear hr0_1 hc0_1
 have HR1 := ak hr1
 have HC1 := ak hc1
 clear hr1 hc1
 have HR2 := ak hr2
 have HC2 := ak hc2
 clear hr2 hc2
 have HB := ak (Below.refl w.heap.size w)
 have H : ((impl_seenOk.f a0_0 l0_1 l1).bind fun t394 => (if t394 = true then (if (l2.length : Int) = (l1.length : Int) then ((impl_Net_has.f a0_0 l0_1 l2).bind fun t395 => (impl_SeenCost.j0 k l1 l2 (!t395) a0_0 l0_1)) else (impl_SeenCost.j0 k l1 l2 true a0_0 l0_1)) else (impl_SeenCost.j0 k l1 l2 true a0_0 l0_1))) = some r := h
 clear h
 have HC4 := ak H
 clear H
 go_enter Try.func10, Try.ntmps10
 go_upto_region 1 with (((with_reducible refine gate_dst (N := 3) rfl ?_); refine box_event ?hg (N := 3) ?hd (cs := #[.int .i64 a0_0, .slice A0_1 l0_1.length c0_1]) (t := 25) ?hr ?_; (case hd => rfl); (case hg => rfl); (case hr => (go_simp; done)); intro gb393 hg w5 hbox hb; have BK393 := ak (hbox); have GW393 := ak ((by rw [hg]; exact (below_size (bl HB)) : w.heap.size ≤ gb393)); have GE393 := ak ((by rw [hg]; exact (below_size (bl HB)) : w.heap.size ≤ gb393)); replace HB := ak (below_step (bl HB) hb); clear hb hbox hg))
 (try simp only [Act.put, List.setIfInBounds_toArray, List.set_cons_zero, List.set_cons_succ])
 go_cut [28] (fun v28 wc => ∃ (kq : Nat) (x28_3 : Bool), v28 = .bool x28_3 ∧ Aside0 (impl_SeenCost.j0 kq l1 l2 x28_3 a0_0 l0_1 = some r) ∧ Aside0 (kq ≤ k) ∧ Aside0 (wc.heap[gb393]? = some (.cells #[.int .i64 a0_0, (.slice A0_1 l0_1.length c0_1)] 25 (0, 0))) ∧ Aside0 (Below w.heap.size w wc))
 case first =>
  have H := HC4.out
  clear HC4
  replace H := Option.bind_eq_some_iff.mp H
  obtain ⟨t394, A60, H⟩ := H
  have A6 := ak A60
  clear A60
  by_cases c7 : t394 = true
  rotate_left
  ·replace c7 := Bool.eq_false_iff.mpr c7
   subst c7
   rw [if_neg (show ¬ (false = true) by decide)] at H
   have H' := ak H
   clear H
   have hcz16_0 := bc w5 BK393 0 (.int .i64 a0_0) rfl
   have hcz16_1 := bc w5 BK393 1 (.slice A0_1 l0_1.length c0_1) rfl
   have hfz16_0 := fz BK393 0
   have hfz16_1 := fz BK393 1
   go_wp2_with (((with_reducible refine gate_callee (f := 22) rfl ?_); refine goesL_ (some 14) rfl rfl Try.func22 (by kernel_rfl) rfl #[.agg #[.int .i64 a0_0, .slice A0_1 l0_1.length c0_1], .slice A1 l1.length c1] rfl (by (try simp only [List.map_toArray, List.map_cons, List.map_nil]); rfl) ?_; (with_reducible refine (impl_seenOk.calls a0_0 _ _ l0_1 _ _ l1 false _ ?side1 ?side2 ?side3 ?side4 A6.out).mono ?_); (case side1 => repeat (exact (Kd.C_below HR0_1.out HB.out))); (case side2 => exact HC0_1.out); (case side3 => repeat (exact (Kd.C_below HR1.out HB.out))); (case side4 => exact HC1.out); rintro e w17 ⟨rfl, hb⟩; refine ⟨_, rfl, ?_⟩; replace BK393 := ak (blk_below (bk BK393) hb); replace HB := ak (below_step (bl1 HB GE393) hb); (try clear hb); (try clear hb2); (try clear hk); (try clear hi)))
   go_meet
   case rel => exact ⟨_, (true), (by rfl), H', ⟨by omega⟩, ⟨bk BK393⟩, ⟨bl1 HB GE393⟩⟩
  subst c7
  rw [if_pos rfl] at H
  by_cases c8 : (l2.length : Int) = (l1.length : Int)
  rotate_left
  ·rw [if_neg c8] at H
   have c8b0 : ((l2.length : Int) == (l1.length : Int)) = false := beq_eq_false_iff_ne.mpr c8
   have c8b1 : ((l2.length : Int) != (l1.length : Int)) = true := bne_iff_ne.mpr c8
   have c8b2 : (l2.length == l1.length) = false := by (simp at c8 ⊢; omega)
   (skip)
   have H' := ak H
   clear H
   have hcz14_0 := bc w5 BK393 0 (.int .i64 a0_0) rfl
   have hcz14_1 := bc w5 BK393 1 (.slice A0_1 l0_1.length c0_1) rfl
   have hfz14_0 := fz BK393 0
   have hfz14_1 := fz BK393 1
   go_wp2_with (((with_reducible refine gate_callee (f := 22) rfl ?_); refine goesL_ (some 14) rfl rfl Try.func22 (by kernel_rfl) rfl #[.agg #[.int .i64 a0_0, .slice A0_1 l0_1.length c0_1], .slice A1 l1.length c1] rfl (by (try simp only [List.map_toArray, List.map_cons, List.map_nil]); rfl) ?_; (with_reducible refine (impl_seenOk.calls a0_0 _ _ l0_1 _ _ l1 true _ ?side1 ?side2 ?side3 ?side4 A6.out).mono ?_); (case side1 => repeat (exact (Kd.C_below HR0_1.out HB.out))); (case side2 => exact HC0_1.out); (case side3 => repeat (exact (Kd.C_below HR1.out HB.out))); (case side4 => exact HC1.out); rintro e w15 ⟨rfl, hb⟩; refine ⟨_, rfl, ?_⟩; replace BK393 := ak (blk_below (bk BK393) hb); replace HB := ak (below_step (bl1 HB GE393) hb); (try clear hb); (try clear hb2); (try clear hk); (try clear hi)))
   go_meet
   case rel => exact ⟨_, (true), (by rfl), H', ⟨by omega⟩, ⟨bk BK393⟩, ⟨bl1 HB GE393⟩⟩
  rw [if_pos c8] at H
  have c8b0 : ((l2.length : Int) == (l1.length : Int)) = true := beq_iff_eq.mpr c8
  have c8b1 : ((l2.length : Int) != (l1.length : Int)) = false := bne_eq_false_iff_eq.mpr c8
  have c8b2 : (l2.length == l1.length) = true := by (simp at c8 ⊢; omega)
  clear c8
  (skip)
  replace H := Option.bind_eq_some_iff.mp H
  obtain ⟨t395, A90, H⟩ := H
  have A9 := ak A90
  clear A90
  have H' := ak H
  clear H
  have hcz10_0 := bc w5 BK393 0 (.int .i64 a0_0) rfl
  have hcz10_1 := bc w5 BK393 1 (.slice A0_1 l0_1.length c0_1) rfl
  have hfz10_0 := fz BK393 0
  have hfz10_1 := fz BK393 1
  go_wp2_with (first | ((with_reducible refine gate_callee (f := 22) rfl ?_); refine goesL_ (some 14) rfl rfl Try.func22 (by kernel_rfl) rfl #[.agg #[.int .i64 a0_0, .slice A0_1 l0_1.length c0_1], .slice A1 l1.length c1] rfl (by (try simp only [List.map_toArray, List.map_cons, List.map_nil]); rfl) ?_; (with_reducible refine (impl_seenOk.calls a0_0 _ _ l0_1 _ _ l1 true _ ?side1 ?side2 ?side3 ?side4 A6.out).mono ?_); (case side1 => repeat (exact (Kd.C_below HR0_1.out HB.out))); (case side2 => exact HC0_1.out); (case side3 => repeat (exact (Kd.C_below HR1.out HB.out))); (case side4 => exact HC1.out); rintro e w11 ⟨rfl, hb⟩; refine ⟨_, rfl, ?_⟩; replace BK393 := ak (blk_below (bk BK393) hb); replace HB := ak (below_step (bl1 HB GE393) hb); (try clear hb); (try clear hb2); (try clear hk); (try clear hi); have hcz12_0 := bc w11 BK393 0 (.int .i64 a0_0) rfl; have hcz12_1 := bc w11 BK393 1 (.slice A0_1 l0_1.length c0_1) rfl; have hfz12_0 := fz BK393 0; have hfz12_1 := fz BK393 1) | (go_at_call 29; (with_reducible refine (impl_Net_has.calls a0_0 _ _ l0_1 _ _ l2 t395 _ ?side1 ?side2 ?side3 ?side4 A9.out).mono ?_); (case side1 => repeat (exact (Kd.C_below HR0_1.out HB.out))); (case side2 => exact HC0_1.out); (case side3 => repeat (exact (Kd.C_below HR2.out HB.out))); (case side4 => exact HC2.out); rintro e w13 ⟨rfl, hb⟩; have n0_ := ak (blk_below (bk BK393) hb); have n1_ := ak (below_step (bl1 HB GE393) hb); clear BK393; clear HB; have BK393 := n0_; have HB := n1_; clear n0_ n1_; (try clear hb); (try clear hb2); (try clear hk); (try clear hi)))
  go_meet
  case rel => exact ⟨_, (!t395), (by rfl), H', ⟨by omega⟩, ⟨bk BK393⟩, ⟨bl1 HB GE393⟩⟩
 clear HC4
 try clear c1
 try clear c2
 try clear p2
 try clear c7
 try clear c8
 try clear c8b0
 try clear c8b1
 try clear c8b2
 try clear c10
 try clear hcz10_0
 try clear hcz10_1
 try clear hcz12_0
 try clear hcz12_1
 try clear hcz14_0
 try clear hcz14_1
 try clear hcz16_0
 try clear hcz16_1
 try clear hfz10_0
 try clear hfz10_1
 try clear hfz12_0
 try clear hfz12_1
 try clear hfz14_0
 try clear hfz14_1
 try clear hfz16_0
 try clear hfz16_1
 obtain ⟨kq, x28_3, rfl, HA, HJ3, BK393, HB⟩ := hcut
 cases kq with
 | zero => exact absurd HA.out (by simp [impl_SeenCost.j0])
 | succ kj3 =>
  have H := HA.out
  clear HA
  simp only [impl_SeenCost.j0] at H
  by_cases c18 : x28_3 = true
  ·subst c18
   rw [if_pos rfl] at H
   obtain rfl := Option.some.inj H
   go_wp2
   go_ret
   exact ⟨by rfl, bl1 HB GE393⟩
  replace c18 := Bool.eq_false_iff.mpr c18
  subst c18
  rw [if_neg (show ¬ (false = true) by decide)] at H
  replace H := Option.bind_eq_some_iff.mp H
  obtain ⟨t396, A190, H⟩ := H
  have A19 := ak A190
  clear A190
  have H' := ak H
  clear H
  have hcz20_0 := bc wc BK393 0 (.int .i64 a0_0) rfl
  have hcz20_1 := bc wc BK393 1 (.slice A0_1 l0_1.length c0_1) rfl
  have hfz20_0 := fz BK393 0
  have hfz20_1 := fz BK393 1
  go_wp2_with (((with_reducible refine gate_callee (f := 23) rfl ?_); refine goesL_ (some 30) rfl rfl Try.func23 (by kernel_rfl) rfl #[.agg #[.int .i64 a0_0, .slice A0_1 l0_1.length c0_1]] rfl (by (try simp only [List.map_toArray, List.map_cons, List.map_nil]); rfl) ?_; (with_reducible refine (impl_Net_table.calls kj3 a0_0 _ _ l0_1 t396 _ ?side1 ?side2 A19.out).mono ?_); (case side1 => repeat (exact (Kd.C_below HR0_1.out HB.out))); (case side2 => exact HC0_1.out); rintro e w21 ⟨v397, rfl, ho0, hb⟩; refine ⟨_, rfl, ?_⟩; have HO398 := ak (Kd.S_lower ho0 (below_size (bl1 HB GE393))); replace BK393 := ak (blk_below (bk BK393) hb); replace HB := ak (below_step (bl1 HB GE393) hb); (try clear hb); (try clear hb2); (try clear hk); (try clear hi); (try clear ho0)))
  go_loopg [8, 33] kj3 (fun kq v8 v33 w' => ∃ (x8_2 : Int) (x33_2 : Int), v8 = .int .i64 x8_2 ∧ v33 = .int .i64 x33_2 ∧ Aside0 (impl_SeenCost.l0 kq l1 l2 t396 x8_2 l2 (l2.length : Int) x33_2 = some r) ∧ Aside0 (kq ≤ kj3) ∧ Aside0 (Kd.S (Kd.slice 3 (Kd.int .i64)) 28 w' w.heap.size (fun _ => True) v397 t396) ∧ Aside0 (w'.heap[gb393]? = some (.cells #[.int .i64 a0_0, (.slice A0_1 l0_1.length c0_1)] 25 (0, 0))) ∧ Aside0 (Below w.heap.size w w'))
  case atStart => exact ⟨(0), (0), (by rfl), (by rfl), H', ⟨Nat.le_refl _⟩, ⟨by exact HO398.out⟩, ⟨bk BK393⟩, ⟨bl1 HB GE393⟩⟩
  clear H'
  try clear c1
  try clear c2
  try clear p2
  try clear c7
  try clear c8
  try clear c8b0
  try clear c8b1
  try clear c8b2
  try clear c10
  try clear c18
  try clear hcz10_0
  try clear hcz10_1
  try clear hcz12_0
  try clear hcz12_1
  try clear hcz14_0
  try clear hcz14_1
  try clear hcz16_0
  try clear hcz16_1
  try clear hcz20_0
  try clear hcz20_1
  try clear hfz10_0
  try clear hfz10_1
  try clear hfz12_0
  try clear hfz12_1
  try clear hfz14_0
  try clear hfz14_1
  try clear hfz16_0
  try clear hfz16_1
  try clear hfz20_0
  try clear hfz20_1
  try clear p2
  obtain ⟨x8_2, x33_2, rfl, rfl, HA, HK2, HO_7, BK393, HB⟩ := hrel
  cases gk with
  | zero => exact absurd HA.out (by simp [impl_SeenCost.l0])
  | succ k2 =>
   have H := HA.out
   clear HA
   simp only [impl_SeenCost.l0] at H
   by_cases c22 : x33_2 < (l2.length : Int)
   rotate_left
   ·rw [if_neg c22] at H
    have c22b0 : decide (x33_2 < (l2.length : Int)) = false := decide_eq_false c22
    clear c22
    obtain rfl := Option.some.inj H
    go_wp2
    go_ret
    exact ⟨by rfl, bl1 HB GE393⟩
   rw [if_pos c22] at H
   have c22b0 : decide (x33_2 < (l2.length : Int)) = true := decide_eq_true c22
   clear c22
   by_cases c23 : 0 ≤ x33_2
   rotate_left
   ·rw [if_neg c23] at H
    exact absurd H (by simp)
   rw [if_pos c23] at H
   have c23b0 : decide (0 ≤ x33_2) = true := decide_eq_true c23
   clear c23
   by_cases c24 : x33_2 < (l2.length : Int)
   rotate_left
   ·rw [if_neg c24] at H
    exact absurd H (by simp)
   rw [if_pos c24] at H
   have c24b0 : decide (x33_2 < (l2.length : Int)) = true := decide_eq_true c24
   clear c24
   by_cases c25 : x33_2 < (l1.length : Int)
   rotate_left
   ·rw [if_neg c25] at H
    exact absurd H (by simp)
   rw [if_pos c25] at H
   have c25b0 : decide (x33_2 < (l1.length : Int)) = true := decide_eq_true c25
   clear c25
   by_cases c26 : 0 ≤ (rd l2 x33_2)
   rotate_left
   ·rw [if_neg c26] at H
    exact absurd H (by simp)
   rw [if_pos c26] at H
   have c26b0 : decide (0 ≤ (rd l2 x33_2)) = true := decide_eq_true c26
   clear c26
   by_cases c27 : (rd l2 x33_2) < ((rd_L4 l1 x33_2).length : Int)
   rotate_left
   ·rw [if_neg c27] at H
    exact absurd H (by simp)
   rw [if_pos c27] at H
   have c27b0 : decide ((rd l2 x33_2) < ((rd_L4 l1 x33_2).length : Int)) = true := decide_eq_true c27
   clear c27
   by_cases c28 : x33_2 = 0
   ·rw [if_pos c28] at H
    have c28b0 : (x33_2 == 0) = true := beq_iff_eq.mpr c28
    have c28b1 : (x33_2 != 0) = false := bne_eq_false_iff_eq.mpr c28
    clear c28
    have H' := ak H
    clear H
    have p399 : 0 ≤ (x33_2 : Int) := oT (by (with_reducible assumption))
    have q399 : x33_2 < (l2.length : Int) := oT (by (with_reducible assumption))
    obtain ⟨ad399, e399, hx399_0⟩ := Kd.at_int HR2.out x33_2 p399 q399
    cases e399
    replace hx399_0 := hcb HB.out hx399_0
    replace p399 := eq_true p399
    replace q399 := eq_true q399
    have p400 : 0 ≤ (x33_2 : Int) := oT (by (with_reducible assumption))
    have q400 : x33_2 < (l1.length : Int) := oT (by (with_reducible assumption))
    obtain ⟨ad400, A400_0, c400_0, e400, hx400_0, hl400_0, hi400_0⟩ := at_L4 HR1.out x33_2 p400 q400
    cases e400
    replace hx400_0 := hcb HB.out hx400_0
    have HR400_0 := ak hi400_0
    have HC400_0 := ak hl400_0
    clear hi400_0 hl400_0
    replace p400 := eq_true p400
    replace q400 := eq_true q400
    have p401 : 0 ≤ ((rd l2 x33_2) : Int) := oT (by (with_reducible assumption))
    have q401 : (rd l2 x33_2) < ((rd_L4 l1 x33_2).length : Int) := oT (by (with_reducible assumption))
    obtain ⟨ad401, e401, hx401_0⟩ := Kd.at_int HR400_0.out (rd l2 x33_2) p401 q401
    cases e401
    replace hx401_0 := hcb HB.out hx401_0
    replace p401 := eq_true p401
    replace q401 := eq_true q401
    go_wp2
    go_roundg k2
    case measure => have := HJ3.out; have := HK2.out; omega
    case rel => exact ⟨(wrap64 (x8_2 + (rd (rd_L4 l1 x33_2) (rd l2 x33_2)))), (wrap64 (x33_2 + 1)), (by rfl), (by rfl), H', ⟨by have := HJ3.out; have := HK2.out; omega⟩, ⟨by exact HO_7.out⟩, ⟨bk BK393⟩, ⟨bl1 HB GE393⟩⟩
   rw [if_neg c28] at H
   have c28b0 : (x33_2 == 0) = false := beq_eq_false_iff_ne.mpr c28
   have c28b1 : (x33_2 != 0) = true := bne_iff_ne.mpr c28
   obtain ⟨ji29, hji29⟩ : ∃ j_ : Int, (wrap64 (x33_2 - 1)) = j_ := ⟨_, rfl⟩
   replace H : (if 0 ≤ (ji29) then (if (ji29) < (l2.length : Int) then (if 0 ≤ (rd l2 (ji29)) then (if (rd l2 (ji29)) < (t396.length : Int) then (if (rd l2 x33_2) < ((rd_L4 t396 (rd l2 (ji29))).length : Int) then (if (rd (rd_L4 t396 (rd l2 (ji29))) (rd l2 x33_2)) = 99999 then (some 99999) else (impl_SeenCost.l0 k2 l1 l2 t396 (wrap64 ((wrap64 (x8_2 + (rd (rd_L4 l1 x33_2) (rd l2 x33_2)))) + (rd (rd_L4 t396 (rd l2 (ji29))) (rd l2 x33_2)))) l2 (l2.length : Int) (wrap64 (x33_2 + 1)))) else (none)) else (none)) else (none)) else (none)) else (none)) = some r := by (rw [hji29] at H; exact H)
   have hji29w : (IntKind.i64.wrap (x33_2 - 1)) = ji29 := (i64_w _).trans hji29
   by_cases c30 : 0 ≤ (ji29)
   rotate_left
   ·rw [if_neg c30] at H
    exact absurd H (by simp)
   rw [if_pos c30] at H
   have c30b0 : decide (0 ≤ (ji29)) = true := decide_eq_true c30
   clear c30
   by_cases c31 : (ji29) < (l2.length : Int)
   rotate_left
   ·rw [if_neg c31] at H
    exact absurd H (by simp)
   rw [if_pos c31] at H
   have c31b0 : decide ((ji29) < (l2.length : Int)) = true := decide_eq_true c31
   clear c31
   by_cases c32 : 0 ≤ (rd l2 (ji29))
   rotate_left
   ·rw [if_neg c32] at H
    exact absurd H (by simp)
   rw [if_pos c32] at H
   have c32b0 : decide (0 ≤ (rd l2 (ji29))) = true := decide_eq_true c32
   clear c32
   by_cases c33 : (rd l2 (ji29)) < (t396.length : Int)
   rotate_left
   ·rw [if_neg c33] at H
    exact absurd H (by simp)
   rw [if_pos c33] at H
   have c33b0 : decide ((rd l2 (ji29)) < (t396.length : Int)) = true := decide_eq_true c33
   clear c33
   by_cases c34 : (rd l2 x33_2) < ((rd_L4 t396 (rd l2 (ji29))).length : Int)
   rotate_left
   ·rw [if_neg c34] at H
    exact absurd H (by simp)
   rw [if_pos c34] at H
   have c34b0 : decide ((rd l2 x33_2) < ((rd_L4 t396 (rd l2 (ji29))).length : Int)) = true := decide_eq_true c34
   clear c34
   by_cases c35 : (rd (rd_L4 t396 (rd l2 (ji29))) (rd l2 x33_2)) = 99999
   ·rw [if_pos c35] at H
    have c35b0 : ((rd (rd_L4 t396 (rd l2 (ji29))) (rd l2 x33_2)) == 99999) = true := beq_iff_eq.mpr c35
    have c35b1 : ((rd (rd_L4 t396 (rd l2 (ji29))) (rd l2 x33_2)) != 99999) = false := bne_eq_false_iff_eq.mpr c35
    clear c35
    obtain rfl := Option.some.inj H
    have p399 : 0 ≤ (x33_2 : Int) := oT (by (with_reducible assumption))
    have q399 : x33_2 < (l2.length : Int) := oT (by (with_reducible assumption))
    obtain ⟨ad399, e399, hx399_0⟩ := Kd.at_int HR2.out x33_2 p399 q399
    cases e399
    replace hx399_0 := hcb HB.out hx399_0
    replace p399 := eq_true p399
    replace q399 := eq_true q399
    have p400 : 0 ≤ (x33_2 : Int) := oT (by (with_reducible assumption))
    have q400 : x33_2 < (l1.length : Int) := oT (by (with_reducible assumption))
    obtain ⟨ad400, A400_0, c400_0, e400, hx400_0, hl400_0, hi400_0⟩ := at_L4 HR1.out x33_2 p400 q400
    cases e400
    replace hx400_0 := hcb HB.out hx400_0
    have HR400_0 := ak hi400_0
    have HC400_0 := ak hl400_0
    clear hi400_0 hl400_0
    replace p400 := eq_true p400
    replace q400 := eq_true q400
    have p401 : 0 ≤ ((rd l2 x33_2) : Int) := oT (by (with_reducible assumption))
    have q401 : (rd l2 x33_2) < ((rd_L4 l1 x33_2).length : Int) := oT (by (with_reducible assumption))
    obtain ⟨ad401, e401, hx401_0⟩ := Kd.at_int HR400_0.out (rd l2 x33_2) p401 q401
    cases e401
    replace hx401_0 := hcb HB.out hx401_0
    replace p401 := eq_true p401
    replace q401 := eq_true q401
    have p402 : 0 ≤ ((ji29) : Int) := oT (by (with_reducible assumption))
    have q402 : (ji29) < (l2.length : Int) := oT (by (with_reducible assumption))
    obtain ⟨ad402, e402, hx402_0⟩ := Kd.at_int HR2.out (ji29) p402 q402
    obtain rfl : ad399 = ad402 := (by injection e402)
    replace hx402_0 := hcb HB.out hx402_0
    replace p402 := eq_true p402
    replace q402 := eq_true q402
    obtain ⟨Ao36, co36, eo36⟩ := Kd.S_slice HO_7.out
    subst eo36
    have p403 : 0 ≤ ((rd l2 (ji29)) : Int) := oT (by (with_reducible assumption))
    have q403 : (rd l2 (ji29)) < (t396.length : Int) := oT (by (with_reducible assumption))
    obtain ⟨ad403, A403_0, c403_0, e403, hx403_0, hl403_0, hi403_0⟩ := at_L4 (Kd.S_reads' HO_7.out).2.2 (rd l2 (ji29)) p403 q403
    cases e403
    obtain ⟨ce403, hce403, hMe403, hcc403⟩ := Kd.S_get HO_7.out [] (rd l2 (ji29)) p403 (by exact q403)
    obtain ⟨ve403_0, rfl, ge403_0⟩ := hMe403
    have hv403_0 := hcc403 0 _ rfl
    rw [Nat.add_zero, show ((Kd.slice 3 (Kd.int .i64))).sz = 1 from rfl, Nat.mul_one] at hv403_0
    replace hv403_0 := Option.some.inj (hv403_0.symm.trans hx403_0)
    rw [hv403_0] at ge403_0
    have HL403_0 := ak (show Kd.R (Kd.int .i64) 3 _ _ _ _ (rd_L4 t396 (rd l2 (ji29))) from ge403_0)
    clear hv403_0 ge403_0
    clear hcc403 hce403
    have HR403_0 := ak hi403_0
    have HC403_0 := ak hl403_0
    clear hi403_0 hl403_0
    replace p403 := eq_true p403
    replace q403 := eq_true q403
    have p404 : 0 ≤ ((rd l2 x33_2) : Int) := oT (by (with_reducible assumption))
    have q404 : (rd l2 x33_2) < ((rd_L4 t396 (rd l2 (ji29))).length : Int) := oT (by (with_reducible assumption))
    obtain ⟨ad404, e404, hx404_0⟩ := Kd.at_int (by repeat ((with_reducible exact HR403_0.out))) (rd l2 x33_2) p404 q404
    cases e404
    replace p404 := eq_true p404
    replace q404 := eq_true q404
    go_wp2
    go_ret
    exact ⟨by rfl, bl1 HB GE393⟩
   rw [if_neg c35] at H
   have c35b0 : ((rd (rd_L4 t396 (rd l2 (ji29))) (rd l2 x33_2)) == 99999) = false := beq_eq_false_iff_ne.mpr c35
   have c35b1 : ((rd (rd_L4 t396 (rd l2 (ji29))) (rd l2 x33_2)) != 99999) = true := bne_iff_ne.mpr c35
   have H' := ak H
   clear H
   have p399 : 0 ≤ (x33_2 : Int) := oT (by (with_reducible assumption))
   have q399 : x33_2 < (l2.length : Int) := oT (by (with_reducible assumption))
   obtain ⟨ad399, e399, hx399_0⟩ := Kd.at_int HR2.out x33_2 p399 q399
   cases e399
   replace hx399_0 := hcb HB.out hx399_0
   replace p399 := eq_true p399
   replace q399 := eq_true q399
   have p400 : 0 ≤ (x33_2 : Int) := oT (by (with_reducible assumption))
   have q400 : x33_2 < (l1.length : Int) := oT (by (with_reducible assumption))
   obtain ⟨ad400, A400_0, c400_0, e400, hx400_0, hl400_0, hi400_0⟩ := at_L4 HR1.out x33_2 p400 q400
   cases e400
   replace hx400_0 := hcb HB.out hx400_0
   have HR400_0 := ak hi400_0
   have HC400_0 := ak hl400_0
   clear hi400_0 hl400_0
   replace p400 := eq_true p400
   replace q400 := eq_true q400
   have p401 : 0 ≤ ((rd l2 x33_2) : Int) := oT (by (with_reducible assumption))
   have q401 : (rd l2 x33_2) < ((rd_L4 l1 x33_2).length : Int) := oT (by (with_reducible assumption))
   obtain ⟨ad401, e401, hx401_0⟩ := Kd.at_int HR400_0.out (rd l2 x33_2) p401 q401
   cases e401
   replace hx401_0 := hcb HB.out hx401_0
   replace p401 := eq_true p401
   replace q401 := eq_true q401
   have p402 : 0 ≤ ((ji29) : Int) := oT (by (with_reducible assumption))
   have q402 : (ji29) < (l2.length : Int) := oT (by (with_reducible assumption))
   obtain ⟨ad402, e402, hx402_0⟩ := Kd.at_int HR2.out (ji29) p402 q402
   obtain rfl : ad399 = ad402 := (by injection e402)
   replace hx402_0 := hcb HB.out hx402_0
   replace p402 := eq_true p402
   replace q402 := eq_true q402
   obtain ⟨Ao37, co37, eo37⟩ := Kd.S_slice HO_7.out
   subst eo37
   have p403 : 0 ≤ ((rd l2 (ji29)) : Int) := oT (by (with_reducible assumption))
   have q403 : (rd l2 (ji29)) < (t396.length : Int) := oT (by (with_reducible assumption))
   obtain ⟨ad403, A403_0, c403_0, e403, hx403_0, hl403_0, hi403_0⟩ := at_L4 (Kd.S_reads' HO_7.out).2.2 (rd l2 (ji29)) p403 q403
   cases e403
   obtain ⟨ce403, hce403, hMe403, hcc403⟩ := Kd.S_get HO_7.out [] (rd l2 (ji29)) p403 (by exact q403)
   obtain ⟨ve403_0, rfl, ge403_0⟩ := hMe403
   have hv403_0 := hcc403 0 _ rfl
   rw [Nat.add_zero, show ((Kd.slice 3 (Kd.int .i64))).sz = 1 from rfl, Nat.mul_one] at hv403_0
   replace hv403_0 := Option.some.inj (hv403_0.symm.trans hx403_0)
   rw [hv403_0] at ge403_0
   have HL403_0 := ak (show Kd.R (Kd.int .i64) 3 _ _ _ _ (rd_L4 t396 (rd l2 (ji29))) from ge403_0)
   clear hv403_0 ge403_0
   clear hcc403 hce403
   have HR403_0 := ak hi403_0
   have HC403_0 := ak hl403_0
   clear hi403_0 hl403_0
   replace p403 := eq_true p403
   replace q403 := eq_true q403
   have p404 : 0 ≤ ((rd l2 x33_2) : Int) := oT (by (with_reducible assumption))
   have q404 : (rd l2 x33_2) < ((rd_L4 t396 (rd l2 (ji29))).length : Int) := oT (by (with_reducible assumption))
   obtain ⟨ad404, e404, hx404_0⟩ := Kd.at_int (by repeat ((with_reducible exact HR403_0.out))) (rd l2 x33_2) p404 q404
   cases e404
   replace p404 := eq_true p404
   replace q404 := eq_true q404
   go_wp2
   go_roundg k2
   case measure => have := HJ3.out; have := HK2.out; omega
   case rel => exact ⟨(wrap64 ((wrap64 (x8_2 + (rd (rd_L4 l1 x33_2) (rd l2 x33_2)))) + (rd (rd_L4 t396 (rd l2 (ji29))) (rd l2 x33_2)))), (wrap64 (x33_2 + 1)), (by rfl), (by rfl), H', ⟨by have := HJ3.out; have := HK2.out; omega⟩, ⟨by exact HO_7.out⟩, ⟨bk BK393⟩, ⟨bl1 HB GE393⟩⟩

end Go.Proofs.Ytjnbhieppghidaa.F
