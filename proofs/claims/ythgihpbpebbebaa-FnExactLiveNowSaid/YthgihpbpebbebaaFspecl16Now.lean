-- Printed by wip/px/px.py of this claim's repository (the kit's printer, extended there). Lean checks it.
import Derived.Test.YthgihpbpebbebaaFKinds
namespace Go.Proofs.Ythgihpbpebbebaa.F
open Go.RowKit Go.Proofs.YthgihpbpebbebaaW.PrintWords Go.Proofs.YthgihpbpebbebaaW.PrintLast Go.Proofs.YthgihpbpebbebaaW.PrintMore
attribute [local go_sem] max2_int min2_int max_two min_two max_three min_three max_four min_four   -- for this text's walks alone
set_option linter.unusedVariables false
set_option linter.unusedSimpArgs false

/-! ### spec_l16Now: function 88 -/
mutual
def spec_l16Now.l0 : Nat → Int → Int → List (S31) → List (S64) → Int → List (S31) → Option (Int × (List (S31)))
 | 0, _, _, _, _, _, _ => none
 | k + 1, x4, x431000, x431001, x431002, x433000, x433001 => if x4 < (x431001.length : Int) then (if 0 ≤ x4 then (spec_l16Now.l1 k x4 false 0 x431000 x431001 x431002 x433000 x433001 ((rd_T31 x431001 x4).f0) ((rd_T31 x431001 x4).f1) ((rd_T31 x431001 x4).f2) ((rd_T31 x431001 x4).f3) ((rd_T31 x431001 x4).f4)) else (none)) else (some (x433000, x433001))
def spec_l16Now.l1 : Nat → Int → Bool → Int → Int → List (S31) → List (S64) → Int → List (S31) → Int → Int → Int → Int → Int → Option (Int × (List (S31)))
 | 0, _, _, _, _, _, _, _, _, _, _, _, _, _ => none
 | k + 1, x4, x6, x7, x431000, x431001, x431002, x433000, x433001, x435000, x435001, x435002, x435003, x435004 => if x7 < (x431002.length : Int) then (if 0 ≤ x7 then (if ((rd_T64 x431002 x7).f1) = x4 then (spec_l16Now.j2 k x4 x6 x7 (decide (((rd_T64 x431002 x7).f2) < 0)) x431000 x431001 x431002 x433000 x433001 x435000 x435001 x435002 x435003 x435004) else (spec_l16Now.j2 k x4 x6 x7 false x431000 x431001 x431002 x433000 x433001 x435000 x435001 x435002 x435003 x435004)) else (none)) else (if x435002 > 99 then (if x6 = true then (spec_l16Now.l0 k (wrap64 (x4 + 1)) x431000 x431001 x431002 x433000 x433001) else (if x433001.length < 3518437208883 then (spec_l16Now.l0 k (wrap64 (x4 + 1)) x431000 x431001 x431002 x433000 (x433001 ++ [(⟨x435000, x435001, 99, x435003, x435004⟩ : S31)])) else (none))) else (if x6 = true then (spec_l16Now.l0 k (wrap64 (x4 + 1)) x431000 x431001 x431002 x433000 x433001) else (if x433001.length < 3518437208883 then (spec_l16Now.l0 k (wrap64 (x4 + 1)) x431000 x431001 x431002 x433000 (x433001 ++ [(⟨x435000, x435001, x435002, x435003, x435004⟩ : S31)])) else (none))))
def spec_l16Now.j2 : Nat → Int → Bool → Int → Bool → Int → List (S31) → List (S64) → Int → List (S31) → Int → Int → Int → Int → Int → Option (Int × (List (S31)))
 | 0, _, _, _, _, _, _, _, _, _, _, _, _, _, _ => none
 | k + 1, x4, x6, x7, x49, x431000, x431001, x431002, x433000, x433001, x435000, x435001, x435002, x435003, x435004 => if x49 = true then (spec_l16Now.l1 k x4 true (wrap64 (x7 + 1)) x431000 x431001 x431002 x433000 x433001 x435000 x435001 x435002 x435003 x435004) else (if 0 ≤ x7 then (if x7 < (x431002.length : Int) then (if ((rd_T64 x431002 x7).f1) = x4 then (spec_l16Now.l1 k x4 x6 (wrap64 (x7 + 1)) x431000 x431001 x431002 x433000 x433001 x435000 x435001 (wrap64 (x435002 + ((rd_T64 x431002 x7).f2))) x435003 x435004) else (spec_l16Now.l1 k x4 x6 (wrap64 (x7 + 1)) x431000 x431001 x431002 x433000 x433001 x435000 x435001 x435002 x435003 x435004)) else (none)) else (none))
end
def spec_l16Now.f (k : Nat) (a0_0 : Int) (l0_1 : List (S31)) (l0_2 : List (S64)) : Option (Int × (List (S31))) := spec_l16Now.l0 k 0 a0_0 l0_1 l0_2 a0_0 ([] : List (S31))
theorem spec_l16Now.mono_l : ∀ k, (∀ y0 y1 y2 y3 y4 y5, LeO (spec_l16Now.l0 k y0 y1 y2 y3 y4 y5) (spec_l16Now.l0 (k + 1) y0 y1 y2 y3 y4 y5)) ∧ (∀ y0 y1 y2 y3 y4 y5 y6 y7 y8 y9 y10 y11 y12, LeO (spec_l16Now.l1 k y0 y1 y2 y3 y4 y5 y6 y7 y8 y9 y10 y11 y12) (spec_l16Now.l1 (k + 1) y0 y1 y2 y3 y4 y5 y6 y7 y8 y9 y10 y11 y12)) ∧ (∀ y0 y1 y2 y3 y4 y5 y6 y7 y8 y9 y10 y11 y12 y13, LeO (spec_l16Now.j2 k y0 y1 y2 y3 y4 y5 y6 y7 y8 y9 y10 y11 y12 y13) (spec_l16Now.j2 (k + 1) y0 y1 y2 y3 y4 y5 y6 y7 y8 y9 y10 y11 y12 y13))
 | 0 => ⟨fun _ _ _ _ _ _ r h => by simp [spec_l16Now.l0] at h, fun _ _ _ _ _ _ _ _ _ _ _ _ _ r h => by simp [spec_l16Now.l1] at h, fun _ _ _ _ _ _ _ _ _ _ _ _ _ _ r h => by simp [spec_l16Now.j2] at h⟩
 | k + 1 => by
  obtain ⟨ih0, ih1, ih2⟩ := spec_l16Now.mono_l k
  refine ⟨?_, ?_, ?_⟩
  ·intro y0 y1 y2 y3 y4 y5
   unfold spec_l16Now.l0
   repeat' first
   | (with_reducible exact ih0 _ _ _ _ _ _)
   | (with_reducible exact ih1 _ _ _ _ _ _ _ _ _ _ _ _ _)
   | (with_reducible exact ih2 _ _ _ _ _ _ _ _ _ _ _ _ _ _)
   | (with_reducible exact LeO.refl _)
   | (with_reducible exact LeO.none _)
   | (with_reducible refine LeO.ite ?_ ?_)
   | (with_reducible refine LeO.bind ?_ (fun _ => ?_))
   | exact ih0 _ _ _ _ _ _
   | exact ih1 _ _ _ _ _ _ _ _ _ _ _ _ _
   | exact ih2 _ _ _ _ _ _ _ _ _ _ _ _ _ _
   | exact LeO.none _
   | refine LeO.ite ?_ ?_
   | refine LeO.bind ?_ (fun _ => ?_)
  ·intro y0 y1 y2 y3 y4 y5 y6 y7 y8 y9 y10 y11 y12
   unfold spec_l16Now.l1
   repeat' first
   | (with_reducible exact ih0 _ _ _ _ _ _)
   | (with_reducible exact ih1 _ _ _ _ _ _ _ _ _ _ _ _ _)
   | (with_reducible exact ih2 _ _ _ _ _ _ _ _ _ _ _ _ _ _)
   | (with_reducible exact LeO.refl _)
   | (with_reducible exact LeO.none _)
   | (with_reducible refine LeO.ite ?_ ?_)
   | (with_reducible refine LeO.bind ?_ (fun _ => ?_))
   | exact ih0 _ _ _ _ _ _
   | exact ih1 _ _ _ _ _ _ _ _ _ _ _ _ _
   | exact ih2 _ _ _ _ _ _ _ _ _ _ _ _ _ _
   | exact LeO.none _
   | refine LeO.ite ?_ ?_
   | refine LeO.bind ?_ (fun _ => ?_)
  ·intro y0 y1 y2 y3 y4 y5 y6 y7 y8 y9 y10 y11 y12 y13
   unfold spec_l16Now.j2
   repeat' first
   | (with_reducible exact ih0 _ _ _ _ _ _)
   | (with_reducible exact ih1 _ _ _ _ _ _ _ _ _ _ _ _ _)
   | (with_reducible exact ih2 _ _ _ _ _ _ _ _ _ _ _ _ _ _)
   | (with_reducible exact LeO.refl _)
   | (with_reducible exact LeO.none _)
   | (with_reducible refine LeO.ite ?_ ?_)
   | (with_reducible refine LeO.bind ?_ (fun _ => ?_))
   | exact ih0 _ _ _ _ _ _
   | exact ih1 _ _ _ _ _ _ _ _ _ _ _ _ _
   | exact ih2 _ _ _ _ _ _ _ _ _ _ _ _ _ _
   | exact LeO.none _
   | refine LeO.ite ?_ ?_
   | refine LeO.bind ?_ (fun _ => ?_)
theorem spec_l16Now.mono : ∀ a0 a1 a2 k, LeO (spec_l16Now.f k a0 a1 a2) (spec_l16Now.f (k + 1) a0 a1 a2) := by
 intro a0 a1 a2 k
 obtain ⟨ih0, ih1, ih2⟩ := spec_l16Now.mono_l k
 unfold spec_l16Now.f
 repeat' first
   | (with_reducible exact ih0 _ _ _ _ _ _)
   | (with_reducible exact ih1 _ _ _ _ _ _ _ _ _ _ _ _ _)
   | (with_reducible exact ih2 _ _ _ _ _ _ _ _ _ _ _ _ _ _)
   | (with_reducible exact LeO.refl _)
   | (with_reducible exact LeO.none _)
   | (with_reducible refine LeO.ite ?_ ?_)
   | (with_reducible refine LeO.bind ?_ (fun _ => ?_))
   | exact ih0 _ _ _ _ _ _
   | exact ih1 _ _ _ _ _ _ _ _ _ _ _ _ _
   | exact ih2 _ _ _ _ _ _ _ _ _ _ _ _ _ _
   | exact LeO.none _
   | refine LeO.ite ?_ ?_
   | refine LeO.bind ?_ (fun _ => ?_)
def spec_l16Now.T13 : Bool × List (List Nat × List Nat) := (true, [([], []), ([0], [0]), ([], []), ([2], [2]), ([], []), ([3, 4], [3, 4]), ([5], [5]), ([6], [6]), ([1, 7], [1, 7]), ([0, 1, 2, 3, 4, 5, 6, 7, 8], []), ([9, 8, 0, 1, 2, 3, 4, 5, 6, 7, 8], [8, 9])])
def spec_l16Now.B13 : List Nat := [0, 1, 0, 4, 0, 28, 60, 124, 255, 511, 1023]
theorem spec_l16Now.tab13 : rtab .any (opsOf Try.f88 13) = spec_l16Now.T13 := by kernel_rfl
theorem spec_l16Now.bits13 : waitsOk spec_l16Now.T13.2 spec_l16Now.B13 = true := by kernel_rfl
set_option maxHeartbeats 8000000 in
set_option maxRecDepth 100000 in
theorem spec_l16Now.calls (k : Nat) (a0_0 : Int) (A0_1 : Option Addr) (c0_1 : Nat) (l0_1 : List (S31)) (A0_2 : Option Addr) (c0_2 : Nat) (l0_2 : List (S64)) (r1 : Int) (r2 : List (S31)) (w : World) (hr0_1 : Kd.C k31 w A0_1 l0_1.length l0_1) (hc0_1 : l0_1.length ≤ c0_1) (hr0_2 : Kd.C k64 w A0_2 l0_2.length l0_2) (hc0_2 : l0_2.length ≤ c0_2) (h : spec_l16Now.f k a0_0 l0_1 l0_2 = some (r1, r2)) :
  Calls Try.prog 88 #[.agg #[.int .i64 a0_0, .slice A0_1 l0_1.length c0_1, .slice A0_2 l0_2.length c0_2]] w fun e w' => ∃ v1_ : Value, e = .returned (.agg #[.int .i64 r1, v1_]) ∧ Kd.R k31 31 w' w.heap.size (fun _ => True) v1_ r2 ∧ Below w.heap.size w w' := by
 have hu57 := Try.underlying57
 have hu25 := Try.underlying25
 have hu31 := Try.underlying31
 have HR0_1 := Aside0.mk hr0_1
 have HC0_1 := Aside0.mk hc0_1
 clear hr0_1 hc0_1
 have HR0_2 := Aside0.mk hr0_2
 have HC0_2 := Aside0.mk hc0_2
 clear hr0_2 hc0_2
 have HB := Aside0.mk (Below.refl w.heap.size w)
 have H : (spec_l16Now.l0 k 0 a0_0 l0_1 l0_2 a0_0 ([] : List (S31))) = some (r1, r2) := h
 clear h
 have H' := Aside0.mk H
 clear H
 go_enter Try.func88, Try.ntmps88
 go_wp2_with (first | ((with_reducible refine gate_dst (N := 1) rfl ?_); refine box_event ?hg (N := 1) ?hd (cs := #[.int .i64 a0_0, .slice A0_1 l0_1.length c0_1, .slice A0_2 l0_2.length c0_2]) (t := 57) ?hr ?_; (case hd => rfl); (case hg => rfl); (case hr => first | (go_simp; done) | (go_simp; rfl)); intro gb430 hg w2 hbox hb; have n0_ := Aside0.mk (below_step (bl HB) hb); have n1_ := Aside0.mk (hbox); have n2_ := Aside0.mk ((by rw [hg]; exact (below_size (bl HB)) : w.heap.size ≤ gb430)); have n3_ := Aside0.mk ((by rw [hg]; exact (below_size (bl HB)) : w.heap.size ≤ gb430)); clear HB; have HB := n0_; have BK430 := n1_; have GW430 := n2_; have GE430 := n3_; clear n0_ n1_ n2_ n3_; clear hb hbox hg) | ((with_reducible refine gate_dst (N := 2) rfl ?_); refine box_event ?hg (N := 2) ?hd (cs := #[.int .i64 0, .slice none 0 0]) (t := 25) ?hr ?_; (case hd => rfl); (case hg => rfl); (case hr => first | (go_simp; done) | (go_simp; rfl)); intro gb431 hg w3 hbox hb; have n0_ := Aside0.mk (blk_below (bk BK430) hb); have n1_ := Aside0.mk (below_step (bl1 HB GE430) hb); have n2_ := Aside0.mk (hbox); have n3_ := Aside0.mk ((by rw [hg]; exact (below_size (bl1 HB GE430)) : w.heap.size ≤ gb431)); have n4_ := Aside0.mk ((by rw [hg]; exact (below_size (bl1 HB GE430)) : w.heap.size ≤ gb431)); have n5_ := Aside0.mk ((by rw [hg]; exact Nat.ne_of_lt (blk_lt (bk BK430)) : gb430 ≠ gb431)); have n6_ := Aside0.mk ((by rw [hg]; exact Nat.ne_of_gt (blk_lt (bk BK430)) : gb431 ≠ gb430)); clear BK430; clear HB; have BK430 := n0_; have HB := n1_; have BK431 := n2_; have GW431 := n3_; have GE431 := n4_; have NB430_431 := n5_; have NB431_430 := n6_; clear n0_ n1_ n2_ n3_ n4_ n5_ n6_; clear hb hbox hg; have hnb4 := NB430_431.out; have hnc4 := NB431_430.out; have hcz5_0 : w3.cell? ⟨gb430, 0, none⟩ = some (.int .i64 a0_0) := (blk_cell BK430.out 0).trans rfl; have hcz5_1 : w3.cell? ⟨gb430, 1, none⟩ = some (.slice A0_1 l0_1.length c0_1) := (blk_cell BK430.out 1).trans rfl; have hcz5_2 : w3.cell? ⟨gb430, 2, none⟩ = some (.slice A0_2 l0_2.length c0_2) := (blk_cell BK430.out 2).trans rfl; have hfz5_0 := blk_frozen BK430.out 0; have hfz5_1 := blk_frozen BK430.out 1; have hfz5_2 := blk_frozen BK430.out 2) | ((with_reducible refine gate_dst (N := 3) rfl ?_); refine box_event ?hg (N := 3) ?hd (cs := #[.int .i64 0, .slice none 0 0]) (t := 25) ?hr ?_; (case hd => rfl); (case hg => rfl); (case hr => first | (go_simp; done) | (go_simp; rfl)); intro gb432 hg w6 hbox hb; have n0_ := Aside0.mk (blk_below (bk BK430) hb); have n1_ := Aside0.mk (blk_below (bk BK431) hb); have n2_ := Aside0.mk (below_step (bl2 HB GE430 GE431) hb); have n3_ := Aside0.mk (hbox); have n4_ := Aside0.mk ((by rw [hg]; exact (below_size (bl2 HB GE430 GE431)) : w.heap.size ≤ gb432)); have n5_ := Aside0.mk ((by rw [hg]; exact (below_size (bl2 HB GE430 GE431)) : w.heap.size ≤ gb432)); have n6_ := Aside0.mk ((by rw [hg]; exact Nat.ne_of_lt (blk_lt (bk BK430)) : gb430 ≠ gb432)); have n7_ := Aside0.mk ((by rw [hg]; exact Nat.ne_of_gt (blk_lt (bk BK430)) : gb432 ≠ gb430)); have n8_ := Aside0.mk ((by rw [hg]; exact Nat.ne_of_lt (blk_lt (bk BK431)) : gb431 ≠ gb432)); have n9_ := Aside0.mk ((by rw [hg]; exact Nat.ne_of_gt (blk_lt (bk BK431)) : gb432 ≠ gb431)); clear BK430; clear BK431; clear HB; have BK430 := n0_; have BK431 := n1_; have HB := n2_; have BK432 := n3_; have GW432 := n4_; have GE432 := n5_; have NB430_432 := n6_; have NB432_430 := n7_; have NB431_432 := n8_; have NB432_431 := n9_; clear n0_ n1_ n2_ n3_ n4_ n5_ n6_ n7_ n8_ n9_; clear hb hbox hg; have hnb7 := NB432_430.out; have hnc7 := NB430_432.out; have hnb8 := NB432_431.out; have hnc8 := NB431_432.out; have hcz9_0 : w6.cell? ⟨gb432, 0, none⟩ = some (.int .i64 0) := (blk_cell BK432.out 0).trans rfl; have hcz9_1 : w6.cell? ⟨gb432, 1, none⟩ = some (.slice none 0 0) := (blk_cell BK432.out 1).trans rfl; have hfz9_0 := blk_frozen BK432.out 0; have hfz9_1 := blk_frozen BK432.out 1))
 go_loopg [4] k (fun kq v4 w' => ∃ (x4_1 : Int) (x433001_1 : List (S31)) (u433001 : Value), v4 = .int .i64 x4_1 ∧ Aside0 (spec_l16Now.l0 kq x4_1 a0_0 l0_1 l0_2 a0_0 x433001_1 = some (r1, r2)) ∧ Aside0 (kq ≤ k) ∧ Aside0 (Kd.R k31 31 w' w.heap.size (fun _ => True) u433001 x433001_1) ∧ Aside0 (w'.heap[gb430]? = some (.cells #[.int .i64 a0_0, (.slice A0_1 l0_1.length c0_1), (.slice A0_2 l0_2.length c0_2)] 57 (0, 0))) ∧ Aside0 (w'.heap[gb431]? = some (.cells #[.int .i64 0, (.slice none 0 0)] 25 (0, 0))) ∧ Aside0 (w'.heap[gb432]? = some (.cells #[.int .i64 a0_0, u433001] 25 (0, 0))) ∧ Aside0 (Below w.heap.size w w'))
 case atStart => exact ⟨(0), (([] : List (S31))), (.slice none 0 0), (by first | rfl | (simp; done) | (simp [*]; done)), H', ⟨Nat.le_refl _⟩, ⟨by first | exact Kd.R_nil _ _ _ _ _ | exact Kd.N_nil _ _ _ _ _ | exact Kd.V_nil _ _ _ _ _ | exact Kd.Q_nil _ _ _ _ _ | exact Kd.S_nil _ _ _ _ _⟩, ⟨by (with_reducible repeat (first | refine blk_drewN ?_ _ | refine blk_drew ?_ | refine blk_alloc ?_ _)); refine blk_far ?_ NB430_432.out _; (with_reducible repeat (first | refine blk_drewN ?_ _ | refine blk_drew ?_ | refine blk_alloc ?_ _)); refine blk_far ?_ NB430_432.out _; (with_reducible repeat (first | refine blk_drewN ?_ _ | refine blk_drew ?_ | refine blk_alloc ?_ _)); exact BK430.out⟩, ⟨by (with_reducible repeat (first | refine blk_drewN ?_ _ | refine blk_drew ?_ | refine blk_alloc ?_ _)); refine blk_far ?_ NB431_432.out _; (with_reducible repeat (first | refine blk_drewN ?_ _ | refine blk_drew ?_ | refine blk_alloc ?_ _)); refine blk_far ?_ NB431_432.out _; (with_reducible repeat (first | refine blk_drewN ?_ _ | refine blk_drew ?_ | refine blk_alloc ?_ _)); exact BK431.out⟩, ⟨by (with_reducible repeat (first | refine blk_drewN ?_ _ | refine blk_drew ?_ | refine blk_alloc ?_ _)); refine blk_put (cs := #[.int .i64 a0_0, .slice none 0 0]) ?_ 1 _ rfl; (with_reducible repeat (first | refine blk_drewN ?_ _ | refine blk_drew ?_ | refine blk_alloc ?_ _)); refine blk_put (cs := #[.int .i64 0, .slice none 0 0]) ?_ 0 _ rfl; (with_reducible repeat (first | refine blk_drewN ?_ _ | refine blk_drew ?_ | refine blk_alloc ?_ _)); exact BK432.out⟩, ⟨bl3 HB GE430 GE431 GE432⟩⟩
 case round =>
  clear H'
  try clear p2
  try clear c4
  try clear c7
  try clear c8
  try clear hcz5_0
  try clear hcz5_1
  try clear hcz5_2
  try clear hcz9_0
  try clear hcz9_1
  try clear hfz5_0
  try clear hfz5_1
  try clear hfz5_2
  try clear hfz9_0
  try clear hfz9_1
  obtain ⟨x4_1, x433001_1, u433001, rfl, HA, HK1, HO_433001, BK430, BK431, BK432, HB⟩ := hrel
  cases gk with
  | zero => exact absurd HA.out (by simp [spec_l16Now.l0])
  | succ k1 =>
   have H := HA.out
   clear HA
   simp only [spec_l16Now.l0] at H
   by_cases c10 : x4_1 < (l0_1.length : Int)
   ·rw [if_pos c10] at H
    have c10b0 : decide (x4_1 < (l0_1.length : Int)) = true := decide_eq_true c10
    clear c10
    by_cases c11 : 0 ≤ x4_1
    ·rw [if_pos c11] at H
     have c11b0 : decide (0 ≤ x4_1) = true := decide_eq_true c11
     clear c11
     have H' := Aside0.mk H
     clear H
     have hnb12 := NB430_431.out
     have hnc12 := NB431_430.out
     have hnb13 := NB430_432.out
     have hnc13 := NB432_430.out
     have hcz14_0 : wr.cell? ⟨gb430, 0, none⟩ = some (.int .i64 a0_0) := (blk_cell BK430.out 0).trans rfl
     have hcz14_1 : wr.cell? ⟨gb430, 1, none⟩ = some (.slice A0_1 l0_1.length c0_1) := (blk_cell BK430.out 1).trans rfl
     have hcz14_2 : wr.cell? ⟨gb430, 2, none⟩ = some (.slice A0_2 l0_2.length c0_2) := (blk_cell BK430.out 2).trans rfl
     have hfz14_0 := blk_frozen BK430.out 0
     have hfz14_1 := blk_frozen BK430.out 1
     have hfz14_2 := blk_frozen BK430.out 2
     have p433 : 0 ≤ (x4_1 : Int) := oT (by first | (with_reducible assumption) | assumption)
     have q433 : x4_1 < (l0_1.length : Int) := oT (by first | (with_reducible assumption) | assumption)
     obtain ⟨ad433, e433, hx433_0, hx433_1, hx433_2, hx433_3, hx433_4⟩ := at_T31 HR0_1.out x4_1 p433 q433
     cases e433
     replace hx433_0 := (HB.out.cell (World.block_lt_of_cell? w _ hx433_0)).trans hx433_0
     replace hx433_1 := (HB.out.cell (World.block_lt_of_cell? w _ hx433_1)).trans hx433_1
     replace hx433_2 := (HB.out.cell (World.block_lt_of_cell? w _ hx433_2)).trans hx433_2
     replace hx433_3 := (HB.out.cell (World.block_lt_of_cell? w _ hx433_3)).trans hx433_3
     replace hx433_4 := (HB.out.cell (World.block_lt_of_cell? w _ hx433_4)).trans hx433_4
     replace p433 := eq_true p433
     replace q433 := eq_true q433
     go_wp2_with (first | ((with_reducible refine gate_dst (N := 5) rfl ?_); refine box_event ?hg (N := 5) ?hd (cs := #[.int .i64 0, .int .i64 0, .int .i64 0, .int .i64 0, .int .i64 0]) (t := 31) ?hr ?_; (case hd => rfl); (case hg => rfl); (case hr => first | (go_simp; done) | (go_simp; rfl)); intro gb434 hg w15 hbox hb; have n0_ := Aside0.mk (Kd.R_below (Kd.R_elderB (rk HO_433001) gb434 (Nat.le_of_eq hg.symm)) hb); have n1_ := Aside0.mk (blk_below (bk BK430) hb); have n2_ := Aside0.mk (blk_below (bk BK431) hb); have n3_ := Aside0.mk (blk_below (bk BK432) hb); have n4_ := Aside0.mk (below_step (bl3 HB GE430 GE431 GE432) hb); have n5_ := Aside0.mk (hbox); have n6_ := Aside0.mk ((by rw [hg]; exact (below_size (bl3 HB GE430 GE431 GE432)) : w.heap.size ≤ gb434)); have n7_ := Aside0.mk ((by rw [hg]; exact (below_size (bl3 HB GE430 GE431 GE432)) : w.heap.size ≤ gb434)); have n8_ := Aside0.mk ((by rw [hg]; exact Nat.ne_of_lt (blk_lt (bk BK430)) : gb430 ≠ gb434)); have n9_ := Aside0.mk ((by rw [hg]; exact Nat.ne_of_gt (blk_lt (bk BK430)) : gb434 ≠ gb430)); have n10_ := Aside0.mk ((by rw [hg]; exact Nat.ne_of_lt (blk_lt (bk BK431)) : gb431 ≠ gb434)); have n11_ := Aside0.mk ((by rw [hg]; exact Nat.ne_of_gt (blk_lt (bk BK431)) : gb434 ≠ gb431)); have n12_ := Aside0.mk ((by rw [hg]; exact Nat.ne_of_lt (blk_lt (bk BK432)) : gb432 ≠ gb434)); have n13_ := Aside0.mk ((by rw [hg]; exact Nat.ne_of_gt (blk_lt (bk BK432)) : gb434 ≠ gb432)); clear HO_433001; clear BK430; clear BK431; clear BK432; clear HB; have HO_433001 := n0_; have BK430 := n1_; have BK431 := n2_; have BK432 := n3_; have HB := n4_; have BK434 := n5_; have GW434 := n6_; have GE434 := n7_; have NB430_434 := n8_; have NB434_430 := n9_; have NB431_434 := n10_; have NB434_431 := n11_; have NB432_434 := n12_; have NB434_432 := n13_; clear n0_ n1_ n2_ n3_ n4_ n5_ n6_ n7_ n8_ n9_ n10_ n11_ n12_ n13_; clear hb hbox hg; have hnb16 := NB434_430.out; have hnc16 := NB430_434.out; have hnb17 := NB434_431.out; have hnc17 := NB431_434.out; have hnb18 := NB434_432.out; have hnc18 := NB432_434.out; have hcz19_0 : w15.cell? ⟨gb434, 0, none⟩ = some (.int .i64 0) := (blk_cell BK434.out 0).trans rfl; have hcz19_1 : w15.cell? ⟨gb434, 1, none⟩ = some (.int .i64 0) := (blk_cell BK434.out 1).trans rfl; have hcz19_2 : w15.cell? ⟨gb434, 2, none⟩ = some (.int .i64 0) := (blk_cell BK434.out 2).trans rfl; have hcz19_3 : w15.cell? ⟨gb434, 3, none⟩ = some (.int .i64 0) := (blk_cell BK434.out 3).trans rfl; have hcz19_4 : w15.cell? ⟨gb434, 4, none⟩ = some (.int .i64 0) := (blk_cell BK434.out 4).trans rfl; have hfz19_0 := blk_frozen BK434.out 0; have hfz19_1 := blk_frozen BK434.out 1; have hfz19_2 := blk_frozen BK434.out 2; have hfz19_3 := blk_frozen BK434.out 3; have hfz19_4 := blk_frozen BK434.out 4))
     go_loopg [6, 7] k1 (fun kq v6 v7 w' => ∃ (x6_2 : Bool) (x7_2 : Int) (x435002_2 : Int), v6 = .bool x6_2 ∧ v7 = .int .i64 x7_2 ∧ Aside0 (spec_l16Now.l1 kq x4_1 x6_2 x7_2 a0_0 l0_1 l0_2 a0_0 x433001_1 ((rd_T31 l0_1 x4_1).f0) ((rd_T31 l0_1 x4_1).f1) x435002_2 ((rd_T31 l0_1 x4_1).f3) ((rd_T31 l0_1 x4_1).f4) = some (r1, r2)) ∧ Aside0 (kq ≤ k1) ∧ Aside0 (Kd.R k31 31 w' w.heap.size (fun k_ => k_ ≠ gb434) u433001 x433001_1) ∧ Aside0 (w'.heap[gb430]? = some (.cells #[.int .i64 a0_0, (.slice (some ad433) l0_1.length c0_1), (.slice A0_2 l0_2.length c0_2)] 57 (0, 0))) ∧ Aside0 (w'.heap[gb431]? = some (.cells #[.int .i64 0, (.slice none 0 0)] 25 (0, 0))) ∧ Aside0 (w'.heap[gb432]? = some (.cells #[.int .i64 a0_0, u433001] 25 (0, 0))) ∧ Aside0 (w'.heap[gb434]? = some (.cells #[.int .i64 ((rd_T31 l0_1 x4_1).f0), .int .i64 ((rd_T31 l0_1 x4_1).f1), .int .i64 x435002_2, .int .i64 ((rd_T31 l0_1 x4_1).f3), .int .i64 ((rd_T31 l0_1 x4_1).f4)] 31 (0, 0))) ∧ Aside0 (Below w.heap.size w w'))
     case atStart => exact ⟨(false), (0), ((rd_T31 l0_1 x4_1).f2), (by first | rfl | (simp; done) | (simp [*]; done)), (by first | rfl | (simp; done) | (simp [*]; done)), H', ⟨Nat.le_refl _⟩, ⟨by (with_reducible repeat (first | apply Kd.R_alloc | apply Kd.R_drewN | apply Kd.R_drew)); exact Kd.R_mono (Kd.R_far (p := ⟨gb434, 4, none⟩) (Kd.R_far (p := ⟨gb434, 3, none⟩) (Kd.R_far (p := ⟨gb434, 2, none⟩) (Kd.R_far (p := ⟨gb434, 1, none⟩) (Kd.R_far (p := ⟨gb434, 0, none⟩) (Kd.R_mono HO_433001.out (fun k_ hk => (⟨hk, hk.2⟩ : _ ∧ k_ ≠ gb434))) (fun _ hk => hk.2) (.int .i64 ((rd_T31 l0_1 x4_1).f0))) (fun _ hk => hk.2) (.int .i64 ((rd_T31 l0_1 x4_1).f1))) (fun _ hk => hk.2) (.int .i64 ((rd_T31 l0_1 x4_1).f2))) (fun _ hk => hk.2) (.int .i64 ((rd_T31 l0_1 x4_1).f3))) (fun _ hk => hk.2) (.int .i64 ((rd_T31 l0_1 x4_1).f4))) (fun _ hk => hk.1.2)⟩, ⟨by (with_reducible repeat (first | refine blk_drewN ?_ _ | refine blk_drew ?_ | refine blk_alloc ?_ _)); refine blk_far ?_ NB430_434.out _; (with_reducible repeat (first | refine blk_drewN ?_ _ | refine blk_drew ?_ | refine blk_alloc ?_ _)); refine blk_far ?_ NB430_434.out _; (with_reducible repeat (first | refine blk_drewN ?_ _ | refine blk_drew ?_ | refine blk_alloc ?_ _)); refine blk_far ?_ NB430_434.out _; (with_reducible repeat (first | refine blk_drewN ?_ _ | refine blk_drew ?_ | refine blk_alloc ?_ _)); refine blk_far ?_ NB430_434.out _; (with_reducible repeat (first | refine blk_drewN ?_ _ | refine blk_drew ?_ | refine blk_alloc ?_ _)); refine blk_far ?_ NB430_434.out _; (with_reducible repeat (first | refine blk_drewN ?_ _ | refine blk_drew ?_ | refine blk_alloc ?_ _)); exact BK430.out⟩, ⟨by (with_reducible repeat (first | refine blk_drewN ?_ _ | refine blk_drew ?_ | refine blk_alloc ?_ _)); refine blk_far ?_ NB431_434.out _; (with_reducible repeat (first | refine blk_drewN ?_ _ | refine blk_drew ?_ | refine blk_alloc ?_ _)); refine blk_far ?_ NB431_434.out _; (with_reducible repeat (first | refine blk_drewN ?_ _ | refine blk_drew ?_ | refine blk_alloc ?_ _)); refine blk_far ?_ NB431_434.out _; (with_reducible repeat (first | refine blk_drewN ?_ _ | refine blk_drew ?_ | refine blk_alloc ?_ _)); refine blk_far ?_ NB431_434.out _; (with_reducible repeat (first | refine blk_drewN ?_ _ | refine blk_drew ?_ | refine blk_alloc ?_ _)); refine blk_far ?_ NB431_434.out _; (with_reducible repeat (first | refine blk_drewN ?_ _ | refine blk_drew ?_ | refine blk_alloc ?_ _)); exact BK431.out⟩, ⟨by (with_reducible repeat (first | refine blk_drewN ?_ _ | refine blk_drew ?_ | refine blk_alloc ?_ _)); refine blk_far ?_ NB432_434.out _; (with_reducible repeat (first | refine blk_drewN ?_ _ | refine blk_drew ?_ | refine blk_alloc ?_ _)); refine blk_far ?_ NB432_434.out _; (with_reducible repeat (first | refine blk_drewN ?_ _ | refine blk_drew ?_ | refine blk_alloc ?_ _)); refine blk_far ?_ NB432_434.out _; (with_reducible repeat (first | refine blk_drewN ?_ _ | refine blk_drew ?_ | refine blk_alloc ?_ _)); refine blk_far ?_ NB432_434.out _; (with_reducible repeat (first | refine blk_drewN ?_ _ | refine blk_drew ?_ | refine blk_alloc ?_ _)); refine blk_far ?_ NB432_434.out _; (with_reducible repeat (first | refine blk_drewN ?_ _ | refine blk_drew ?_ | refine blk_alloc ?_ _)); exact BK432.out⟩, ⟨by (with_reducible repeat (first | refine blk_drewN ?_ _ | refine blk_drew ?_ | refine blk_alloc ?_ _)); refine blk_put (cs := #[.int .i64 ((rd_T31 l0_1 x4_1).f0), .int .i64 ((rd_T31 l0_1 x4_1).f1), .int .i64 ((rd_T31 l0_1 x4_1).f2), .int .i64 ((rd_T31 l0_1 x4_1).f3), .int .i64 0]) ?_ 4 _ rfl; (with_reducible repeat (first | refine blk_drewN ?_ _ | refine blk_drew ?_ | refine blk_alloc ?_ _)); refine blk_put (cs := #[.int .i64 ((rd_T31 l0_1 x4_1).f0), .int .i64 ((rd_T31 l0_1 x4_1).f1), .int .i64 ((rd_T31 l0_1 x4_1).f2), .int .i64 0, .int .i64 0]) ?_ 3 _ rfl; (with_reducible repeat (first | refine blk_drewN ?_ _ | refine blk_drew ?_ | refine blk_alloc ?_ _)); refine blk_put (cs := #[.int .i64 ((rd_T31 l0_1 x4_1).f0), .int .i64 ((rd_T31 l0_1 x4_1).f1), .int .i64 0, .int .i64 0, .int .i64 0]) ?_ 2 _ rfl; (with_reducible repeat (first | refine blk_drewN ?_ _ | refine blk_drew ?_ | refine blk_alloc ?_ _)); refine blk_put (cs := #[.int .i64 ((rd_T31 l0_1 x4_1).f0), .int .i64 0, .int .i64 0, .int .i64 0, .int .i64 0]) ?_ 1 _ rfl; (with_reducible repeat (first | refine blk_drewN ?_ _ | refine blk_drew ?_ | refine blk_alloc ?_ _)); refine blk_put (cs := #[.int .i64 0, .int .i64 0, .int .i64 0, .int .i64 0, .int .i64 0]) ?_ 0 _ rfl; (with_reducible repeat (first | refine blk_drewN ?_ _ | refine blk_drew ?_ | refine blk_alloc ?_ _)); exact BK434.out⟩, ⟨bl4 HB GE430 GE431 GE432 GE434⟩⟩
     case round =>
      clear H'
      try clear c1
      try clear p2
      try clear c4
      try clear p4
      try clear q4
      try clear hx4
      try clear c7
      try clear c8
      try clear c10
      try clear c10b0
      try clear c11
      try clear c11b0
      try clear c12
      try clear c13
      try clear c16
      try clear c17
      try clear c18
      try clear hcz14_0
      try clear hcz14_1
      try clear hcz14_2
      try clear hcz19_0
      try clear hcz19_1
      try clear hcz19_2
      try clear hcz19_3
      try clear hcz19_4
      try clear hcz5_0
      try clear hcz5_1
      try clear hcz5_2
      try clear hcz9_0
      try clear hcz9_1
      try clear hfz14_0
      try clear hfz14_1
      try clear hfz14_2
      try clear hfz19_0
      try clear hfz19_1
      try clear hfz19_2
      try clear hfz19_3
      try clear hfz19_4
      try clear hfz5_0
      try clear hfz5_1
      try clear hfz5_2
      try clear hfz9_0
      try clear hfz9_1
      try clear hx433_0
      try clear hx433_1
      try clear hx433_2
      try clear hx433_3
      try clear hx433_4
      try clear p2
      try clear p433
      try clear q433
      obtain ⟨x6_2, x7_2, x435002_2, rfl, rfl, HA, HK2, HO_433001, BK430, BK431, BK432, BK434, HB⟩ := hrel
      cases gk with
      | zero => exact absurd HA.out (by simp [spec_l16Now.l1])
      | succ k2 =>
       have H := HA.out
       clear HA
       simp only [spec_l16Now.l1] at H
       by_cases c20 : x7_2 < (l0_2.length : Int)
       ·rw [if_pos c20] at H
        have c20b0 : decide (x7_2 < (l0_2.length : Int)) = true := decide_eq_true c20
        clear c20
        have HC21 := Aside0.mk H
        clear H
        have hnb22 := NB430_431.out
        have hnc22 := NB431_430.out
        have hnb23 := NB430_432.out
        have hnc23 := NB432_430.out
        have hnb24 := NB430_434.out
        have hnc24 := NB434_430.out
        have hcz25_0 : wr.cell? ⟨gb430, 0, none⟩ = some (.int .i64 a0_0) := (blk_cell BK430.out 0).trans rfl
        have hcz25_1 : wr.cell? ⟨gb430, 1, none⟩ = some (.slice (some ad433) l0_1.length c0_1) := (blk_cell BK430.out 1).trans rfl
        have hcz25_2 : wr.cell? ⟨gb430, 2, none⟩ = some (.slice A0_2 l0_2.length c0_2) := (blk_cell BK430.out 2).trans rfl
        have hfz25_0 := blk_frozen BK430.out 0
        have hfz25_1 := blk_frozen BK430.out 1
        have hfz25_2 := blk_frozen BK430.out 2
        go_upto_region 10 with (fail)
        go_cut [49] (fun v49 wc => ∃ (kq : Nat) (x49_20 : Bool), v49 = .bool x49_20 ∧ Aside0 (spec_l16Now.j2 kq x4_1 x6_2 x7_2 x49_20 a0_0 l0_1 l0_2 a0_0 x433001_1 ((rd_T31 l0_1 x4_1).f0) ((rd_T31 l0_1 x4_1).f1) x435002_2 ((rd_T31 l0_1 x4_1).f3) ((rd_T31 l0_1 x4_1).f4) = some (r1, r2)) ∧ Aside0 (kq ≤ k2) ∧ Aside0 (Kd.R k31 31 wc w.heap.size (fun k_ => k_ ≠ gb434) u433001 x433001_1) ∧ Aside0 (wc.heap[gb430]? = some (.cells #[.int .i64 a0_0, (.slice (some ad433) l0_1.length c0_1), (.slice A0_2 l0_2.length c0_2)] 57 (0, 0))) ∧ Aside0 (wc.heap[gb431]? = some (.cells #[.int .i64 0, (.slice none 0 0)] 25 (0, 0))) ∧ Aside0 (wc.heap[gb432]? = some (.cells #[.int .i64 a0_0, u433001] 25 (0, 0))) ∧ Aside0 (wc.heap[gb434]? = some (.cells #[.int .i64 ((rd_T31 l0_1 x4_1).f0), .int .i64 ((rd_T31 l0_1 x4_1).f1), .int .i64 x435002_2, .int .i64 ((rd_T31 l0_1 x4_1).f3), .int .i64 ((rd_T31 l0_1 x4_1).f4)] 31 (0, 0))) ∧ Aside0 (Below w.heap.size w wc))
        case first =>
         have H := HC21.out
         clear HC21
         by_cases c26 : 0 ≤ x7_2
         ·rw [if_pos c26] at H
          have c26b0 : decide (0 ≤ x7_2) = true := decide_eq_true c26
          clear c26
          (first | rw [c26b0] | (simp only [i64_w, i32_w]; rw [c26b0]) | skip)
          by_cases c27 : ((rd_T64 l0_2 x7_2).f1) = x4_1
          ·rw [if_pos c27] at H
           have c27b0 : (((rd_T64 l0_2 x7_2).f1) == x4_1) = true := beq_iff_eq.mpr c27
           have c27b1 : (((rd_T64 l0_2 x7_2).f1) != x4_1) = false := bne_eq_false_iff_eq.mpr c27
           clear c27
           have H' := Aside0.mk H
           clear H
           have hnb28 := NB430_431.out
           have hnc28 := NB431_430.out
           have hnb29 := NB430_432.out
           have hnc29 := NB432_430.out
           have hnb30 := NB430_434.out
           have hnc30 := NB434_430.out
           have hcz31_0 : wr.cell? ⟨gb430, 0, none⟩ = some (.int .i64 a0_0) := (blk_cell BK430.out 0).trans rfl
           have hcz31_1 : wr.cell? ⟨gb430, 1, none⟩ = some (.slice (some ad433) l0_1.length c0_1) := (blk_cell BK430.out 1).trans rfl
           have hcz31_2 : wr.cell? ⟨gb430, 2, none⟩ = some (.slice A0_2 l0_2.length c0_2) := (blk_cell BK430.out 2).trans rfl
           have hfz31_0 := blk_frozen BK430.out 0
           have hfz31_1 := blk_frozen BK430.out 1
           have hfz31_2 := blk_frozen BK430.out 2
           have p435 : 0 ≤ (x7_2 : Int) := oT (by first | (with_reducible assumption) | assumption)
           have q435 : x7_2 < (l0_2.length : Int) := oT (by first | (with_reducible assumption) | assumption)
           obtain ⟨ad435, e435, hx435_0, hx435_1, hx435_2⟩ := at_T64 HR0_2.out x7_2 p435 q435
           cases e435
           replace hx435_0 := (HB.out.cell (World.block_lt_of_cell? w _ hx435_0)).trans hx435_0
           replace hx435_1 := (HB.out.cell (World.block_lt_of_cell? w _ hx435_1)).trans hx435_1
           replace hx435_2 := (HB.out.cell (World.block_lt_of_cell? w _ hx435_2)).trans hx435_2
           replace p435 := eq_true p435
           replace q435 := eq_true q435
           have p436 : 0 ≤ (x7_2 : Int) := oT (by first | (with_reducible assumption) | assumption)
           have q436 : x7_2 < (l0_2.length : Int) := oT (by first | (with_reducible assumption) | assumption)
           obtain ⟨ad436, e436, hx436_0, hx436_1, hx436_2⟩ := at_T64 HR0_2.out x7_2 p436 q436
           obtain rfl : ad435 = ad436 := (by injection e436)
           replace hx436_0 := (HB.out.cell (World.block_lt_of_cell? w _ hx436_0)).trans hx436_0
           replace hx436_1 := (HB.out.cell (World.block_lt_of_cell? w _ hx436_1)).trans hx436_1
           replace hx436_2 := (HB.out.cell (World.block_lt_of_cell? w _ hx436_2)).trans hx436_2
           replace p436 := eq_true p436
           replace q436 := eq_true q436
           go_wp2
           go_meet
           case rel => exact ⟨_, (decide (((rd_T64 l0_2 x7_2).f2) < 0)), (by first | rfl | (simp; done) | (simp [*]; done)), H', ⟨by have := HK1.out; have := HK2.out; first | omega | exact Nat.le_refl _⟩, ⟨rk HO_433001⟩, ⟨bk BK430⟩, ⟨bk BK431⟩, ⟨bk BK432⟩, ⟨bk BK434⟩, ⟨bl4 HB GE430 GE431 GE432 GE434⟩⟩
          ·rw [if_neg c27] at H
           have c27b0 : (((rd_T64 l0_2 x7_2).f1) == x4_1) = false := beq_eq_false_iff_ne.mpr c27
           have c27b1 : (((rd_T64 l0_2 x7_2).f1) != x4_1) = true := bne_iff_ne.mpr c27
           have H' := Aside0.mk H
           clear H
           have hnb32 := NB430_431.out
           have hnc32 := NB431_430.out
           have hnb33 := NB430_432.out
           have hnc33 := NB432_430.out
           have hnb34 := NB430_434.out
           have hnc34 := NB434_430.out
           have hcz35_0 : wr.cell? ⟨gb430, 0, none⟩ = some (.int .i64 a0_0) := (blk_cell BK430.out 0).trans rfl
           have hcz35_1 : wr.cell? ⟨gb430, 1, none⟩ = some (.slice (some ad433) l0_1.length c0_1) := (blk_cell BK430.out 1).trans rfl
           have hcz35_2 : wr.cell? ⟨gb430, 2, none⟩ = some (.slice A0_2 l0_2.length c0_2) := (blk_cell BK430.out 2).trans rfl
           have hfz35_0 := blk_frozen BK430.out 0
           have hfz35_1 := blk_frozen BK430.out 1
           have hfz35_2 := blk_frozen BK430.out 2
           have p435 : 0 ≤ (x7_2 : Int) := oT (by first | (with_reducible assumption) | assumption)
           have q435 : x7_2 < (l0_2.length : Int) := oT (by first | (with_reducible assumption) | assumption)
           obtain ⟨ad435, e435, hx435_0, hx435_1, hx435_2⟩ := at_T64 HR0_2.out x7_2 p435 q435
           cases e435
           replace hx435_0 := (HB.out.cell (World.block_lt_of_cell? w _ hx435_0)).trans hx435_0
           replace hx435_1 := (HB.out.cell (World.block_lt_of_cell? w _ hx435_1)).trans hx435_1
           replace hx435_2 := (HB.out.cell (World.block_lt_of_cell? w _ hx435_2)).trans hx435_2
           replace p435 := eq_true p435
           replace q435 := eq_true q435
           go_wp2
           go_meet
           case rel => exact ⟨_, (false), (by first | rfl | (simp; done) | (simp [*]; done)), H', ⟨by have := HK1.out; have := HK2.out; first | omega | exact Nat.le_refl _⟩, ⟨rk HO_433001⟩, ⟨bk BK430⟩, ⟨bk BK431⟩, ⟨bk BK432⟩, ⟨bk BK434⟩, ⟨bl4 HB GE430 GE431 GE432 GE434⟩⟩
         ·rw [if_neg c26] at H
          exact absurd H (by simp)
        case rest =>
         clear HC21
         try clear c1
         try clear c2
         try clear p2
         try clear c3
         try clear c4
         try clear p4
         try clear q4
         try clear hx4
         try clear c7
         try clear c8
         try clear c10
         try clear c10b0
         try clear c11
         try clear c11b0
         try clear c12
         try clear c13
         try clear c16
         try clear c17
         try clear c18
         try clear c20
         try clear c20b0
         try clear c22
         try clear c23
         try clear c24
         try clear c26
         try clear c26b0
         try clear c27
         try clear c27b0
         try clear c27b1
         try clear c28
         try clear c29
         try clear c30
         try clear c32
         try clear c33
         try clear c34
         try clear hcz14_0
         try clear hcz14_1
         try clear hcz14_2
         try clear hcz19_0
         try clear hcz19_1
         try clear hcz19_2
         try clear hcz19_3
         try clear hcz19_4
         try clear hcz25_0
         try clear hcz25_1
         try clear hcz25_2
         try clear hcz31_0
         try clear hcz31_1
         try clear hcz31_2
         try clear hcz35_0
         try clear hcz35_1
         try clear hcz35_2
         try clear hcz5_0
         try clear hcz5_1
         try clear hcz5_2
         try clear hcz9_0
         try clear hcz9_1
         try clear hfz14_0
         try clear hfz14_1
         try clear hfz14_2
         try clear hfz19_0
         try clear hfz19_1
         try clear hfz19_2
         try clear hfz19_3
         try clear hfz19_4
         try clear hfz25_0
         try clear hfz25_1
         try clear hfz25_2
         try clear hfz31_0
         try clear hfz31_1
         try clear hfz31_2
         try clear hfz35_0
         try clear hfz35_1
         try clear hfz35_2
         try clear hfz5_0
         try clear hfz5_1
         try clear hfz5_2
         try clear hfz9_0
         try clear hfz9_1
         try clear hx433_0
         try clear hx433_1
         try clear hx433_2
         try clear hx433_3
         try clear hx433_4
         try clear hx435_0
         try clear hx435_1
         try clear hx435_2
         try clear hx436_0
         try clear hx436_1
         try clear hx436_2
         try clear p2
         try clear p4
         try clear p433
         try clear p435
         try clear p436
         try clear q4
         try clear q433
         try clear q435
         try clear q436
         obtain ⟨kq, x49_20, rfl, HA, HJ20, HO_433001, BK430, BK431, BK432, BK434, HB⟩ := hcut
         cases kq with
         | zero => exact absurd HA.out (by simp [spec_l16Now.j2])
         | succ kj20 =>
          have H := HA.out
          clear HA
          simp only [spec_l16Now.j2] at H
          by_cases c36 : x49_20 = true
          ·subst c36
           rw [if_pos rfl] at H
           have H' := Aside0.mk H
           clear H
           go_wp2
           go_roundg kj20
           case measure => have := HK1.out; have := HK2.out; have := HJ20.out; omega
           case rel => exact ⟨(true), (wrap64 (x7_2 + 1)), (x435002_2), (by first | rfl | (simp; done) | (simp [*]; done)), (by first | rfl | (simp; done) | (simp [*]; done)), H', ⟨by have := HK1.out; have := HK2.out; have := HJ20.out; omega⟩, ⟨rk HO_433001⟩, ⟨bk BK430⟩, ⟨bk BK431⟩, ⟨bk BK432⟩, ⟨bk BK434⟩, ⟨bl4 HB GE430 GE431 GE432 GE434⟩⟩
          ·replace c36 := Bool.eq_false_iff.mpr c36
           subst c36
           rw [if_neg (show ¬ (false = true) by decide)] at H
           by_cases c37 : 0 ≤ x7_2
           ·rw [if_pos c37] at H
            have c37b0 : decide (0 ≤ x7_2) = true := decide_eq_true c37
            clear c37
            by_cases c38 : x7_2 < (l0_2.length : Int)
            ·rw [if_pos c38] at H
             have c38b0 : decide (x7_2 < (l0_2.length : Int)) = true := decide_eq_true c38
             clear c38
             by_cases c39 : ((rd_T64 l0_2 x7_2).f1) = x4_1
             ·rw [if_pos c39] at H
              have c39b0 : (((rd_T64 l0_2 x7_2).f1) == x4_1) = true := beq_iff_eq.mpr c39
              have c39b1 : (((rd_T64 l0_2 x7_2).f1) != x4_1) = false := bne_eq_false_iff_eq.mpr c39
              clear c39
              have H' := Aside0.mk H
              clear H
              have hnb40 := NB430_431.out
              have hnc40 := NB431_430.out
              have hnb41 := NB430_432.out
              have hnc41 := NB432_430.out
              have hnb42 := NB430_434.out
              have hnc42 := NB434_430.out
              have hcz43_0 : wc.cell? ⟨gb430, 0, none⟩ = some (.int .i64 a0_0) := (blk_cell BK430.out 0).trans rfl
              have hcz43_1 : wc.cell? ⟨gb430, 1, none⟩ = some (.slice (some ad433) l0_1.length c0_1) := (blk_cell BK430.out 1).trans rfl
              have hcz43_2 : wc.cell? ⟨gb430, 2, none⟩ = some (.slice A0_2 l0_2.length c0_2) := (blk_cell BK430.out 2).trans rfl
              have hfz43_0 := blk_frozen BK430.out 0
              have hfz43_1 := blk_frozen BK430.out 1
              have hfz43_2 := blk_frozen BK430.out 2
              have p437 : 0 ≤ (x7_2 : Int) := oT (by first | (with_reducible assumption) | assumption)
              have q437 : x7_2 < (l0_2.length : Int) := oT (by first | (with_reducible assumption) | assumption)
              obtain ⟨ad437, e437, hx437_0, hx437_1, hx437_2⟩ := at_T64 HR0_2.out x7_2 p437 q437
              cases e437
              replace hx437_0 := (HB.out.cell (World.block_lt_of_cell? w _ hx437_0)).trans hx437_0
              replace hx437_1 := (HB.out.cell (World.block_lt_of_cell? w _ hx437_1)).trans hx437_1
              replace hx437_2 := (HB.out.cell (World.block_lt_of_cell? w _ hx437_2)).trans hx437_2
              replace p437 := eq_true p437
              replace q437 := eq_true q437
              try go_wp2
              have n0_ := Aside0.mk (Kd.R_drew HO_433001.out)
              have n1_ := Aside0.mk (blk_drew BK430.out)
              have n2_ := Aside0.mk (blk_drew BK431.out)
              have n3_ := Aside0.mk (blk_drew BK432.out)
              have n4_ := Aside0.mk (blk_drew BK434.out)
              have n5_ := Aside0.mk (below_drew1 HB.out)
              clear HO_433001
              clear BK430
              clear BK431
              clear BK432
              clear BK434
              clear HB
              have HO_433001 := n0_
              have BK430 := n1_
              have BK431 := n2_
              have BK432 := n3_
              have BK434 := n4_
              have HB := n5_
              clear n0_ n1_ n2_ n3_ n4_ n5_
              have p438 : 0 ≤ (x7_2 : Int) := oT (by first | (with_reducible assumption) | assumption)
              have q438 : x7_2 < (l0_2.length : Int) := oT (by first | (with_reducible assumption) | assumption)
              obtain ⟨ad438, e438, hx438_0, hx438_1, hx438_2⟩ := at_T64 HR0_2.out x7_2 p438 q438
              have hw438_2 := hx438_2
              have hw438_1 := hx438_1
              have hw438_0 := hx438_0
              obtain rfl : ad437 = ad438 := (by injection e438)
              replace hx438_0 := (HB.out.cell (World.block_lt_of_cell? w _ hx438_0)).trans hx438_0
              replace hx438_1 := (HB.out.cell (World.block_lt_of_cell? w _ hx438_1)).trans hx438_1
              replace hx438_2 := (HB.out.cell (World.block_lt_of_cell? w _ hx438_2)).trans hx438_2
              replace p438 := eq_true p438
              replace q438 := eq_true q438
              refine start_ (n := 11) (S := fun w' => w'.cell? ⟨gb434, 0, none⟩ = some (.int .i64 ((rd_T31 l0_1 x4_1).f0)) ∧ w'.cell? ⟨gb434, 1, none⟩ = some (.int .i64 ((rd_T31 l0_1 x4_1).f1)) ∧ w'.cell? ⟨gb434, 2, none⟩ = some (.int .i64 x435002_2) ∧ w'.cell? ⟨gb434, 3, none⟩ = some (.int .i64 ((rd_T31 l0_1 x4_1).f3)) ∧ w'.cell? ⟨gb434, 4, none⟩ = some (.int .i64 ((rd_T31 l0_1 x4_1).f4)) ∧ w'.cell? ⟨gb430, 0, none⟩ = some (.int .i64 a0_0) ∧ w'.cell? ⟨gb430, 1, none⟩ = some (.slice (some ad433) l0_1.length c0_1) ∧ w'.cell? ⟨gb430, 2, none⟩ = some (.slice (some ad437) l0_2.length c0_2) ∧ w'.cell? (ad437.add ((x7_2).toNat * 3)) = some (.int .i64 ((rd_T64 l0_2 x7_2).f0)) ∧ w'.cell? ⟨(ad437.add ((x7_2).toNat * 3)).block, (ad437.add ((x7_2).toNat * 3)).off + 1, none⟩ = some (.int .i64 ((rd_T64 l0_2 x7_2).f1)) ∧ w'.cell? ⟨(ad437.add ((x7_2).toNat * 3)).block, (ad437.add ((x7_2).toNat * 3)).off + 2, none⟩ = some (.int .i64 ((rd_T64 l0_2 x7_2).f2))) (ds := [10]) (ms 11 0) (by kernel_rfl) rfl (by kernel_rfl) ⟨(blk_cell BK434.out 0).trans rfl, (blk_cell BK434.out 1).trans rfl, (blk_cell BK434.out 2).trans rfl, (blk_cell BK434.out 3).trans rfl, (blk_cell BK434.out 4).trans rfl, (blk_cell BK430.out 0).trans rfl, (blk_cell BK430.out 1).trans rfl, (blk_cell BK430.out 2).trans rfl, ((HB.out.cell (World.block_lt_of_cell? w _ hw438_0)).trans hw438_0), ((HB.out.cell (World.block_lt_of_cell? w _ hw438_1)).trans hw438_1), ((HB.out.cell (World.block_lt_of_cell? w _ hw438_2)).trans hw438_2)⟩ (fun hHeld => ?_); refine with_tabW spec_l16Now.tab13 spec_l16Now.bits13 (fun HT_ HW_ => ?_)
              generalize wc.drew = w44 at HO_433001 BK430 BK431 BK432 BK434 HB hx438_0 hx438_1 hx438_2 hHeld ⊢
              refine pure_ (i := 0) (N := some 58) (v := ?_) (a' := ?_) (ms 11 1) rfl rfl (any_of HT_.out (by kernel_rfl)) (fun _ _ _ h => h) (Or.inl ⟨by rfl, ?_⟩) ?_ ?_
              rotate_left
              ·intro w'
               go_simp
               with_reducible rfl
              rotate_left
              ·simp only [Act.put, sA, sB, sC, i64_w, i32_w]
               rfl
              refine pure_ (i := 2) (N := some 60) (v := ?_) (a' := ?_) (ms 11 5) rfl rfl (any_of HT_.out (by kernel_rfl)) (fun _ _ _ h => h) (Or.inl ⟨by rfl, ?_⟩) ?_ ?_
              rotate_left
              ·intro w'
               go_simp
               with_reducible rfl
              rotate_left
              ·simp only [Act.put, sA, sB, sC, i64_w, i32_w]
               rfl
              refine pure_ (i := 4) (N := some 62) (v := ?_) (a' := ?_) (ms 11 21) rfl rfl (any_of HT_.out (by kernel_rfl)) (fun _ _ _ h => h) (Or.inl ⟨by rfl, ?_⟩) ?_ ?_
              rotate_left
              ·intro w'
               go_simp
               with_reducible rfl
              rotate_left
              ·simp only [Act.put, sA, sB, sC, i64_w, i32_w]
               rfl
              refine take_ (i := 1) (N := some 59) (v := ?_) (a' := ?_) (ms 11 23) rfl rfl (take_ofW HT_.out HW_.out (by kernel_rfl)) (fun _ _ _ h => h) (Or.inl ⟨by rfl, ?_⟩) hHeld ?_ ?_
              rotate_left
              ·rintro w' ⟨s0, s1, s2, s3, s4, s5, s6, s7, s8, s9, s10⟩
               go_simp
               with_reducible rfl
              rotate_left
              ·simp only [Act.put, sA, sB, sC, i64_w, i32_w]
               rfl
              refine take_ (i := 3) (N := some 61) (v := ?_) (a' := ?_) (ms 11 31) rfl rfl (take_ofW HT_.out HW_.out (by kernel_rfl)) (fun _ _ _ h => h) (Or.inl ⟨by rfl, ?_⟩) hHeld ?_ ?_
              rotate_left
              ·rintro w' ⟨s0, s1, s2, s3, s4, s5, s6, s7, s8, s9, s10⟩
               go_simp
               with_reducible rfl
              rotate_left
              ·simp only [Act.put, sA, sB, sC, i64_w, i32_w]
               rfl
              refine pure_ (i := 5) (N := some 63) (v := ?_) (a' := ?_) (ms 11 63) rfl rfl (any_of HT_.out (by kernel_rfl)) (fun _ _ _ h => h) (Or.inl ⟨by rfl, ?_⟩) ?_ ?_
              rotate_left
              ·intro w'
               go_simp
               with_reducible rfl
              rotate_left
              ·simp only [Act.put, sA, sB, sC, i64_w, i32_w]
               rfl
              refine pure_ (i := 6) (N := some 64) (v := ?_) (a' := ?_) (ms 11 127) rfl rfl (any_of HT_.out (by kernel_rfl)) (fun _ _ _ h => h) (Or.inl ⟨by rfl, ?_⟩) ?_ ?_
              rotate_left
              ·intro w'
               go_simp
               with_reducible rfl
              rotate_left
              ·simp only [Act.put, sA, sB, sC, i64_w, i32_w]
               rfl
              refine take_ (i := 7) (N := some 65) (v := ?_) (a' := ?_) (ms 11 255) rfl rfl (take_ofW HT_.out HW_.out (by kernel_rfl)) (fun _ _ _ h => h) (Or.inl ⟨by rfl, ?_⟩) hHeld ?_ ?_
              rotate_left
              ·rintro w' ⟨s0, s1, s2, s3, s4, s5, s6, s7, s8, s9, s10⟩
               go_simp
               with_reducible rfl
              rotate_left
              ·simp only [Act.put, sA, sB, sC, i64_w, i32_w]
               rfl
              refine pure_ (i := 8) (N := some 66) (v := ?_) (a' := ?_) (ms 11 511) rfl rfl (any_of HT_.out (by kernel_rfl)) (fun _ _ _ h => h) (Or.inl ⟨by rfl, ?_⟩) ?_ ?_
              rotate_left
              ·intro w'
               go_simp
               with_reducible rfl
              rotate_left
              ·simp only [Act.put, sA, sB, sC, i64_w, i32_w]
               rfl
              refine pure_ (i := 9) (N := some 67) (v := ?_) (a' := ?_) (ms 11 1023) rfl rfl (any_of HT_.out (by kernel_rfl)) (fun _ _ _ h => h) (Or.inl ⟨by rfl, ?_⟩) ?_ ?_
              rotate_left
              ·intro w'
               go_simp
               with_reducible rfl
              rotate_left
              ·simp only [Act.put, sA, sB, sC, i64_w, i32_w]
               rfl
              refine last_ (i := 10) (N := none) (ms 11 2047) rfl rfl (one_of HT_.out (by kernel_rfl)) (by decide) (fun K hK => ?_)
              have hs45 : w44.cell? ⟨gb434, 2, none⟩ = some (.int .i64 x435002_2) := (blk_cell BK434.out 2).trans rfl
              have hfs45 := blk_frozen BK434.out 2
              have hns45_0 := NB430_434.out
              have hns45_1 := NB431_434.out
              have hns45_2 := NB432_434.out
              have hms45_0 := NB434_430.out
              have hms45_1 := NB434_431.out
              have hms45_2 := NB434_432.out
              refine skip_ (w1 := ?_) (by rfl) rfl ?_ ?_
              rotate_left
              ·go_simp
               rfl
              refine hK.out _ _ ?_
              clear hK K
              refine done_ (done_of HT_.out (by kernel_rfl)) ?_
              try go_wp2
              go_roundg kj20
              case measure => have := HK1.out; have := HK2.out; have := HJ20.out; omega
              case rel => exact ⟨(x6_2), (wrap64 (x7_2 + 1)), (wrap64 (x435002_2 + ((rd_T64 l0_2 x7_2).f2))), (by first | rfl | (simp; done) | (simp [*]; done)), (by first | rfl | (simp; done) | (simp [*]; done)), H', ⟨by have := HK1.out; have := HK2.out; have := HJ20.out; omega⟩, ⟨by (with_reducible repeat (first | apply Kd.R_alloc | apply Kd.R_drewN | apply Kd.R_drew)); exact Kd.R_mono (Kd.R_far (p := ⟨gb434, 2, none⟩) (Kd.R_mono HO_433001.out (fun k_ hk => (⟨hk, hk⟩ : _ ∧ k_ ≠ gb434))) (fun _ hk => hk.2) (.int .i64 (wrap64 (x435002_2 + ((rd_T64 l0_2 x7_2).f2))))) (fun _ hk => hk.1)⟩, ⟨by (with_reducible repeat (first | refine blk_drewN ?_ _ | refine blk_drew ?_ | refine blk_alloc ?_ _)); refine blk_far ?_ NB430_434.out _; (with_reducible repeat (first | refine blk_drewN ?_ _ | refine blk_drew ?_ | refine blk_alloc ?_ _)); exact BK430.out⟩, ⟨by (with_reducible repeat (first | refine blk_drewN ?_ _ | refine blk_drew ?_ | refine blk_alloc ?_ _)); refine blk_far ?_ NB431_434.out _; (with_reducible repeat (first | refine blk_drewN ?_ _ | refine blk_drew ?_ | refine blk_alloc ?_ _)); exact BK431.out⟩, ⟨by (with_reducible repeat (first | refine blk_drewN ?_ _ | refine blk_drew ?_ | refine blk_alloc ?_ _)); refine blk_far ?_ NB432_434.out _; (with_reducible repeat (first | refine blk_drewN ?_ _ | refine blk_drew ?_ | refine blk_alloc ?_ _)); exact BK432.out⟩, ⟨by (with_reducible repeat (first | refine blk_drewN ?_ _ | refine blk_drew ?_ | refine blk_alloc ?_ _)); refine blk_put (cs := #[.int .i64 ((rd_T31 l0_1 x4_1).f0), .int .i64 ((rd_T31 l0_1 x4_1).f1), .int .i64 x435002_2, .int .i64 ((rd_T31 l0_1 x4_1).f3), .int .i64 ((rd_T31 l0_1 x4_1).f4)]) ?_ 2 _ rfl; (with_reducible repeat (first | refine blk_drewN ?_ _ | refine blk_drew ?_ | refine blk_alloc ?_ _)); exact BK434.out⟩, ⟨bl4 HB GE430 GE431 GE432 GE434⟩⟩
             ·rw [if_neg c39] at H
              have c39b0 : (((rd_T64 l0_2 x7_2).f1) == x4_1) = false := beq_eq_false_iff_ne.mpr c39
              have c39b1 : (((rd_T64 l0_2 x7_2).f1) != x4_1) = true := bne_iff_ne.mpr c39
              have H' := Aside0.mk H
              clear H
              have hnb46 := NB430_431.out
              have hnc46 := NB431_430.out
              have hnb47 := NB430_432.out
              have hnc47 := NB432_430.out
              have hnb48 := NB430_434.out
              have hnc48 := NB434_430.out
              have hcz49_0 : wc.cell? ⟨gb430, 0, none⟩ = some (.int .i64 a0_0) := (blk_cell BK430.out 0).trans rfl
              have hcz49_1 : wc.cell? ⟨gb430, 1, none⟩ = some (.slice (some ad433) l0_1.length c0_1) := (blk_cell BK430.out 1).trans rfl
              have hcz49_2 : wc.cell? ⟨gb430, 2, none⟩ = some (.slice A0_2 l0_2.length c0_2) := (blk_cell BK430.out 2).trans rfl
              have hfz49_0 := blk_frozen BK430.out 0
              have hfz49_1 := blk_frozen BK430.out 1
              have hfz49_2 := blk_frozen BK430.out 2
              have p437 : 0 ≤ (x7_2 : Int) := oT (by first | (with_reducible assumption) | assumption)
              have q437 : x7_2 < (l0_2.length : Int) := oT (by first | (with_reducible assumption) | assumption)
              obtain ⟨ad437, e437, hx437_0, hx437_1, hx437_2⟩ := at_T64 HR0_2.out x7_2 p437 q437
              cases e437
              replace hx437_0 := (HB.out.cell (World.block_lt_of_cell? w _ hx437_0)).trans hx437_0
              replace hx437_1 := (HB.out.cell (World.block_lt_of_cell? w _ hx437_1)).trans hx437_1
              replace hx437_2 := (HB.out.cell (World.block_lt_of_cell? w _ hx437_2)).trans hx437_2
              replace p437 := eq_true p437
              replace q437 := eq_true q437
              go_wp2
              go_roundg kj20
              case measure => have := HK1.out; have := HK2.out; have := HJ20.out; omega
              case rel => exact ⟨(x6_2), (wrap64 (x7_2 + 1)), (x435002_2), (by first | rfl | (simp; done) | (simp [*]; done)), (by first | rfl | (simp; done) | (simp [*]; done)), H', ⟨by have := HK1.out; have := HK2.out; have := HJ20.out; omega⟩, ⟨rk HO_433001⟩, ⟨bk BK430⟩, ⟨bk BK431⟩, ⟨bk BK432⟩, ⟨bk BK434⟩, ⟨bl4 HB GE430 GE431 GE432 GE434⟩⟩
            ·rw [if_neg c38] at H
             exact absurd H (by simp)
           ·rw [if_neg c37] at H
            exact absurd H (by simp)
       ·rw [if_neg c20] at H
        have c20b0 : decide (x7_2 < (l0_2.length : Int)) = false := decide_eq_false c20
        clear c20
        by_cases c50 : x435002_2 > 99
        ·rw [if_pos c50] at H
         have c50b0 : decide (99 < x435002_2) = true := decide_eq_true c50
         clear c50
         by_cases c51 : x6_2 = true
         ·subst c51
          rw [if_pos rfl] at H
          have H' := Aside0.mk H
          clear H
          have hnb52 := NB430_431.out
          have hnc52 := NB431_430.out
          have hnb53 := NB430_432.out
          have hnc53 := NB432_430.out
          have hnb54 := NB430_434.out
          have hnc54 := NB434_430.out
          have hcz55_0 : wr.cell? ⟨gb430, 0, none⟩ = some (.int .i64 a0_0) := (blk_cell BK430.out 0).trans rfl
          have hcz55_1 : wr.cell? ⟨gb430, 1, none⟩ = some (.slice (some ad433) l0_1.length c0_1) := (blk_cell BK430.out 1).trans rfl
          have hcz55_2 : wr.cell? ⟨gb430, 2, none⟩ = some (.slice A0_2 l0_2.length c0_2) := (blk_cell BK430.out 2).trans rfl
          have hfz55_0 := blk_frozen BK430.out 0
          have hfz55_1 := blk_frozen BK430.out 1
          have hfz55_2 := blk_frozen BK430.out 2
          have hnb56 := NB434_431.out
          have hnc56 := NB431_434.out
          have hnb57 := NB434_432.out
          have hnc57 := NB432_434.out
          have hcz58_0 : wr.cell? ⟨gb434, 0, none⟩ = some (.int .i64 ((rd_T31 l0_1 x4_1).f0)) := (blk_cell BK434.out 0).trans rfl
          have hcz58_1 : wr.cell? ⟨gb434, 1, none⟩ = some (.int .i64 ((rd_T31 l0_1 x4_1).f1)) := (blk_cell BK434.out 1).trans rfl
          have hcz58_2 : wr.cell? ⟨gb434, 2, none⟩ = some (.int .i64 x435002_2) := (blk_cell BK434.out 2).trans rfl
          have hcz58_3 : wr.cell? ⟨gb434, 3, none⟩ = some (.int .i64 ((rd_T31 l0_1 x4_1).f3)) := (blk_cell BK434.out 3).trans rfl
          have hcz58_4 : wr.cell? ⟨gb434, 4, none⟩ = some (.int .i64 ((rd_T31 l0_1 x4_1).f4)) := (blk_cell BK434.out 4).trans rfl
          have hfz58_0 := blk_frozen BK434.out 0
          have hfz58_1 := blk_frozen BK434.out 1
          have hfz58_2 := blk_frozen BK434.out 2
          have hfz58_3 := blk_frozen BK434.out 3
          have hfz58_4 := blk_frozen BK434.out 4
          go_wp2
          go_roundg k2
          case measure => have := HK1.out; have := HK2.out; omega
          case rel => exact ⟨(wrap64 (x4_1 + 1)), (x433001_1), (u433001), (by first | rfl | (simp; done) | (simp [*]; done)), H', ⟨by have := HK1.out; have := HK2.out; omega⟩, ⟨by (with_reducible repeat (first | apply Kd.R_alloc | apply Kd.R_drewN | apply Kd.R_drew)); exact Kd.R_mono (Kd.R_far (p := ⟨gb434, 2, none⟩) (Kd.R_mono HO_433001.out (fun k_ hk => (⟨hk, hk⟩ : _ ∧ k_ ≠ gb434))) (fun _ hk => hk.2) (.int .i64 99)) (fun _ hk => trivial)⟩, ⟨by (with_reducible repeat (first | refine blk_drewN ?_ _ | refine blk_drew ?_ | refine blk_alloc ?_ _)); refine blk_far ?_ NB430_434.out _; (with_reducible repeat (first | refine blk_drewN ?_ _ | refine blk_drew ?_ | refine blk_alloc ?_ _)); exact BK430.out⟩, ⟨by (with_reducible repeat (first | refine blk_drewN ?_ _ | refine blk_drew ?_ | refine blk_alloc ?_ _)); refine blk_far ?_ NB431_434.out _; (with_reducible repeat (first | refine blk_drewN ?_ _ | refine blk_drew ?_ | refine blk_alloc ?_ _)); exact BK431.out⟩, ⟨by (with_reducible repeat (first | refine blk_drewN ?_ _ | refine blk_drew ?_ | refine blk_alloc ?_ _)); refine blk_far ?_ NB432_434.out _; (with_reducible repeat (first | refine blk_drewN ?_ _ | refine blk_drew ?_ | refine blk_alloc ?_ _)); exact BK432.out⟩, ⟨bl4 HB GE430 GE431 GE432 GE434⟩⟩
         ·replace c51 := Bool.eq_false_iff.mpr c51
          subst c51
          rw [if_neg (show ¬ (false = true) by decide)] at H
          by_cases c59 : x433001_1.length < 3518437208883
          ·rw [if_pos c59] at H
           have LMc59 := Aside0.mk c59
           clear c59
           obtain ⟨y439, hy439⟩ : ∃ y_ : List (S31), y_ = (x433001_1 ++ [(⟨((rd_T31 l0_1 x4_1).f0), ((rd_T31 l0_1 x4_1).f1), 99, ((rd_T31 l0_1 x4_1).f3), ((rd_T31 l0_1 x4_1).f4)⟩ : S31)]) := ⟨_, rfl⟩
           replace H : (spec_l16Now.l0 k2 (wrap64 (x4_1 + 1)) a0_0 l0_1 l0_2 a0_0 y439) = some (r1, r2) := by first | (rw [hy439]; with_reducible exact H) | (have H2_ := (Option.bind_some _ _).symm.trans H; rw [hy439]; with_reducible exact H2_) | (have H2_ := (Option.bind_some _ _).symm.trans H; with_reducible exact H2_) | with_reducible exact H | (rw [hy439]; exact H) | exact H
           have Ny439 := Aside0.mk hy439
           clear hy439
           have H' := Aside0.mk H
           clear H
           have hnb60 := NB430_431.out
           have hnc60 := NB431_430.out
           have hnb61 := NB430_432.out
           have hnc61 := NB432_430.out
           have hnb62 := NB430_434.out
           have hnc62 := NB434_430.out
           have hcz63_0 : wr.cell? ⟨gb430, 0, none⟩ = some (.int .i64 a0_0) := (blk_cell BK430.out 0).trans rfl
           have hcz63_1 : wr.cell? ⟨gb430, 1, none⟩ = some (.slice (some ad433) l0_1.length c0_1) := (blk_cell BK430.out 1).trans rfl
           have hcz63_2 : wr.cell? ⟨gb430, 2, none⟩ = some (.slice A0_2 l0_2.length c0_2) := (blk_cell BK430.out 2).trans rfl
           have hfz63_0 := blk_frozen BK430.out 0
           have hfz63_1 := blk_frozen BK430.out 1
           have hfz63_2 := blk_frozen BK430.out 2
           have hnb64 := NB434_431.out
           have hnc64 := NB431_434.out
           have hnb65 := NB434_432.out
           have hnc65 := NB432_434.out
           have hcz66_0 : wr.cell? ⟨gb434, 0, none⟩ = some (.int .i64 ((rd_T31 l0_1 x4_1).f0)) := (blk_cell BK434.out 0).trans rfl
           have hcz66_1 : wr.cell? ⟨gb434, 1, none⟩ = some (.int .i64 ((rd_T31 l0_1 x4_1).f1)) := (blk_cell BK434.out 1).trans rfl
           have hcz66_2 : wr.cell? ⟨gb434, 2, none⟩ = some (.int .i64 x435002_2) := (blk_cell BK434.out 2).trans rfl
           have hcz66_3 : wr.cell? ⟨gb434, 3, none⟩ = some (.int .i64 ((rd_T31 l0_1 x4_1).f3)) := (blk_cell BK434.out 3).trans rfl
           have hcz66_4 : wr.cell? ⟨gb434, 4, none⟩ = some (.int .i64 ((rd_T31 l0_1 x4_1).f4)) := (blk_cell BK434.out 4).trans rfl
           have hfz66_0 := blk_frozen BK434.out 0
           have hfz66_1 := blk_frozen BK434.out 1
           have hfz66_2 := blk_frozen BK434.out 2
           have hfz66_3 := blk_frozen BK434.out 3
           have hfz66_4 := blk_frozen BK434.out 4
           have hnb67 := NB432_431.out
           have hnc67 := NB431_432.out
           have hcz68_0 : wr.cell? ⟨gb432, 0, none⟩ = some (.int .i64 a0_0) := (blk_cell BK432.out 0).trans rfl
           have hcz68_1 : wr.cell? ⟨gb432, 1, none⟩ = some (u433001) := (blk_cell BK432.out 1).trans rfl
           have hfz68_0 := blk_frozen BK432.out 0
           have hfz68_1 := blk_frozen BK432.out 1
           go_wp2_with (first | ((with_reducible refine gate_builtin (b := .append) (xs := #[.tmp 75, .tmp 77]) rfl ?_); at_builtin; refine Kd.R_append k31 (w0 := w) w.heap.size rfl (.tmp 75) (.tmp 77) 23 31 (.agg #[(.int .i64 0), (.int .i64 0), (.int .i64 0), (.int .i64 0), (.int .i64 0)]) 40 rfl Try.underlying23 info31 rfl (by decide) (by omega) u433001 x433001_1 (⟨((rd_T31 l0_1 x4_1).f0), ((rd_T31 l0_1 x4_1).f1), 99, ((rd_T31 l0_1 x4_1).f3), ((rd_T31 l0_1 x4_1).f4)⟩ : S31) [.int .i64 ((rd_T31 l0_1 x4_1).f0), .int .i64 ((rd_T31 l0_1 x4_1).f1), .int .i64 99, .int .i64 ((rd_T31 l0_1 x4_1).f3), .int .i64 ((rd_T31 l0_1 x4_1).f4)] (fun k_ => k_ ≠ gb434) (fun _ => False) rfl (by first | (go_simp; done) | (go_simp; rfl)) ?aP (fun _ hk => hk.elim) ?aF ?aO ?aB ?aS ?aL ?_; (case aP => exact k31_mkM _ _ _ (⟨((rd_T31 l0_1 x4_1).f0), ((rd_T31 l0_1 x4_1).f1), 99, ((rd_T31 l0_1 x4_1).f3), ((rd_T31 l0_1 x4_1).f4)⟩ : S31)); (case aB => exact (bl4 HB GE430 GE431 GE432 GE434)); (case aF => exact (fun k_ hk => Kd.freshB (g := gb434) (o := .cells #[.int .i64 ((rd_T31 l0_1 x4_1).f0), .int .i64 ((rd_T31 l0_1 x4_1).f1), .int .i64 99, .int .i64 ((rd_T31 l0_1 x4_1).f3), .int .i64 ((rd_T31 l0_1 x4_1).f4)] 31 (0, 0)) (by (with_reducible repeat (first | refine blk_drewN ?_ _ | refine blk_drew ?_ | refine blk_alloc ?_ _)); refine blk_put (cs := #[.int .i64 ((rd_T31 l0_1 x4_1).f0), .int .i64 ((rd_T31 l0_1 x4_1).f1), .int .i64 x435002_2, .int .i64 ((rd_T31 l0_1 x4_1).f3), .int .i64 ((rd_T31 l0_1 x4_1).f4)]) ?_ 2 _ rfl; (with_reducible repeat (first | refine blk_drewN ?_ _ | refine blk_drew ?_ | refine blk_alloc ?_ _)); exact BK434.out) k_ hk)); (case aO => exact (by (with_reducible repeat (first | apply Kd.R_alloc | apply Kd.R_drewN | apply Kd.R_drew)); exact Kd.R_mono (Kd.R_far (p := ⟨gb434, 2, none⟩) (Kd.R_mono HO_433001.out (fun k_ hk => (⟨hk, hk⟩ : _ ∧ k_ ≠ gb434))) (fun _ hk => hk.2) (.int .i64 99)) (fun _ hk => hk.1))); (case aS => exact (below_size (bl4 HB GE430 GE431 GE432 GE434))); (case aL => have := LMc59.out; omega); intro v440 w69 ho hb hg hat; rw [← Ny439.out] at ho; have n0_ := Aside0.mk (blk_grown (g := gb430) (o := .cells #[.int .i64 a0_0, .slice (some ad433) l0_1.length c0_1, .slice A0_2 l0_2.length c0_2] 57 (0, 0)) (by (with_reducible repeat (first | refine blk_drewN ?_ _ | refine blk_drew ?_ | refine blk_alloc ?_ _)); refine blk_far ?_ NB430_434.out _; (with_reducible repeat (first | refine blk_drewN ?_ _ | refine blk_drew ?_ | refine blk_alloc ?_ _)); exact BK430.out) hg (Kd.R_ne HO_433001.out BK430.out (by decide))); have n1_ := Aside0.mk (blk_grown (g := gb431) (o := .cells #[.int .i64 0, .slice none 0 0] 25 (0, 0)) (by (with_reducible repeat (first | refine blk_drewN ?_ _ | refine blk_drew ?_ | refine blk_alloc ?_ _)); refine blk_far ?_ NB431_434.out _; (with_reducible repeat (first | refine blk_drewN ?_ _ | refine blk_drew ?_ | refine blk_alloc ?_ _)); exact BK431.out) hg (Kd.R_ne HO_433001.out BK431.out (by decide))); have n2_ := Aside0.mk (blk_grown (g := gb432) (o := .cells #[.int .i64 a0_0, u433001] 25 (0, 0)) (by (with_reducible repeat (first | refine blk_drewN ?_ _ | refine blk_drew ?_ | refine blk_alloc ?_ _)); refine blk_far ?_ NB432_434.out _; (with_reducible repeat (first | refine blk_drewN ?_ _ | refine blk_drew ?_ | refine blk_alloc ?_ _)); exact BK432.out) hg (Kd.R_ne HO_433001.out BK432.out (by decide))); have n3_ := Aside0.mk (blk_grown (g := gb434) (o := .cells #[.int .i64 ((rd_T31 l0_1 x4_1).f0), .int .i64 ((rd_T31 l0_1 x4_1).f1), .int .i64 99, .int .i64 ((rd_T31 l0_1 x4_1).f3), .int .i64 ((rd_T31 l0_1 x4_1).f4)] 31 (0, 0)) (by (with_reducible repeat (first | refine blk_drewN ?_ _ | refine blk_drew ?_ | refine blk_alloc ?_ _)); refine blk_put (cs := #[.int .i64 ((rd_T31 l0_1 x4_1).f0), .int .i64 ((rd_T31 l0_1 x4_1).f1), .int .i64 x435002_2, .int .i64 ((rd_T31 l0_1 x4_1).f3), .int .i64 ((rd_T31 l0_1 x4_1).f4)]) ?_ 2 _ rfl; (with_reducible repeat (first | refine blk_drewN ?_ _ | refine blk_drew ?_ | refine blk_alloc ?_ _)); exact BK434.out) hg (Kd.R_away HO_433001.out (fun _ hk => hk))); have n4_ := Aside0.mk (hb); have n5_ := Aside0.mk (ho); clear BK430; clear BK431; clear BK432; clear BK434; clear HB; clear HO_433001; have BK430 := n0_; have BK431 := n1_; have BK432 := n2_; have BK434 := n3_; have HB := n4_; have HO441 := n5_; clear n0_ n1_ n2_ n3_ n4_ n5_; clear ho hb hg hat; obtain ⟨Ao70, co70, eo70⟩ := Kd.R_slice HO441.out; subst eo70; have hcz71_0 : w69.cell? ⟨gb432, 0, none⟩ = some (.int .i64 a0_0) := (blk_cell BK432.out 0).trans rfl; have hcz71_1 : w69.cell? ⟨gb432, 1, none⟩ = some (u433001) := (blk_cell BK432.out 1).trans rfl; have hfz71_0 := blk_frozen BK432.out 0; have hfz71_1 := blk_frozen BK432.out 1))
           go_roundg k2
           case measure => have := HK1.out; have := HK2.out; omega
           case rel => exact ⟨(wrap64 (x4_1 + 1)), (y439), (.slice Ao70 y439.length co70), (by first | rfl | (simp; done) | (simp [*]; done)), H', ⟨by have := HK1.out; have := HK2.out; omega⟩, ⟨by (with_reducible repeat (first | apply Kd.R_alloc | apply Kd.R_drewN | apply Kd.R_drew)); exact Kd.R_mono (Kd.R_far (p := ⟨gb432, 1, none⟩) (Kd.R_types HO441.out BK432.out (by decide)) (fun _ hk => hk.2) (.slice Ao70 y439.length co70)) (fun _ hk => trivial)⟩, ⟨by (with_reducible repeat (first | refine blk_drewN ?_ _ | refine blk_drew ?_ | refine blk_alloc ?_ _)); refine blk_far ?_ NB430_432.out _; (with_reducible repeat (first | refine blk_drewN ?_ _ | refine blk_drew ?_ | refine blk_alloc ?_ _)); exact BK430.out⟩, ⟨by (with_reducible repeat (first | refine blk_drewN ?_ _ | refine blk_drew ?_ | refine blk_alloc ?_ _)); refine blk_far ?_ NB431_432.out _; (with_reducible repeat (first | refine blk_drewN ?_ _ | refine blk_drew ?_ | refine blk_alloc ?_ _)); exact BK431.out⟩, ⟨by (with_reducible repeat (first | refine blk_drewN ?_ _ | refine blk_drew ?_ | refine blk_alloc ?_ _)); refine blk_put (cs := #[.int .i64 a0_0, u433001]) ?_ 1 _ rfl; (with_reducible repeat (first | refine blk_drewN ?_ _ | refine blk_drew ?_ | refine blk_alloc ?_ _)); exact BK432.out⟩, ⟨bl4 HB GE430 GE431 GE432 GE434⟩⟩
          ·rw [if_neg c59] at H
           exact absurd H (by simp)
        ·rw [if_neg c50] at H
         have c50b0 : decide (99 < x435002_2) = false := decide_eq_false c50
         clear c50
         by_cases c72 : x6_2 = true
         ·subst c72
          rw [if_pos rfl] at H
          have H' := Aside0.mk H
          clear H
          have hnb73 := NB430_431.out
          have hnc73 := NB431_430.out
          have hnb74 := NB430_432.out
          have hnc74 := NB432_430.out
          have hnb75 := NB430_434.out
          have hnc75 := NB434_430.out
          have hcz76_0 : wr.cell? ⟨gb430, 0, none⟩ = some (.int .i64 a0_0) := (blk_cell BK430.out 0).trans rfl
          have hcz76_1 : wr.cell? ⟨gb430, 1, none⟩ = some (.slice (some ad433) l0_1.length c0_1) := (blk_cell BK430.out 1).trans rfl
          have hcz76_2 : wr.cell? ⟨gb430, 2, none⟩ = some (.slice A0_2 l0_2.length c0_2) := (blk_cell BK430.out 2).trans rfl
          have hfz76_0 := blk_frozen BK430.out 0
          have hfz76_1 := blk_frozen BK430.out 1
          have hfz76_2 := blk_frozen BK430.out 2
          have hnb77 := NB434_431.out
          have hnc77 := NB431_434.out
          have hnb78 := NB434_432.out
          have hnc78 := NB432_434.out
          have hcz79_0 : wr.cell? ⟨gb434, 0, none⟩ = some (.int .i64 ((rd_T31 l0_1 x4_1).f0)) := (blk_cell BK434.out 0).trans rfl
          have hcz79_1 : wr.cell? ⟨gb434, 1, none⟩ = some (.int .i64 ((rd_T31 l0_1 x4_1).f1)) := (blk_cell BK434.out 1).trans rfl
          have hcz79_2 : wr.cell? ⟨gb434, 2, none⟩ = some (.int .i64 x435002_2) := (blk_cell BK434.out 2).trans rfl
          have hcz79_3 : wr.cell? ⟨gb434, 3, none⟩ = some (.int .i64 ((rd_T31 l0_1 x4_1).f3)) := (blk_cell BK434.out 3).trans rfl
          have hcz79_4 : wr.cell? ⟨gb434, 4, none⟩ = some (.int .i64 ((rd_T31 l0_1 x4_1).f4)) := (blk_cell BK434.out 4).trans rfl
          have hfz79_0 := blk_frozen BK434.out 0
          have hfz79_1 := blk_frozen BK434.out 1
          have hfz79_2 := blk_frozen BK434.out 2
          have hfz79_3 := blk_frozen BK434.out 3
          have hfz79_4 := blk_frozen BK434.out 4
          go_wp2
          go_roundg k2
          case measure => have := HK1.out; have := HK2.out; omega
          case rel => exact ⟨(wrap64 (x4_1 + 1)), (x433001_1), (u433001), (by first | rfl | (simp; done) | (simp [*]; done)), H', ⟨by have := HK1.out; have := HK2.out; omega⟩, ⟨by (with_reducible repeat (first | apply Kd.R_alloc | apply Kd.R_drewN | apply Kd.R_drew)); exact Kd.R_mono HO_433001.out (fun _ hk => trivial)⟩, ⟨bk BK430⟩, ⟨bk BK431⟩, ⟨bk BK432⟩, ⟨bl4 HB GE430 GE431 GE432 GE434⟩⟩
         ·replace c72 := Bool.eq_false_iff.mpr c72
          subst c72
          rw [if_neg (show ¬ (false = true) by decide)] at H
          by_cases c80 : x433001_1.length < 3518437208883
          ·rw [if_pos c80] at H
           have LMc80 := Aside0.mk c80
           clear c80
           obtain ⟨y442, hy442⟩ : ∃ y_ : List (S31), y_ = (x433001_1 ++ [(⟨((rd_T31 l0_1 x4_1).f0), ((rd_T31 l0_1 x4_1).f1), x435002_2, ((rd_T31 l0_1 x4_1).f3), ((rd_T31 l0_1 x4_1).f4)⟩ : S31)]) := ⟨_, rfl⟩
           replace H : (spec_l16Now.l0 k2 (wrap64 (x4_1 + 1)) a0_0 l0_1 l0_2 a0_0 y442) = some (r1, r2) := by first | (rw [hy442]; with_reducible exact H) | (have H2_ := (Option.bind_some _ _).symm.trans H; rw [hy442]; with_reducible exact H2_) | (have H2_ := (Option.bind_some _ _).symm.trans H; with_reducible exact H2_) | with_reducible exact H | (rw [hy442]; exact H) | exact H
           have Ny442 := Aside0.mk hy442
           clear hy442
           have H' := Aside0.mk H
           clear H
           have hnb81 := NB430_431.out
           have hnc81 := NB431_430.out
           have hnb82 := NB430_432.out
           have hnc82 := NB432_430.out
           have hnb83 := NB430_434.out
           have hnc83 := NB434_430.out
           have hcz84_0 : wr.cell? ⟨gb430, 0, none⟩ = some (.int .i64 a0_0) := (blk_cell BK430.out 0).trans rfl
           have hcz84_1 : wr.cell? ⟨gb430, 1, none⟩ = some (.slice (some ad433) l0_1.length c0_1) := (blk_cell BK430.out 1).trans rfl
           have hcz84_2 : wr.cell? ⟨gb430, 2, none⟩ = some (.slice A0_2 l0_2.length c0_2) := (blk_cell BK430.out 2).trans rfl
           have hfz84_0 := blk_frozen BK430.out 0
           have hfz84_1 := blk_frozen BK430.out 1
           have hfz84_2 := blk_frozen BK430.out 2
           have hnb85 := NB434_431.out
           have hnc85 := NB431_434.out
           have hnb86 := NB434_432.out
           have hnc86 := NB432_434.out
           have hcz87_0 : wr.cell? ⟨gb434, 0, none⟩ = some (.int .i64 ((rd_T31 l0_1 x4_1).f0)) := (blk_cell BK434.out 0).trans rfl
           have hcz87_1 : wr.cell? ⟨gb434, 1, none⟩ = some (.int .i64 ((rd_T31 l0_1 x4_1).f1)) := (blk_cell BK434.out 1).trans rfl
           have hcz87_2 : wr.cell? ⟨gb434, 2, none⟩ = some (.int .i64 x435002_2) := (blk_cell BK434.out 2).trans rfl
           have hcz87_3 : wr.cell? ⟨gb434, 3, none⟩ = some (.int .i64 ((rd_T31 l0_1 x4_1).f3)) := (blk_cell BK434.out 3).trans rfl
           have hcz87_4 : wr.cell? ⟨gb434, 4, none⟩ = some (.int .i64 ((rd_T31 l0_1 x4_1).f4)) := (blk_cell BK434.out 4).trans rfl
           have hfz87_0 := blk_frozen BK434.out 0
           have hfz87_1 := blk_frozen BK434.out 1
           have hfz87_2 := blk_frozen BK434.out 2
           have hfz87_3 := blk_frozen BK434.out 3
           have hfz87_4 := blk_frozen BK434.out 4
           have hnb88 := NB432_431.out
           have hnc88 := NB431_432.out
           have hcz89_0 : wr.cell? ⟨gb432, 0, none⟩ = some (.int .i64 a0_0) := (blk_cell BK432.out 0).trans rfl
           have hcz89_1 : wr.cell? ⟨gb432, 1, none⟩ = some (u433001) := (blk_cell BK432.out 1).trans rfl
           have hfz89_0 := blk_frozen BK432.out 0
           have hfz89_1 := blk_frozen BK432.out 1
           go_wp2_with (first | ((with_reducible refine gate_builtin (b := .append) (xs := #[.tmp 75, .tmp 77]) rfl ?_); at_builtin; refine Kd.R_append k31 (w0 := w) w.heap.size rfl (.tmp 75) (.tmp 77) 23 31 (.agg #[(.int .i64 0), (.int .i64 0), (.int .i64 0), (.int .i64 0), (.int .i64 0)]) 40 rfl Try.underlying23 info31 rfl (by decide) (by omega) u433001 x433001_1 (⟨((rd_T31 l0_1 x4_1).f0), ((rd_T31 l0_1 x4_1).f1), x435002_2, ((rd_T31 l0_1 x4_1).f3), ((rd_T31 l0_1 x4_1).f4)⟩ : S31) [.int .i64 ((rd_T31 l0_1 x4_1).f0), .int .i64 ((rd_T31 l0_1 x4_1).f1), .int .i64 x435002_2, .int .i64 ((rd_T31 l0_1 x4_1).f3), .int .i64 ((rd_T31 l0_1 x4_1).f4)] (fun k_ => k_ ≠ gb434) (fun _ => False) rfl rfl ?aP (fun _ hk => hk.elim) ?aF ?aO ?aB ?aS ?aL ?_; (case aP => exact k31_mkM _ _ _ (⟨((rd_T31 l0_1 x4_1).f0), ((rd_T31 l0_1 x4_1).f1), x435002_2, ((rd_T31 l0_1 x4_1).f3), ((rd_T31 l0_1 x4_1).f4)⟩ : S31)); (case aB => exact (bl4 HB GE430 GE431 GE432 GE434)); (case aF => exact (fun k_ hk => Kd.freshB (bk BK434) k_ hk)); (case aO => exact (rk HO_433001)); (case aS => exact (below_size (bl4 HB GE430 GE431 GE432 GE434))); (case aL => have := LMc80.out; omega); intro v443 w90 ho hb hg hat; rw [← Ny442.out] at ho; have n0_ := Aside0.mk (blk_grown (bk BK430) hg (Kd.R_ne HO_433001.out BK430.out (by decide))); have n1_ := Aside0.mk (blk_grown (bk BK431) hg (Kd.R_ne HO_433001.out BK431.out (by decide))); have n2_ := Aside0.mk (blk_grown (bk BK432) hg (Kd.R_ne HO_433001.out BK432.out (by decide))); have n3_ := Aside0.mk (blk_grown (bk BK434) hg (Kd.R_away HO_433001.out (fun _ hk => hk))); have n4_ := Aside0.mk (hb); have n5_ := Aside0.mk (ho); clear BK430; clear BK431; clear BK432; clear BK434; clear HB; clear HO_433001; have BK430 := n0_; have BK431 := n1_; have BK432 := n2_; have BK434 := n3_; have HB := n4_; have HO444 := n5_; clear n0_ n1_ n2_ n3_ n4_ n5_; clear ho hb hg hat; obtain ⟨Ao91, co91, eo91⟩ := Kd.R_slice HO444.out; subst eo91; have hcz92_0 : w90.cell? ⟨gb432, 0, none⟩ = some (.int .i64 a0_0) := (blk_cell BK432.out 0).trans rfl; have hcz92_1 : w90.cell? ⟨gb432, 1, none⟩ = some (u433001) := (blk_cell BK432.out 1).trans rfl; have hfz92_0 := blk_frozen BK432.out 0; have hfz92_1 := blk_frozen BK432.out 1))
           go_roundg k2
           case measure => have := HK1.out; have := HK2.out; omega
           case rel => exact ⟨(wrap64 (x4_1 + 1)), (y442), (.slice Ao91 y442.length co91), (by first | rfl | (simp; done) | (simp [*]; done)), H', ⟨by have := HK1.out; have := HK2.out; omega⟩, ⟨by (with_reducible repeat (first | apply Kd.R_alloc | apply Kd.R_drewN | apply Kd.R_drew)); exact Kd.R_mono (Kd.R_far (p := ⟨gb432, 1, none⟩) (Kd.R_types HO444.out BK432.out (by decide)) (fun _ hk => hk.2) (.slice Ao91 y442.length co91)) (fun _ hk => trivial)⟩, ⟨by (with_reducible repeat (first | refine blk_drewN ?_ _ | refine blk_drew ?_ | refine blk_alloc ?_ _)); refine blk_far ?_ NB430_432.out _; (with_reducible repeat (first | refine blk_drewN ?_ _ | refine blk_drew ?_ | refine blk_alloc ?_ _)); exact BK430.out⟩, ⟨by (with_reducible repeat (first | refine blk_drewN ?_ _ | refine blk_drew ?_ | refine blk_alloc ?_ _)); refine blk_far ?_ NB431_432.out _; (with_reducible repeat (first | refine blk_drewN ?_ _ | refine blk_drew ?_ | refine blk_alloc ?_ _)); exact BK431.out⟩, ⟨by (with_reducible repeat (first | refine blk_drewN ?_ _ | refine blk_drew ?_ | refine blk_alloc ?_ _)); refine blk_put (cs := #[.int .i64 a0_0, u433001]) ?_ 1 _ rfl; (with_reducible repeat (first | refine blk_drewN ?_ _ | refine blk_drew ?_ | refine blk_alloc ?_ _)); exact BK432.out⟩, ⟨bl4 HB GE430 GE431 GE432 GE434⟩⟩
          ·rw [if_neg c80] at H
           exact absurd H (by simp)
    ·rw [if_neg c11] at H
     exact absurd H (by simp)
   ·rw [if_neg c10] at H
    have c10b0 : decide (x4_1 < (l0_1.length : Int)) = false := decide_eq_false c10
    clear c10
    simp only [Option.some.injEq, Prod.mk.injEq] at H
    obtain ⟨rfl, rfl⟩ := H
    have hnb93 := NB430_431.out
    have hnc93 := NB431_430.out
    have hnb94 := NB430_432.out
    have hnc94 := NB432_430.out
    have hcz95_0 : wr.cell? ⟨gb430, 0, none⟩ = some (.int .i64 a0_0) := (blk_cell BK430.out 0).trans rfl
    have hcz95_1 : wr.cell? ⟨gb430, 1, none⟩ = some (.slice A0_1 l0_1.length c0_1) := (blk_cell BK430.out 1).trans rfl
    have hcz95_2 : wr.cell? ⟨gb430, 2, none⟩ = some (.slice A0_2 l0_2.length c0_2) := (blk_cell BK430.out 2).trans rfl
    have hfz95_0 := blk_frozen BK430.out 0
    have hfz95_1 := blk_frozen BK430.out 1
    have hfz95_2 := blk_frozen BK430.out 2
    have hnb96 := NB432_431.out
    have hnc96 := NB431_432.out
    have hcz97_0 : wr.cell? ⟨gb432, 0, none⟩ = some (.int .i64 a0_0) := (blk_cell BK432.out 0).trans rfl
    have hcz97_1 : wr.cell? ⟨gb432, 1, none⟩ = some (u433001) := (blk_cell BK432.out 1).trans rfl
    have hfz97_0 := blk_frozen BK432.out 0
    have hfz97_1 := blk_frozen BK432.out 1
    have hcz98_0 : wr.cell? ⟨gb431, 0, none⟩ = some (.int .i64 0) := (blk_cell BK431.out 0).trans rfl
    have hcz98_1 : wr.cell? ⟨gb431, 1, none⟩ = some (.slice none 0 0) := (blk_cell BK431.out 1).trans rfl
    have hfz98_0 := blk_frozen BK431.out 0
    have hfz98_1 := blk_frozen BK431.out 1
    obtain ⟨Ao99, co99, eo99⟩ := Kd.R_slice HO_433001.out
    subst eo99
    go_wp2
    refine bodyPost_ret (results_cell_row rfl _ _ gb431 25 #[.int .i64 a0_0, .slice Ao99 x433001_1.length co99] (0, 0) _ rfl (by (with_reducible repeat (first | refine blk_drewN ?_ _ | refine blk_drew ?_ | refine blk_alloc ?_ _)); refine blk_put (cs := #[.int .i64 a0_0, .slice none 0 0]) ?_ 1 _ rfl; (with_reducible repeat (first | refine blk_drewN ?_ _ | refine blk_drew ?_ | refine blk_alloc ?_ _)); refine blk_put (cs := #[.int .i64 0, .slice none 0 0]) ?_ 0 _ rfl; (with_reducible repeat (first | refine blk_drewN ?_ _ | refine blk_drew ?_ | refine blk_alloc ?_ _)); exact BK431.out) Try.underlying25 rfl (by kernel_rfl)) rfl ?_
    exact ⟨_, by first | rfl | (simp [errW_none, errW_some] <;> rfl) | (simp [*, errW_none, errW_some] <;> rfl), by (with_reducible repeat (first | apply Kd.R_alloc | apply Kd.R_drewN | apply Kd.R_drew)); exact Kd.R_mono (Kd.R_far (p := ⟨gb431, 1, none⟩) (Kd.R_far (p := ⟨gb431, 0, none⟩) (Kd.R_types HO_433001.out BK431.out (by decide)) (fun _ hk => hk.2) (.int .i64 a0_0)) (fun _ hk => hk.2) (.slice Ao99 x433001_1.length co99)) (fun _ hk => trivial), bl3 HB GE430 GE431 GE432⟩

end Go.Proofs.Ythgihpbpebbebaa.F
