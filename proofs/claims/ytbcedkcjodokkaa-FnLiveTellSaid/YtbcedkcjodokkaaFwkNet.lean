-- Printed by wip/px/px.py of this claim's repository (the kit's printer, extended there). Lean checks it.
import Derived.Test.YtbcedkcjodokkaaFKinds
import Derived.Test.YtbcedkcjodokkaaFEq65
namespace Go.Proofs.Ytbcedkcjodokkaa.F
open Go.RowKit Go.Proofs.YtbcedkcjodokkaaW.PrintWords Go.Proofs.YtbcedkcjodokkaaW.PrintLast Go.Proofs.YtbcedkcjodokkaaW.PrintMore
attribute [local go_sem] max2_int min2_int max_two min_two max_three min_three max_four min_four   -- for this text's walks alone
set_option linter.unusedVariables false
set_option linter.unusedSimpArgs false

attribute [local go_sem high] eqA65
/-! ### laws_wkNet: function 24 -/
mutual
def laws_wkNet.j0 : Nat → Bool → Int → List (S65) → Int → List (S65) → Option (Bool)
 | 0, _, _, _, _, _ => none
 | k + 1, x19, x384000, x384001, x385000, x385001 => if x19 = true then (some false) else (laws_wkNet.l0 k 0 x384000 x384001 x385000 x385001)
def laws_wkNet.l0 : Nat → Int → Int → List (S65) → Int → List (S65) → Option (Bool)
 | 0, _, _, _, _, _ => none
 | k + 1, x5, x384000, x384001, x385000, x385001 => if x5 < (x384001.length : Int) then (if 0 ≤ x5 then (if x5 < (x385001.length : Int) then (if (!(((rd_T65 x384001 x5).f0) == ((rd_T65 x385001 x5).f0)) || (!(((rd_T65 x384001 x5).f1) == ((rd_T65 x385001 x5).f1)) || (!(((rd_T65 x384001 x5).f2) == ((rd_T65 x385001 x5).f2)) || (!(((rd_T65 x384001 x5).f3) == ((rd_T65 x385001 x5).f3)) || (!(((rd_T65 x384001 x5).f4) == ((rd_T65 x385001 x5).f4))))))) = true then (some false) else (laws_wkNet.l0 k (wrap64 (x5 + 1)) x384000 x384001 x385000 x385001)) else (none)) else (none)) else (some true)
end
def laws_wkNet.f (k : Nat) (a0_0 : Int) (l0_1 : List (S65)) (a1_0 : Int) (l1_1 : List (S65)) : Option (Bool) := if a0_0 = a1_0 then (laws_wkNet.j0 k ((l0_1.length : Int) != (l1_1.length : Int)) a0_0 l0_1 a1_0 l1_1) else (laws_wkNet.j0 k true a0_0 l0_1 a1_0 l1_1)
theorem laws_wkNet.mono_l : ∀ k, (∀ y0 y1 y2 y3 y4, LeO (laws_wkNet.j0 k y0 y1 y2 y3 y4) (laws_wkNet.j0 (k + 1) y0 y1 y2 y3 y4)) ∧ (∀ y0 y1 y2 y3 y4, LeO (laws_wkNet.l0 k y0 y1 y2 y3 y4) (laws_wkNet.l0 (k + 1) y0 y1 y2 y3 y4))
 | 0 => ⟨fun _ _ _ _ _ r h => by simp [laws_wkNet.j0] at h, fun _ _ _ _ _ r h => by simp [laws_wkNet.l0] at h⟩
 | k + 1 => by
  obtain ⟨ih0, ih1⟩ := laws_wkNet.mono_l k
  refine ⟨?_, ?_⟩
  ·intro y0 y1 y2 y3 y4
   unfold laws_wkNet.j0
   repeat' first | (with_reducible exact ih1 _ _ _ _ _) | (with_reducible exact LeO.refl _) | (with_reducible refine LeO.ite ?_ ?_)
  ·intro y0 y1 y2 y3 y4
   unfold laws_wkNet.l0
   repeat' first | (with_reducible exact ih1 _ _ _ _ _) | (with_reducible exact LeO.refl _) | (with_reducible refine LeO.ite ?_ ?_)
theorem laws_wkNet.mono : ∀ a0 a1 a2 a3 k, LeO (laws_wkNet.f k a0 a1 a2 a3) (laws_wkNet.f (k + 1) a0 a1 a2 a3) := by
 intro a0 a1 a2 a3 k
 obtain ⟨ih0, ih1⟩ := laws_wkNet.mono_l k
 unfold laws_wkNet.f
 repeat' first | (with_reducible exact ih0 _ _ _ _ _) | (with_reducible refine LeO.ite ?_ ?_)
set_option maxHeartbeats 8000000 in
set_option maxRecDepth 100000 in
theorem laws_wkNet.calls (k : Nat) (a0_0 : Int) (A0_1 : Option Addr) (c0_1 : Nat) (l0_1 : List (S65)) (a1_0 : Int) (A1_1 : Option Addr) (c1_1 : Nat) (l1_1 : List (S65)) (r : Bool) (w : World) (hr0_1 : Kd.C k65 w A0_1 l0_1.length l0_1) (hc0_1 : l0_1.length ≤ c0_1) (hr1_1 : Kd.C k65 w A1_1 l1_1.length l1_1) (hc1_1 : l1_1.length ≤ c1_1) (h : laws_wkNet.f k a0_0 l0_1 a1_0 l1_1 = some r) :
  Calls Try.prog 24 #[.agg #[.int .i64 a0_0, .slice A0_1 l0_1.length c0_1], .agg #[.int .i64 a1_0, .slice A1_1 l1_1.length c1_1]] w fun e w' => e = .returned (.bool r) ∧ Below w.heap.size w w' := by
 have hu25 := Try.underlying25
 have hu65 := Try.underlying65
 have HR0_1 := Aside0.mk hr0_1
 have HC0_1 := Aside0.mk hc0_1
 clear hr0_1 hc0_1
 have HR1_1 := Aside0.mk hr1_1
 have HC1_1 := Aside0.mk hc1_1
 clear hr1_1 hc1_1
 have HB := Aside0.mk (Below.refl w.heap.size w)
 have H : (if a0_0 = a1_0 then (laws_wkNet.j0 k ((l0_1.length : Int) != (l1_1.length : Int)) a0_0 l0_1 a1_0 l1_1) else (laws_wkNet.j0 k true a0_0 l0_1 a1_0 l1_1)) = some r := h
 clear h
 have HC3 := Aside0.mk H
 clear H
 go_enter Try.func24, Try.ntmps24
 go_upto_region 1 with (first | ((with_reducible refine gate_dst (N := 2) rfl ?_); refine box_event ?hg (N := 2) ?hd (cs := #[.int .i64 a0_0, .slice A0_1 l0_1.length c0_1]) (t := 25) ?hr ?_; (case hd => rfl); (case hg => rfl); (case hr => (go_simp; done)); intro gb383 hg w4 hbox hb; have BK383 := Aside0.mk (hbox); have GW383 := Aside0.mk ((by rw [hg]; exact (below_size (bl HB)) : w.heap.size ≤ gb383)); have GE383 := Aside0.mk ((by rw [hg]; exact (below_size (bl HB)) : w.heap.size ≤ gb383)); replace HB := Aside0.mk (below_step (bl HB) hb); clear hb hbox hg) | ((with_reducible refine gate_dst (N := 3) rfl ?_); refine box_event ?hg (N := 3) ?hd (cs := #[.int .i64 a1_0, .slice A1_1 l1_1.length c1_1]) (t := 25) ?hr ?_; (case hd => rfl); (case hg => rfl); (case hr => (go_simp; done)); intro gb384 hg w5 hbox hb; have BK384 := Aside0.mk (hbox); have GW384 := Aside0.mk ((by rw [hg]; exact (below_size (bl1 HB GE383)) : w.heap.size ≤ gb384)); have GE384 := Aside0.mk ((by rw [hg]; exact (below_size (bl1 HB GE383)) : w.heap.size ≤ gb384)); replace HB := Aside0.mk (below_step (bl1 HB GE383) hb); have NB383_384 := Aside0.mk ((by rw [hg]; exact Nat.ne_of_lt (blk_lt (bk BK383)) : gb383 ≠ gb384)); have NB384_383 := Aside0.mk ((by rw [hg]; exact Nat.ne_of_gt (blk_lt (bk BK383)) : gb384 ≠ gb383)); replace BK383 := Aside0.mk (blk_below (bk BK383) hb); clear hb hbox hg))
 repeat (go_quiet (fail); go_upto_region 1 with (fail))
 (try simp only [Act.put, List.setIfInBounds_toArray, List.set_cons_zero, List.set_cons_succ])
 go_cut [19] (fun v19 wc => ∃ (kq : Nat) (x19_2 : Bool), v19 = .bool x19_2 ∧ Aside0 (laws_wkNet.j0 kq x19_2 a0_0 l0_1 a1_0 l1_1 = some r) ∧ Aside0 (kq ≤ k) ∧ Aside0 (wc.heap[gb383]? = some (.cells #[.int .i64 a0_0, (.slice A0_1 l0_1.length c0_1)] 25 (0, 0))) ∧ Aside0 (wc.heap[gb384]? = some (.cells #[.int .i64 a1_0, (.slice A1_1 l1_1.length c1_1)] 25 (0, 0))) ∧ Aside0 (Below w.heap.size w wc))
 case first =>
  have H := HC3.out
  clear HC3
  by_cases c6 : a0_0 = a1_0
  rotate_left
  ·rw [if_neg c6] at H
   have c6b0 : (a0_0 == a1_0) = false := beq_eq_false_iff_ne.mpr c6
   have c6b1 : (a0_0 != a1_0) = true := bne_iff_ne.mpr c6
   (skip)
   have H' := Aside0.mk H
   clear H
   have hnb10 := NB383_384.out
   have hnc10 := NB384_383.out
   have hcz11_0 : w5.cell? ⟨gb383, 0, none⟩ = some (.int .i64 a0_0) := (blk_cell BK383.out 0).trans rfl
   have hcz11_1 : w5.cell? ⟨gb383, 1, none⟩ = some (.slice A0_1 l0_1.length c0_1) := (blk_cell BK383.out 1).trans rfl
   have hfz11_0 := blk_frozen BK383.out 0
   have hfz11_1 := blk_frozen BK383.out 1
   have hcz12_0 : w5.cell? ⟨gb384, 0, none⟩ = some (.int .i64 a1_0) := (blk_cell BK384.out 0).trans rfl
   have hcz12_1 : w5.cell? ⟨gb384, 1, none⟩ = some (.slice A1_1 l1_1.length c1_1) := (blk_cell BK384.out 1).trans rfl
   have hfz12_0 := blk_frozen BK384.out 0
   have hfz12_1 := blk_frozen BK384.out 1
   go_wp2
   repeat (go_quiet (fail); try go_wp2)
   go_meet
   case rel => exact ⟨_, (true), (by rfl), H', ⟨by omega⟩, ⟨bk BK383⟩, ⟨bk BK384⟩, ⟨bl2 HB GE383 GE384⟩⟩
  rw [if_pos c6] at H
  have c6b0 : (a0_0 == a1_0) = true := beq_iff_eq.mpr c6
  have c6b1 : (a0_0 != a1_0) = false := bne_eq_false_iff_eq.mpr c6
  clear c6
  (skip)
  have H' := Aside0.mk H
  clear H
  have hnb7 := NB383_384.out
  have hnc7 := NB384_383.out
  have hcz8_0 : w5.cell? ⟨gb383, 0, none⟩ = some (.int .i64 a0_0) := (blk_cell BK383.out 0).trans rfl
  have hcz8_1 : w5.cell? ⟨gb383, 1, none⟩ = some (.slice A0_1 l0_1.length c0_1) := (blk_cell BK383.out 1).trans rfl
  have hfz8_0 := blk_frozen BK383.out 0
  have hfz8_1 := blk_frozen BK383.out 1
  have hcz9_0 : w5.cell? ⟨gb384, 0, none⟩ = some (.int .i64 a1_0) := (blk_cell BK384.out 0).trans rfl
  have hcz9_1 : w5.cell? ⟨gb384, 1, none⟩ = some (.slice A1_1 l1_1.length c1_1) := (blk_cell BK384.out 1).trans rfl
  have hfz9_0 := blk_frozen BK384.out 0
  have hfz9_1 := blk_frozen BK384.out 1
  go_wp2
  repeat (go_quiet (fail); try go_wp2)
  go_meet
  case rel => exact ⟨_, (((l0_1.length : Int) != (l1_1.length : Int))), (by rfl), H', ⟨by omega⟩, ⟨bk BK383⟩, ⟨bk BK384⟩, ⟨bl2 HB GE383 GE384⟩⟩
 clear HC3
 try clear c1
 try clear c2
 try clear p2
 try clear c6
 try clear c6b0
 try clear c6b1
 try clear c7
 try clear c10
 try clear hcz11_0
 try clear hcz11_1
 try clear hcz12_0
 try clear hcz12_1
 try clear hcz8_0
 try clear hcz8_1
 try clear hcz9_0
 try clear hcz9_1
 try clear hfz11_0
 try clear hfz11_1
 try clear hfz12_0
 try clear hfz12_1
 try clear hfz8_0
 try clear hfz8_1
 try clear hfz9_0
 try clear hfz9_1
 obtain ⟨kq, x19_2, rfl, HA, HJ2, BK383, BK384, HB⟩ := hcut
 cases kq with
 | zero => exact absurd HA.out (by simp [laws_wkNet.j0])
 | succ kj2 =>
  have H := HA.out
  clear HA
  simp only [laws_wkNet.j0] at H
  by_cases c13 : x19_2 = true
  ·subst c13
   rw [if_pos rfl] at H
   obtain rfl := Option.some.inj H
   go_wp2
   repeat (go_quiet (fail); try go_wp2)
   go_ret
   exact ⟨by rfl, bl2 HB GE383 GE384⟩
  replace c13 := Bool.eq_false_iff.mpr c13
  subst c13
  rw [if_neg (show ¬ (false = true) by decide)] at H
  have H' := Aside0.mk H
  clear H
  go_wp2
  repeat (go_quiet (fail); try go_wp2)
  go_loopg [5] kj2 (fun kq v5 w' => ∃ (x5_2 : Int), v5 = .int .i64 x5_2 ∧ Aside0 (laws_wkNet.l0 kq x5_2 a0_0 l0_1 a1_0 l1_1 = some r) ∧ Aside0 (kq ≤ kj2) ∧ Aside0 (w'.heap[gb383]? = some (.cells #[.int .i64 a0_0, (.slice A0_1 l0_1.length c0_1)] 25 (0, 0))) ∧ Aside0 (w'.heap[gb384]? = some (.cells #[.int .i64 a1_0, (.slice A1_1 l1_1.length c1_1)] 25 (0, 0))) ∧ Aside0 (Below w.heap.size w w'))
  case atStart => exact ⟨(0), (by rfl), H', ⟨Nat.le_refl _⟩, ⟨bk BK383⟩, ⟨bk BK384⟩, ⟨bl2 HB GE383 GE384⟩⟩
  clear H'
  try clear c1
  try clear c2
  try clear p2
  try clear c6
  try clear c6b0
  try clear c6b1
  try clear c7
  try clear c10
  try clear c13
  try clear hcz11_0
  try clear hcz11_1
  try clear hcz12_0
  try clear hcz12_1
  try clear hcz8_0
  try clear hcz8_1
  try clear hcz9_0
  try clear hcz9_1
  try clear hfz11_0
  try clear hfz11_1
  try clear hfz12_0
  try clear hfz12_1
  try clear hfz8_0
  try clear hfz8_1
  try clear hfz9_0
  try clear hfz9_1
  try clear p2
  obtain ⟨x5_2, rfl, HA, HK2, BK383, BK384, HB⟩ := hrel
  cases gk with
  | zero => exact absurd HA.out (by simp [laws_wkNet.l0])
  | succ k2 =>
   have H := HA.out
   clear HA
   simp only [laws_wkNet.l0] at H
   by_cases c14 : x5_2 < (l0_1.length : Int)
   rotate_left
   ·rw [if_neg c14] at H
    have c14b0 : decide (x5_2 < (l0_1.length : Int)) = false := decide_eq_false c14
    clear c14
    obtain rfl := Option.some.inj H
    have hnb24 := NB383_384.out
    have hnc24 := NB384_383.out
    have hcz25_0 : wr.cell? ⟨gb383, 0, none⟩ = some (.int .i64 a0_0) := (blk_cell BK383.out 0).trans rfl
    have hcz25_1 : wr.cell? ⟨gb383, 1, none⟩ = some (.slice A0_1 l0_1.length c0_1) := (blk_cell BK383.out 1).trans rfl
    have hfz25_0 := blk_frozen BK383.out 0
    have hfz25_1 := blk_frozen BK383.out 1
    go_wp2
    repeat (go_quiet (fail); try go_wp2)
    go_ret
    exact ⟨by rfl, bl2 HB GE383 GE384⟩
   rw [if_pos c14] at H
   have c14b0 : decide (x5_2 < (l0_1.length : Int)) = true := decide_eq_true c14
   clear c14
   by_cases c15 : 0 ≤ x5_2
   rotate_left
   ·rw [if_neg c15] at H
    exact absurd H (by simp)
   rw [if_pos c15] at H
   have c15b0 : decide (0 ≤ x5_2) = true := decide_eq_true c15
   clear c15
   by_cases c16 : x5_2 < (l1_1.length : Int)
   rotate_left
   ·rw [if_neg c16] at H
    exact absurd H (by simp)
   rw [if_pos c16] at H
   have c16b0 : decide (x5_2 < (l1_1.length : Int)) = true := decide_eq_true c16
   clear c16
   by_cases c17 : (!(((rd_T65 l0_1 x5_2).f0) == ((rd_T65 l1_1 x5_2).f0)) || (!(((rd_T65 l0_1 x5_2).f1) == ((rd_T65 l1_1 x5_2).f1)) || (!(((rd_T65 l0_1 x5_2).f2) == ((rd_T65 l1_1 x5_2).f2)) || (!(((rd_T65 l0_1 x5_2).f3) == ((rd_T65 l1_1 x5_2).f3)) || (!(((rd_T65 l0_1 x5_2).f4) == ((rd_T65 l1_1 x5_2).f4))))))) = true
   ·rw [if_pos c17] at H
    have c17b0 : (!(((rd_T65 l0_1 x5_2).f0) == ((rd_T65 l1_1 x5_2).f0)) || (!(((rd_T65 l0_1 x5_2).f1) == ((rd_T65 l1_1 x5_2).f1)) || (!(((rd_T65 l0_1 x5_2).f2) == ((rd_T65 l1_1 x5_2).f2)) || (!(((rd_T65 l0_1 x5_2).f3) == ((rd_T65 l1_1 x5_2).f3)) || (!(((rd_T65 l0_1 x5_2).f4) == ((rd_T65 l1_1 x5_2).f4))))))) = true := c17
    clear c17
    obtain rfl := Option.some.inj H
    have hnb18 := NB383_384.out
    have hnc18 := NB384_383.out
    have hcz19_0 : wr.cell? ⟨gb383, 0, none⟩ = some (.int .i64 a0_0) := (blk_cell BK383.out 0).trans rfl
    have hcz19_1 : wr.cell? ⟨gb383, 1, none⟩ = some (.slice A0_1 l0_1.length c0_1) := (blk_cell BK383.out 1).trans rfl
    have hfz19_0 := blk_frozen BK383.out 0
    have hfz19_1 := blk_frozen BK383.out 1
    have p385 : 0 ≤ (x5_2 : Int) := oT (by (with_reducible assumption))
    have q385 : x5_2 < (l0_1.length : Int) := oT (by (with_reducible assumption))
    obtain ⟨ad385, e385, hx385_0, hx385_1, hx385_2, hx385_3, hx385_4⟩ := at_T65 HR0_1.out x5_2 p385 q385
    cases e385
    replace hx385_0 := hcb HB.out hx385_0
    replace hx385_1 := hcb HB.out hx385_1
    replace hx385_2 := hcb HB.out hx385_2
    replace hx385_3 := hcb HB.out hx385_3
    replace hx385_4 := hcb HB.out hx385_4
    replace p385 := eq_true p385
    replace q385 := eq_true q385
    have hcz20_0 : wr.cell? ⟨gb384, 0, none⟩ = some (.int .i64 a1_0) := (blk_cell BK384.out 0).trans rfl
    have hcz20_1 : wr.cell? ⟨gb384, 1, none⟩ = some (.slice A1_1 l1_1.length c1_1) := (blk_cell BK384.out 1).trans rfl
    have hfz20_0 := blk_frozen BK384.out 0
    have hfz20_1 := blk_frozen BK384.out 1
    have p386 : 0 ≤ (x5_2 : Int) := oT (by (with_reducible assumption))
    have q386 : x5_2 < (l1_1.length : Int) := oT (by (with_reducible assumption))
    obtain ⟨ad386, e386, hx386_0, hx386_1, hx386_2, hx386_3, hx386_4⟩ := at_T65 HR1_1.out x5_2 p386 q386
    cases e386
    replace hx386_0 := hcb HB.out hx386_0
    replace hx386_1 := hcb HB.out hx386_1
    replace hx386_2 := hcb HB.out hx386_2
    replace hx386_3 := hcb HB.out hx386_3
    replace hx386_4 := hcb HB.out hx386_4
    replace p386 := eq_true p386
    replace q386 := eq_true q386
    go_wp2
    repeat (go_quiet (fail); try go_wp2)
    go_ret
    exact ⟨by rfl, bl2 HB GE383 GE384⟩
   rw [if_neg c17] at H
   have c17b0 : (!(((rd_T65 l0_1 x5_2).f0) == ((rd_T65 l1_1 x5_2).f0)) || (!(((rd_T65 l0_1 x5_2).f1) == ((rd_T65 l1_1 x5_2).f1)) || (!(((rd_T65 l0_1 x5_2).f2) == ((rd_T65 l1_1 x5_2).f2)) || (!(((rd_T65 l0_1 x5_2).f3) == ((rd_T65 l1_1 x5_2).f3)) || (!(((rd_T65 l0_1 x5_2).f4) == ((rd_T65 l1_1 x5_2).f4))))))) = false := by simpa using c17
   clear c17
   have H' := Aside0.mk H
   clear H
   have hnb21 := NB383_384.out
   have hnc21 := NB384_383.out
   have hcz22_0 : wr.cell? ⟨gb383, 0, none⟩ = some (.int .i64 a0_0) := (blk_cell BK383.out 0).trans rfl
   have hcz22_1 : wr.cell? ⟨gb383, 1, none⟩ = some (.slice A0_1 l0_1.length c0_1) := (blk_cell BK383.out 1).trans rfl
   have hfz22_0 := blk_frozen BK383.out 0
   have hfz22_1 := blk_frozen BK383.out 1
   have p385 : 0 ≤ (x5_2 : Int) := oT (by (with_reducible assumption))
   have q385 : x5_2 < (l0_1.length : Int) := oT (by (with_reducible assumption))
   obtain ⟨ad385, e385, hx385_0, hx385_1, hx385_2, hx385_3, hx385_4⟩ := at_T65 HR0_1.out x5_2 p385 q385
   cases e385
   replace hx385_0 := hcb HB.out hx385_0
   replace hx385_1 := hcb HB.out hx385_1
   replace hx385_2 := hcb HB.out hx385_2
   replace hx385_3 := hcb HB.out hx385_3
   replace hx385_4 := hcb HB.out hx385_4
   replace p385 := eq_true p385
   replace q385 := eq_true q385
   have hcz23_0 : wr.cell? ⟨gb384, 0, none⟩ = some (.int .i64 a1_0) := (blk_cell BK384.out 0).trans rfl
   have hcz23_1 : wr.cell? ⟨gb384, 1, none⟩ = some (.slice A1_1 l1_1.length c1_1) := (blk_cell BK384.out 1).trans rfl
   have hfz23_0 := blk_frozen BK384.out 0
   have hfz23_1 := blk_frozen BK384.out 1
   have p386 : 0 ≤ (x5_2 : Int) := oT (by (with_reducible assumption))
   have q386 : x5_2 < (l1_1.length : Int) := oT (by (with_reducible assumption))
   obtain ⟨ad386, e386, hx386_0, hx386_1, hx386_2, hx386_3, hx386_4⟩ := at_T65 HR1_1.out x5_2 p386 q386
   cases e386
   replace hx386_0 := hcb HB.out hx386_0
   replace hx386_1 := hcb HB.out hx386_1
   replace hx386_2 := hcb HB.out hx386_2
   replace hx386_3 := hcb HB.out hx386_3
   replace hx386_4 := hcb HB.out hx386_4
   replace p386 := eq_true p386
   replace q386 := eq_true q386
   go_wp2
   repeat (go_quiet (fail); try go_wp2)
   go_roundg k2
   case measure => have := HJ2.out; have := HK2.out; omega
   case rel => exact ⟨(wrap64 (x5_2 + 1)), (by rfl), H', ⟨by have := HJ2.out; have := HK2.out; omega⟩, ⟨bk BK383⟩, ⟨bk BK384⟩, ⟨bl2 HB GE383 GE384⟩⟩

end Go.Proofs.Ytbcedkcjodokkaa.F
