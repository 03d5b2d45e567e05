-- Printed by wip/px/px.py of this claim's repository (the kit's printer, extended there). Lean checks it.
import Derived.Test.YthgihpbpebbebaaFKinds
namespace Go.Proofs.Ythgihpbpebbebaa.F
open Go.RowKit Go.Proofs.YthgihpbpebbebaaW.PrintWords Go.Proofs.YthgihpbpebbebaaW.PrintLast Go.Proofs.YthgihpbpebbebaaW.PrintMore
attribute [local go_sem] max2_int min2_int max_two min_two max_three min_three max_four min_four   -- for this text's walks alone
set_option linter.unusedVariables false
set_option linter.unusedSimpArgs false

/-! ### spec_l1Back: function 94 -/
def spec_l1Back.l0 : Nat → Int → Int → List (S31) → Int → List (S31) → Option (Int × (List (S31)))
 | 0, _, _, _, _, _ => none
 | k + 1, x4, x767000, x767001, x769000, x769001 => if x4 < (x767001.length : Int) then (if 0 ≤ x4 then (if x769001.length < 3518437208883 then (spec_l1Back.l0 k (wrap64 (x4 + 1)) x767000 x767001 x769000 (x769001 ++ [(⟨(rd_T31 x767001 x4).f1, (rd_T31 x767001 x4).f0, (rd_T31 x767001 x4).f2, (rd_T31 x767001 x4).f3, (rd_T31 x767001 x4).f4⟩ : S31)])) else (none)) else (none)) else (some (x769000, x769001))
def spec_l1Back.f (k : Nat) (a0_0 : Int) (l0_1 : List (S31)) : Option (Int × (List (S31))) := spec_l1Back.l0 k 0 a0_0 l0_1 a0_0 ([] : List (S31))
theorem spec_l1Back.mono_l : ∀ k, (∀ y0 y1 y2 y3 y4, LeO (spec_l1Back.l0 k y0 y1 y2 y3 y4) (spec_l1Back.l0 (k + 1) y0 y1 y2 y3 y4))
 | 0 => fun _ _ _ _ _ r h => by simp [spec_l1Back.l0] at h
 | k + 1 => by
  have ih0 := spec_l1Back.mono_l k
  ·intro y0 y1 y2 y3 y4
   unfold spec_l1Back.l0
   repeat' first
   | (with_reducible exact ih0 _ _ _ _ _)
   | (with_reducible exact LeO.refl _)
   | (with_reducible exact LeO.none _)
   | (with_reducible refine LeO.ite ?_ ?_)
   | (with_reducible refine LeO.bind ?_ (fun _ => ?_))
   | exact ih0 _ _ _ _ _
   | exact LeO.none _
   | refine LeO.ite ?_ ?_
   | refine LeO.bind ?_ (fun _ => ?_)
theorem spec_l1Back.mono : ∀ a0 a1 k, LeO (spec_l1Back.f k a0 a1) (spec_l1Back.f (k + 1) a0 a1) := by
 intro a0 a1 k
 have ih0 := spec_l1Back.mono_l k
 unfold spec_l1Back.f
 repeat' first
   | (with_reducible exact ih0 _ _ _ _ _)
   | (with_reducible exact LeO.refl _)
   | (with_reducible exact LeO.none _)
   | (with_reducible refine LeO.ite ?_ ?_)
   | (with_reducible refine LeO.bind ?_ (fun _ => ?_))
   | exact ih0 _ _ _ _ _
   | exact LeO.none _
   | refine LeO.ite ?_ ?_
   | refine LeO.bind ?_ (fun _ => ?_)
set_option maxHeartbeats 8000000 in
set_option maxRecDepth 100000 in
theorem spec_l1Back.calls (k : Nat) (a0_0 : Int) (A0_1 : Option Addr) (c0_1 : Nat) (l0_1 : List (S31)) (r1 : Int) (r2 : List (S31)) (w : World) (hr0_1 : Kd.C k31 w A0_1 l0_1.length l0_1) (hc0_1 : l0_1.length ≤ c0_1) (h : spec_l1Back.f k a0_0 l0_1 = some (r1, r2)) :
  Calls Try.prog 94 #[.agg #[.int .i64 a0_0, .slice A0_1 l0_1.length c0_1]] w fun e w' => ∃ v1_ : Value, e = .returned (.agg #[.int .i64 r1, v1_]) ∧ Kd.R k31 31 w' w.heap.size (fun _ => True) v1_ r2 ∧ Below w.heap.size w w' := by
 have hu25 := Try.underlying25
 have hu31 := Try.underlying31
 have HR0_1 := Aside0.mk hr0_1
 have HC0_1 := Aside0.mk hc0_1
 clear hr0_1 hc0_1
 have HB := Aside0.mk (Below.refl w.heap.size w)
 have H : (spec_l1Back.l0 k 0 a0_0 l0_1 a0_0 ([] : List (S31))) = some (r1, r2) := h
 clear h
 have H' := Aside0.mk H
 clear H
 go_enter Try.func94, Try.ntmps94
 go_wp2_with (first | ((with_reducible refine gate_dst (N := 1) rfl ?_); refine box_event ?hg (N := 1) ?hd (cs := #[.int .i64 a0_0, .slice A0_1 l0_1.length c0_1]) (t := 25) ?hr ?_; (case hd => rfl); (case hg => rfl); (case hr => first | (go_simp; done) | (go_simp; rfl)); intro gb766 hg w2 hbox hb; have n0_ := Aside0.mk (below_step (bl HB) hb); have n1_ := Aside0.mk (hbox); have n2_ := Aside0.mk ((by rw [hg]; exact (below_size (bl HB)) : w.heap.size ≤ gb766)); have n3_ := Aside0.mk ((by rw [hg]; exact (below_size (bl HB)) : w.heap.size ≤ gb766)); clear HB; have HB := n0_; have BK766 := n1_; have GW766 := n2_; have GE766 := n3_; clear n0_ n1_ n2_ n3_; clear hb hbox hg) | ((with_reducible refine gate_dst (N := 2) rfl ?_); refine box_event ?hg (N := 2) ?hd (cs := #[.int .i64 0, .slice none 0 0]) (t := 25) ?hr ?_; (case hd => rfl); (case hg => rfl); (case hr => first | (go_simp; done) | (go_simp; rfl)); intro gb767 hg w3 hbox hb; have n0_ := Aside0.mk (blk_below (bk BK766) hb); have n1_ := Aside0.mk (below_step (bl1 HB GE766) hb); have n2_ := Aside0.mk (hbox); have n3_ := Aside0.mk ((by rw [hg]; exact (below_size (bl1 HB GE766)) : w.heap.size ≤ gb767)); have n4_ := Aside0.mk ((by rw [hg]; exact (below_size (bl1 HB GE766)) : w.heap.size ≤ gb767)); have n5_ := Aside0.mk ((by rw [hg]; exact Nat.ne_of_lt (blk_lt (bk BK766)) : gb766 ≠ gb767)); have n6_ := Aside0.mk ((by rw [hg]; exact Nat.ne_of_gt (blk_lt (bk BK766)) : gb767 ≠ gb766)); clear BK766; clear HB; have BK766 := n0_; have HB := n1_; have BK767 := n2_; have GW767 := n3_; have GE767 := n4_; have NB766_767 := n5_; have NB767_766 := n6_; clear n0_ n1_ n2_ n3_ n4_ n5_ n6_; clear hb hbox hg; have hnb4 := NB766_767.out; have hnc4 := NB767_766.out; have hcz5_0 : w3.cell? ⟨gb766, 0, none⟩ = some (.int .i64 a0_0) := (blk_cell BK766.out 0).trans rfl; have hcz5_1 : w3.cell? ⟨gb766, 1, none⟩ = some (.slice A0_1 l0_1.length c0_1) := (blk_cell BK766.out 1).trans rfl; have hfz5_0 := blk_frozen BK766.out 0; have hfz5_1 := blk_frozen BK766.out 1) | ((with_reducible refine gate_dst (N := 3) rfl ?_); refine box_event ?hg (N := 3) ?hd (cs := #[.int .i64 0, .slice none 0 0]) (t := 25) ?hr ?_; (case hd => rfl); (case hg => rfl); (case hr => first | (go_simp; done) | (go_simp; rfl)); intro gb768 hg w6 hbox hb; have n0_ := Aside0.mk (blk_below (bk BK766) hb); have n1_ := Aside0.mk (blk_below (bk BK767) hb); have n2_ := Aside0.mk (below_step (bl2 HB GE766 GE767) hb); have n3_ := Aside0.mk (hbox); have n4_ := Aside0.mk ((by rw [hg]; exact (below_size (bl2 HB GE766 GE767)) : w.heap.size ≤ gb768)); have n5_ := Aside0.mk ((by rw [hg]; exact (below_size (bl2 HB GE766 GE767)) : w.heap.size ≤ gb768)); have n6_ := Aside0.mk ((by rw [hg]; exact Nat.ne_of_lt (blk_lt (bk BK766)) : gb766 ≠ gb768)); have n7_ := Aside0.mk ((by rw [hg]; exact Nat.ne_of_gt (blk_lt (bk BK766)) : gb768 ≠ gb766)); have n8_ := Aside0.mk ((by rw [hg]; exact Nat.ne_of_lt (blk_lt (bk BK767)) : gb767 ≠ gb768)); have n9_ := Aside0.mk ((by rw [hg]; exact Nat.ne_of_gt (blk_lt (bk BK767)) : gb768 ≠ gb767)); clear BK766; clear BK767; clear HB; have BK766 := n0_; have BK767 := n1_; have HB := n2_; have BK768 := n3_; have GW768 := n4_; have GE768 := n5_; have NB766_768 := n6_; have NB768_766 := n7_; have NB767_768 := n8_; have NB768_767 := n9_; clear n0_ n1_ n2_ n3_ n4_ n5_ n6_ n7_ n8_ n9_; clear hb hbox hg; have hnb7 := NB768_766.out; have hnc7 := NB766_768.out; have hnb8 := NB768_767.out; have hnc8 := NB767_768.out; have hcz9_0 : w6.cell? ⟨gb768, 0, none⟩ = some (.int .i64 0) := (blk_cell BK768.out 0).trans rfl; have hcz9_1 : w6.cell? ⟨gb768, 1, none⟩ = some (.slice none 0 0) := (blk_cell BK768.out 1).trans rfl; have hfz9_0 := blk_frozen BK768.out 0; have hfz9_1 := blk_frozen BK768.out 1))
 go_loopg [4] k (fun kq v4 w' => ∃ (x4_1 : Int) (x769001_1 : List (S31)) (u769001 : Value), v4 = .int .i64 x4_1 ∧ Aside0 (spec_l1Back.l0 kq x4_1 a0_0 l0_1 a0_0 x769001_1 = some (r1, r2)) ∧ Aside0 (kq ≤ k) ∧ Aside0 (Kd.R k31 31 w' w.heap.size (fun _ => True) u769001 x769001_1) ∧ Aside0 (w'.heap[gb766]? = some (.cells #[.int .i64 a0_0, (.slice A0_1 l0_1.length c0_1)] 25 (0, 0))) ∧ Aside0 (w'.heap[gb767]? = some (.cells #[.int .i64 0, (.slice none 0 0)] 25 (0, 0))) ∧ Aside0 (w'.heap[gb768]? = some (.cells #[.int .i64 a0_0, u769001] 25 (0, 0))) ∧ Aside0 (Below w.heap.size w w'))
 case atStart => exact ⟨(0), (([] : List (S31))), (.slice none 0 0), (by first | rfl | (simp; done) | (simp [*]; done)), H', ⟨Nat.le_refl _⟩, ⟨by first | exact Kd.R_nil _ _ _ _ _ | exact Kd.N_nil _ _ _ _ _ | exact Kd.V_nil _ _ _ _ _ | exact Kd.Q_nil _ _ _ _ _ | exact Kd.S_nil _ _ _ _ _⟩, ⟨by (with_reducible repeat (first | refine blk_drewN ?_ _ | refine blk_drew ?_ | refine blk_alloc ?_ _)); refine blk_far ?_ NB766_768.out _; (with_reducible repeat (first | refine blk_drewN ?_ _ | refine blk_drew ?_ | refine blk_alloc ?_ _)); refine blk_far ?_ NB766_768.out _; (with_reducible repeat (first | refine blk_drewN ?_ _ | refine blk_drew ?_ | refine blk_alloc ?_ _)); exact BK766.out⟩, ⟨by (with_reducible repeat (first | refine blk_drewN ?_ _ | refine blk_drew ?_ | refine blk_alloc ?_ _)); refine blk_far ?_ NB767_768.out _; (with_reducible repeat (first | refine blk_drewN ?_ _ | refine blk_drew ?_ | refine blk_alloc ?_ _)); refine blk_far ?_ NB767_768.out _; (with_reducible repeat (first | refine blk_drewN ?_ _ | refine blk_drew ?_ | refine blk_alloc ?_ _)); exact BK767.out⟩, ⟨by (with_reducible repeat (first | refine blk_drewN ?_ _ | refine blk_drew ?_ | refine blk_alloc ?_ _)); refine blk_put (cs := #[.int .i64 a0_0, .slice none 0 0]) ?_ 1 _ rfl; (with_reducible repeat (first | refine blk_drewN ?_ _ | refine blk_drew ?_ | refine blk_alloc ?_ _)); refine blk_put (cs := #[.int .i64 0, .slice none 0 0]) ?_ 0 _ rfl; (with_reducible repeat (first | refine blk_drewN ?_ _ | refine blk_drew ?_ | refine blk_alloc ?_ _)); exact BK768.out⟩, ⟨bl3 HB GE766 GE767 GE768⟩⟩
 case round =>
  clear H'
  try clear p2
  try clear c4
  try clear c7
  try clear c8
  try clear c9
  try clear hcz5_0
  try clear hcz5_1
  try clear hcz9_0
  try clear hcz9_1
  try clear hfz5_0
  try clear hfz5_1
  try clear hfz9_0
  try clear hfz9_1
  obtain ⟨x4_1, x769001_1, u769001, rfl, HA, HK1, HO_769001, BK766, BK767, BK768, HB⟩ := hrel
  cases gk with
  | zero => exact absurd HA.out (by simp [spec_l1Back.l0])
  | succ k1 =>
   have H := HA.out
   clear HA
   simp only [spec_l1Back.l0] at H
   by_cases c10 : x4_1 < (l0_1.length : Int)
   ·rw [if_pos c10] at H
    have c10b0 : decide (x4_1 < (l0_1.length : Int)) = true := decide_eq_true c10
    clear c10
    by_cases c11 : 0 ≤ x4_1
    ·rw [if_pos c11] at H
     have c11b0 : decide (0 ≤ x4_1) = true := decide_eq_true c11
     clear c11
     by_cases c12 : x769001_1.length < 3518437208883
     ·rw [if_pos c12] at H
      have LMc12 := Aside0.mk c12
      clear c12
      obtain ⟨y771, hy771⟩ : ∃ y_ : List (S31), y_ = (x769001_1 ++ [(⟨(rd_T31 l0_1 x4_1).f1, (rd_T31 l0_1 x4_1).f0, (rd_T31 l0_1 x4_1).f2, (rd_T31 l0_1 x4_1).f3, (rd_T31 l0_1 x4_1).f4⟩ : S31)]) := ⟨_, rfl⟩
      replace H : (spec_l1Back.l0 k1 (wrap64 (x4_1 + 1)) a0_0 l0_1 a0_0 y771) = some (r1, r2) := by first | (rw [hy771]; with_reducible exact H) | (have H2_ := (Option.bind_some _ _).symm.trans H; rw [hy771]; with_reducible exact H2_) | (have H2_ := (Option.bind_some _ _).symm.trans H; with_reducible exact H2_) | with_reducible exact H | (rw [hy771]; exact H) | exact H
      have Ny771 := Aside0.mk hy771
      clear hy771
      have H' := Aside0.mk H
      clear H
      have hnb13 := NB766_767.out
      have hnc13 := NB767_766.out
      have hnb14 := NB766_768.out
      have hnc14 := NB768_766.out
      have hcz15_0 : wr.cell? ⟨gb766, 0, none⟩ = some (.int .i64 a0_0) := (blk_cell BK766.out 0).trans rfl
      have hcz15_1 : wr.cell? ⟨gb766, 1, none⟩ = some (.slice A0_1 l0_1.length c0_1) := (blk_cell BK766.out 1).trans rfl
      have hfz15_0 := blk_frozen BK766.out 0
      have hfz15_1 := blk_frozen BK766.out 1
      have p769 : 0 ≤ (x4_1 : Int) := oT (by first | (with_reducible assumption) | assumption)
      have q769 : x4_1 < (l0_1.length : Int) := oT (by first | (with_reducible assumption) | assumption)
      obtain ⟨ad769, e769, hx769_0, hx769_1, hx769_2, hx769_3, hx769_4⟩ := at_T31 HR0_1.out x4_1 p769 q769
      cases e769
      replace hx769_0 := hcb HB.out hx769_0
      replace hx769_1 := hcb HB.out hx769_1
      replace hx769_2 := hcb HB.out hx769_2
      replace hx769_3 := hcb HB.out hx769_3
      replace hx769_4 := hcb HB.out hx769_4
      replace p769 := eq_true p769
      replace q769 := eq_true q769
      go_wp2_with (first | ((with_reducible refine gate_dst (N := 5) rfl ?_); refine box_event ?hg (N := 5) ?hd (cs := #[.int .i64 0, .int .i64 0, .int .i64 0, .int .i64 0, .int .i64 0]) (t := 31) ?hr ?_; (case hd => rfl); (case hg => rfl); (case hr => first | (go_simp; done) | (go_simp; rfl)); intro gb770 hg w16 hbox hb; have n0_ := Aside0.mk (Kd.R_below (Kd.R_elderB (rk HO_769001) gb770 (Nat.le_of_eq hg.symm)) hb); have n1_ := Aside0.mk (blk_below (bk BK766) hb); have n2_ := Aside0.mk (blk_below (bk BK767) hb); have n3_ := Aside0.mk (blk_below (bk BK768) hb); have n4_ := Aside0.mk (below_step (bl3 HB GE766 GE767 GE768) hb); have n5_ := Aside0.mk (hbox); have n6_ := Aside0.mk ((by rw [hg]; exact (below_size (bl3 HB GE766 GE767 GE768)) : w.heap.size ≤ gb770)); have n7_ := Aside0.mk ((by rw [hg]; exact (below_size (bl3 HB GE766 GE767 GE768)) : w.heap.size ≤ gb770)); have n8_ := Aside0.mk ((by rw [hg]; exact Nat.ne_of_lt (blk_lt (bk BK766)) : gb766 ≠ gb770)); have n9_ := Aside0.mk ((by rw [hg]; exact Nat.ne_of_gt (blk_lt (bk BK766)) : gb770 ≠ gb766)); have n10_ := Aside0.mk ((by rw [hg]; exact Nat.ne_of_lt (blk_lt (bk BK767)) : gb767 ≠ gb770)); have n11_ := Aside0.mk ((by rw [hg]; exact Nat.ne_of_gt (blk_lt (bk BK767)) : gb770 ≠ gb767)); have n12_ := Aside0.mk ((by rw [hg]; exact Nat.ne_of_lt (blk_lt (bk BK768)) : gb768 ≠ gb770)); have n13_ := Aside0.mk ((by rw [hg]; exact Nat.ne_of_gt (blk_lt (bk BK768)) : gb770 ≠ gb768)); clear HO_769001; clear BK766; clear BK767; clear BK768; clear HB; have HO_769001 := n0_; have BK766 := n1_; have BK767 := n2_; have BK768 := n3_; have HB := n4_; have BK770 := n5_; have GW770 := n6_; have GE770 := n7_; have NB766_770 := n8_; have NB770_766 := n9_; have NB767_770 := n10_; have NB770_767 := n11_; have NB768_770 := n12_; have NB770_768 := n13_; clear n0_ n1_ n2_ n3_ n4_ n5_ n6_ n7_ n8_ n9_ n10_ n11_ n12_ n13_; clear hb hbox hg; have hnb17 := NB770_766.out; have hnc17 := NB766_770.out; have hnb18 := NB770_767.out; have hnc18 := NB767_770.out; have hnb19 := NB770_768.out; have hnc19 := NB768_770.out; have hcz20_0 : w16.cell? ⟨gb770, 0, none⟩ = some (.int .i64 0) := (blk_cell BK770.out 0).trans rfl; have hcz20_1 : w16.cell? ⟨gb770, 1, none⟩ = some (.int .i64 0) := (blk_cell BK770.out 1).trans rfl; have hcz20_2 : w16.cell? ⟨gb770, 2, none⟩ = some (.int .i64 0) := (blk_cell BK770.out 2).trans rfl; have hcz20_3 : w16.cell? ⟨gb770, 3, none⟩ = some (.int .i64 0) := (blk_cell BK770.out 3).trans rfl; have hcz20_4 : w16.cell? ⟨gb770, 4, none⟩ = some (.int .i64 0) := (blk_cell BK770.out 4).trans rfl; have hfz20_0 := blk_frozen BK770.out 0; have hfz20_1 := blk_frozen BK770.out 1; have hfz20_2 := blk_frozen BK770.out 2; have hfz20_3 := blk_frozen BK770.out 3; have hfz20_4 := blk_frozen BK770.out 4; have hnb21 := NB768_767.out; have hnc21 := NB767_768.out; have hcz22_0 : w16.cell? ⟨gb768, 0, none⟩ = some (.int .i64 a0_0) := (blk_cell BK768.out 0).trans rfl; have hcz22_1 : w16.cell? ⟨gb768, 1, none⟩ = some (u769001) := (blk_cell BK768.out 1).trans rfl; have hfz22_0 := blk_frozen BK768.out 0; have hfz22_1 := blk_frozen BK768.out 1) | ((with_reducible refine gate_builtin (b := .append) (xs := #[.tmp 22, .tmp 34]) rfl ?_); at_builtin; refine Kd.R_append k31 (w0 := w) w.heap.size rfl (.tmp 22) (.tmp 34) 23 31 (.agg #[(.int .i64 0), (.int .i64 0), (.int .i64 0), (.int .i64 0), (.int .i64 0)]) 40 rfl Try.underlying23 info31 rfl (by decide) (by omega) u769001 x769001_1 (⟨(rd_T31 l0_1 x4_1).f1, (rd_T31 l0_1 x4_1).f0, (rd_T31 l0_1 x4_1).f2, (rd_T31 l0_1 x4_1).f3, (rd_T31 l0_1 x4_1).f4⟩ : S31) [.int .i64 ((rd_T31 l0_1 x4_1).f1), .int .i64 ((rd_T31 l0_1 x4_1).f0), .int .i64 ((rd_T31 l0_1 x4_1).f2), .int .i64 ((rd_T31 l0_1 x4_1).f3), .int .i64 ((rd_T31 l0_1 x4_1).f4)] (fun k_ => k_ ≠ gb770) (fun _ => False) rfl (by first | (go_simp; done) | (go_simp; rfl)) ?aP (fun _ hk => hk.elim) ?aF ?aO ?aB ?aS ?aL ?_; (case aP => exact k31_mkM _ _ _ (⟨(rd_T31 l0_1 x4_1).f1, (rd_T31 l0_1 x4_1).f0, (rd_T31 l0_1 x4_1).f2, (rd_T31 l0_1 x4_1).f3, (rd_T31 l0_1 x4_1).f4⟩ : S31)); (case aB => exact (bl4 HB GE766 GE767 GE768 GE770)); (case aF => exact (fun k_ hk => Kd.freshB (g := gb770) (o := .cells #[.int .i64 ((rd_T31 l0_1 x4_1).f0), .int .i64 ((rd_T31 l0_1 x4_1).f1), .int .i64 ((rd_T31 l0_1 x4_1).f2), .int .i64 ((rd_T31 l0_1 x4_1).f3), .int .i64 ((rd_T31 l0_1 x4_1).f4)] 31 (0, 0)) (by (with_reducible repeat (first | refine blk_drewN ?_ _ | refine blk_drew ?_ | refine blk_alloc ?_ _)); refine blk_put (cs := #[.int .i64 ((rd_T31 l0_1 x4_1).f0), .int .i64 ((rd_T31 l0_1 x4_1).f1), .int .i64 ((rd_T31 l0_1 x4_1).f2), .int .i64 ((rd_T31 l0_1 x4_1).f3), .int .i64 0]) ?_ 4 _ rfl; (with_reducible repeat (first | refine blk_drewN ?_ _ | refine blk_drew ?_ | refine blk_alloc ?_ _)); refine blk_put (cs := #[.int .i64 ((rd_T31 l0_1 x4_1).f0), .int .i64 ((rd_T31 l0_1 x4_1).f1), .int .i64 ((rd_T31 l0_1 x4_1).f2), .int .i64 0, .int .i64 0]) ?_ 3 _ rfl; (with_reducible repeat (first | refine blk_drewN ?_ _ | refine blk_drew ?_ | refine blk_alloc ?_ _)); refine blk_put (cs := #[.int .i64 ((rd_T31 l0_1 x4_1).f0), .int .i64 ((rd_T31 l0_1 x4_1).f1), .int .i64 0, .int .i64 0, .int .i64 0]) ?_ 2 _ rfl; (with_reducible repeat (first | refine blk_drewN ?_ _ | refine blk_drew ?_ | refine blk_alloc ?_ _)); refine blk_put (cs := #[.int .i64 ((rd_T31 l0_1 x4_1).f0), .int .i64 0, .int .i64 0, .int .i64 0, .int .i64 0]) ?_ 1 _ rfl; (with_reducible repeat (first | refine blk_drewN ?_ _ | refine blk_drew ?_ | refine blk_alloc ?_ _)); refine blk_put (cs := #[.int .i64 0, .int .i64 0, .int .i64 0, .int .i64 0, .int .i64 0]) ?_ 0 _ rfl; (with_reducible repeat (first | refine blk_drewN ?_ _ | refine blk_drew ?_ | refine blk_alloc ?_ _)); exact BK770.out) k_ hk)); (case aO => exact (by (with_reducible repeat (first | apply Kd.R_alloc | apply Kd.R_drewN | apply Kd.R_drew)); exact Kd.R_mono (Kd.R_far (p := ⟨gb770, 4, none⟩) (Kd.R_far (p := ⟨gb770, 3, none⟩) (Kd.R_far (p := ⟨gb770, 2, none⟩) (Kd.R_far (p := ⟨gb770, 1, none⟩) (Kd.R_far (p := ⟨gb770, 0, none⟩) (Kd.R_mono HO_769001.out (fun k_ hk => (⟨hk, hk.2⟩ : _ ∧ k_ ≠ gb770))) (fun _ hk => hk.2) (.int .i64 ((rd_T31 l0_1 x4_1).f0))) (fun _ hk => hk.2) (.int .i64 ((rd_T31 l0_1 x4_1).f1))) (fun _ hk => hk.2) (.int .i64 ((rd_T31 l0_1 x4_1).f2))) (fun _ hk => hk.2) (.int .i64 ((rd_T31 l0_1 x4_1).f3))) (fun _ hk => hk.2) (.int .i64 ((rd_T31 l0_1 x4_1).f4))) (fun _ hk => hk.1.2))); (case aS => exact (below_size (bl4 HB GE766 GE767 GE768 GE770))); (case aL => have := LMc12.out; omega); intro v772 w23 ho hb hg hat; rw [← Ny771.out] at ho; have n0_ := Aside0.mk (blk_grown (g := gb766) (o := .cells #[.int .i64 a0_0, .slice (some ad769) l0_1.length c0_1] 25 (0, 0)) (by (with_reducible repeat (first | refine blk_drewN ?_ _ | refine blk_drew ?_ | refine blk_alloc ?_ _)); refine blk_far ?_ NB766_770.out _; (with_reducible repeat (first | refine blk_drewN ?_ _ | refine blk_drew ?_ | refine blk_alloc ?_ _)); refine blk_far ?_ NB766_770.out _; (with_reducible repeat (first | refine blk_drewN ?_ _ | refine blk_drew ?_ | refine blk_alloc ?_ _)); refine blk_far ?_ NB766_770.out _; (with_reducible repeat (first | refine blk_drewN ?_ _ | refine blk_drew ?_ | refine blk_alloc ?_ _)); refine blk_far ?_ NB766_770.out _; (with_reducible repeat (first | refine blk_drewN ?_ _ | refine blk_drew ?_ | refine blk_alloc ?_ _)); refine blk_far ?_ NB766_770.out _; (with_reducible repeat (first | refine blk_drewN ?_ _ | refine blk_drew ?_ | refine blk_alloc ?_ _)); exact BK766.out) hg (Kd.R_ne HO_769001.out BK766.out (by decide))); have n1_ := Aside0.mk (blk_grown (g := gb767) (o := .cells #[.int .i64 0, .slice none 0 0] 25 (0, 0)) (by (with_reducible repeat (first | refine blk_drewN ?_ _ | refine blk_drew ?_ | refine blk_alloc ?_ _)); refine blk_far ?_ NB767_770.out _; (with_reducible repeat (first | refine blk_drewN ?_ _ | refine blk_drew ?_ | refine blk_alloc ?_ _)); refine blk_far ?_ NB767_770.out _; (with_reducible repeat (first | refine blk_drewN ?_ _ | refine blk_drew ?_ | refine blk_alloc ?_ _)); refine blk_far ?_ NB767_770.out _; (with_reducible repeat (first | refine blk_drewN ?_ _ | refine blk_drew ?_ | refine blk_alloc ?_ _)); refine blk_far ?_ NB767_770.out _; (with_reducible repeat (first | refine blk_drewN ?_ _ | refine blk_drew ?_ | refine blk_alloc ?_ _)); refine blk_far ?_ NB767_770.out _; (with_reducible repeat (first | refine blk_drewN ?_ _ | refine blk_drew ?_ | refine blk_alloc ?_ _)); exact BK767.out) hg (Kd.R_ne HO_769001.out BK767.out (by decide))); have n2_ := Aside0.mk (blk_grown (g := gb768) (o := .cells #[.int .i64 a0_0, u769001] 25 (0, 0)) (by (with_reducible repeat (first | refine blk_drewN ?_ _ | refine blk_drew ?_ | refine blk_alloc ?_ _)); refine blk_far ?_ NB768_770.out _; (with_reducible repeat (first | refine blk_drewN ?_ _ | refine blk_drew ?_ | refine blk_alloc ?_ _)); refine blk_far ?_ NB768_770.out _; (with_reducible repeat (first | refine blk_drewN ?_ _ | refine blk_drew ?_ | refine blk_alloc ?_ _)); refine blk_far ?_ NB768_770.out _; (with_reducible repeat (first | refine blk_drewN ?_ _ | refine blk_drew ?_ | refine blk_alloc ?_ _)); refine blk_far ?_ NB768_770.out _; (with_reducible repeat (first | refine blk_drewN ?_ _ | refine blk_drew ?_ | refine blk_alloc ?_ _)); refine blk_far ?_ NB768_770.out _; (with_reducible repeat (first | refine blk_drewN ?_ _ | refine blk_drew ?_ | refine blk_alloc ?_ _)); exact BK768.out) hg (Kd.R_ne HO_769001.out BK768.out (by decide))); have n3_ := Aside0.mk (blk_grown (g := gb770) (o := .cells #[.int .i64 ((rd_T31 l0_1 x4_1).f0), .int .i64 ((rd_T31 l0_1 x4_1).f1), .int .i64 ((rd_T31 l0_1 x4_1).f2), .int .i64 ((rd_T31 l0_1 x4_1).f3), .int .i64 ((rd_T31 l0_1 x4_1).f4)] 31 (0, 0)) (by (with_reducible repeat (first | refine blk_drewN ?_ _ | refine blk_drew ?_ | refine blk_alloc ?_ _)); refine blk_put (cs := #[.int .i64 ((rd_T31 l0_1 x4_1).f0), .int .i64 ((rd_T31 l0_1 x4_1).f1), .int .i64 ((rd_T31 l0_1 x4_1).f2), .int .i64 ((rd_T31 l0_1 x4_1).f3), .int .i64 0]) ?_ 4 _ rfl; (with_reducible repeat (first | refine blk_drewN ?_ _ | refine blk_drew ?_ | refine blk_alloc ?_ _)); refine blk_put (cs := #[.int .i64 ((rd_T31 l0_1 x4_1).f0), .int .i64 ((rd_T31 l0_1 x4_1).f1), .int .i64 ((rd_T31 l0_1 x4_1).f2), .int .i64 0, .int .i64 0]) ?_ 3 _ rfl; (with_reducible repeat (first | refine blk_drewN ?_ _ | refine blk_drew ?_ | refine blk_alloc ?_ _)); refine blk_put (cs := #[.int .i64 ((rd_T31 l0_1 x4_1).f0), .int .i64 ((rd_T31 l0_1 x4_1).f1), .int .i64 0, .int .i64 0, .int .i64 0]) ?_ 2 _ rfl; (with_reducible repeat (first | refine blk_drewN ?_ _ | refine blk_drew ?_ | refine blk_alloc ?_ _)); refine blk_put (cs := #[.int .i64 ((rd_T31 l0_1 x4_1).f0), .int .i64 0, .int .i64 0, .int .i64 0, .int .i64 0]) ?_ 1 _ rfl; (with_reducible repeat (first | refine blk_drewN ?_ _ | refine blk_drew ?_ | refine blk_alloc ?_ _)); refine blk_put (cs := #[.int .i64 0, .int .i64 0, .int .i64 0, .int .i64 0, .int .i64 0]) ?_ 0 _ rfl; (with_reducible repeat (first | refine blk_drewN ?_ _ | refine blk_drew ?_ | refine blk_alloc ?_ _)); exact BK770.out) hg (Kd.R_away HO_769001.out (fun _ hk => hk.2))); have n4_ := Aside0.mk (hb); have n5_ := Aside0.mk (ho); clear BK766; clear BK767; clear BK768; clear BK770; clear HB; clear HO_769001; have BK766 := n0_; have BK767 := n1_; have BK768 := n2_; have BK770 := n3_; have HB := n4_; have HO773 := n5_; clear n0_ n1_ n2_ n3_ n4_ n5_; clear ho hb hg hat; obtain ⟨Ao24, co24, eo24⟩ := Kd.R_slice HO773.out; subst eo24; have hcz25_0 : w23.cell? ⟨gb768, 0, none⟩ = some (.int .i64 a0_0) := (blk_cell BK768.out 0).trans rfl; have hcz25_1 : w23.cell? ⟨gb768, 1, none⟩ = some (u769001) := (blk_cell BK768.out 1).trans rfl; have hfz25_0 := blk_frozen BK768.out 0; have hfz25_1 := blk_frozen BK768.out 1))
      go_roundg k1
      case measure => have := HK1.out; omega
      case rel => exact ⟨(wrap64 (x4_1 + 1)), (y771), (.slice Ao24 y771.length co24), (by first | rfl | (simp; done) | (simp [*]; done)), H', ⟨by have := HK1.out; omega⟩, ⟨by (with_reducible repeat (first | apply Kd.R_alloc | apply Kd.R_drewN | apply Kd.R_drew)); exact Kd.R_mono (Kd.R_far (p := ⟨gb768, 1, none⟩) (Kd.R_types HO773.out BK768.out (by decide)) (fun _ hk => hk.2) (.slice Ao24 y771.length co24)) (fun _ hk => trivial)⟩, ⟨by (with_reducible repeat (first | refine blk_drewN ?_ _ | refine blk_drew ?_ | refine blk_alloc ?_ _)); refine blk_far ?_ NB766_768.out _; (with_reducible repeat (first | refine blk_drewN ?_ _ | refine blk_drew ?_ | refine blk_alloc ?_ _)); exact BK766.out⟩, ⟨by (with_reducible repeat (first | refine blk_drewN ?_ _ | refine blk_drew ?_ | refine blk_alloc ?_ _)); refine blk_far ?_ NB767_768.out _; (with_reducible repeat (first | refine blk_drewN ?_ _ | refine blk_drew ?_ | refine blk_alloc ?_ _)); exact BK767.out⟩, ⟨by (with_reducible repeat (first | refine blk_drewN ?_ _ | refine blk_drew ?_ | refine blk_alloc ?_ _)); refine blk_put (cs := #[.int .i64 a0_0, u769001]) ?_ 1 _ rfl; (with_reducible repeat (first | refine blk_drewN ?_ _ | refine blk_drew ?_ | refine blk_alloc ?_ _)); exact BK768.out⟩, ⟨bl4 HB GE766 GE767 GE768 GE770⟩⟩
     ·rw [if_neg c12] at H
      exact absurd H (by simp)
    ·rw [if_neg c11] at H
     exact absurd H (by simp)
   ·rw [if_neg c10] at H
    have c10b0 : decide (x4_1 < (l0_1.length : Int)) = false := decide_eq_false c10
    clear c10
    simp only [Option.some.injEq, Prod.mk.injEq] at H
    obtain ⟨rfl, rfl⟩ := H
    have hnb26 := NB766_767.out
    have hnc26 := NB767_766.out
    have hnb27 := NB766_768.out
    have hnc27 := NB768_766.out
    have hcz28_0 : wr.cell? ⟨gb766, 0, none⟩ = some (.int .i64 a0_0) := (blk_cell BK766.out 0).trans rfl
    have hcz28_1 : wr.cell? ⟨gb766, 1, none⟩ = some (.slice A0_1 l0_1.length c0_1) := (blk_cell BK766.out 1).trans rfl
    have hfz28_0 := blk_frozen BK766.out 0
    have hfz28_1 := blk_frozen BK766.out 1
    have hnb29 := NB768_767.out
    have hnc29 := NB767_768.out
    have hcz30_0 : wr.cell? ⟨gb768, 0, none⟩ = some (.int .i64 a0_0) := (blk_cell BK768.out 0).trans rfl
    have hcz30_1 : wr.cell? ⟨gb768, 1, none⟩ = some (u769001) := (blk_cell BK768.out 1).trans rfl
    have hfz30_0 := blk_frozen BK768.out 0
    have hfz30_1 := blk_frozen BK768.out 1
    have hcz31_0 : wr.cell? ⟨gb767, 0, none⟩ = some (.int .i64 0) := (blk_cell BK767.out 0).trans rfl
    have hcz31_1 : wr.cell? ⟨gb767, 1, none⟩ = some (.slice none 0 0) := (blk_cell BK767.out 1).trans rfl
    have hfz31_0 := blk_frozen BK767.out 0
    have hfz31_1 := blk_frozen BK767.out 1
    obtain ⟨Ao32, co32, eo32⟩ := Kd.R_slice HO_769001.out
    subst eo32
    go_wp2
    refine bodyPost_ret (results_cell_row rfl _ _ gb767 25 #[.int .i64 a0_0, .slice Ao32 x769001_1.length co32] (0, 0) _ rfl (by (with_reducible repeat (first | refine blk_drewN ?_ _ | refine blk_drew ?_ | refine blk_alloc ?_ _)); refine blk_put (cs := #[.int .i64 a0_0, .slice none 0 0]) ?_ 1 _ rfl; (with_reducible repeat (first | refine blk_drewN ?_ _ | refine blk_drew ?_ | refine blk_alloc ?_ _)); refine blk_put (cs := #[.int .i64 0, .slice none 0 0]) ?_ 0 _ rfl; (with_reducible repeat (first | refine blk_drewN ?_ _ | refine blk_drew ?_ | refine blk_alloc ?_ _)); exact BK767.out) Try.underlying25 rfl (by kernel_rfl)) rfl ?_
    exact ⟨_, by first | rfl | (simp [errW_none, errW_some] <;> rfl) | (simp [*, errW_none, errW_some] <;> rfl), by (with_reducible repeat (first | apply Kd.R_alloc | apply Kd.R_drewN | apply Kd.R_drew)); exact Kd.R_mono (Kd.R_far (p := ⟨gb767, 1, none⟩) (Kd.R_far (p := ⟨gb767, 0, none⟩) (Kd.R_types HO_769001.out BK767.out (by decide)) (fun _ hk => hk.2) (.int .i64 a0_0)) (fun _ hk => hk.2) (.slice Ao32 x769001_1.length co32)) (fun _ hk => trivial), bl3 HB GE766 GE767 GE768⟩

end Go.Proofs.Ythgihpbpebbebaa.F
