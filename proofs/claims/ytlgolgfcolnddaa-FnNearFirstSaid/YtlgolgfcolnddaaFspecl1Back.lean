-- Printed by wip/px/px.py of this claim's repository (the kit's printer, extended there). Lean checks it.
import Derived.Test.YtlgolgfcolnddaaFKinds
namespace Go.Proofs.Ytlgolgfcolnddaa.F
open Go.RowKit Go.Proofs.YtlgolgfcolnddaaW.PrintWords Go.Proofs.YtlgolgfcolnddaaW.PrintLast Go.Proofs.YtlgolgfcolnddaaW.PrintMore
attribute [local go_sem] max2_int min2_int max_two min_two max_three min_three max_four min_four   -- for this text's walks alone
set_option linter.unusedVariables false
set_option linter.unusedSimpArgs false

/-! ### spec_l1Back: function 108 -/
def spec_l1Back.l0 : Nat → Int → Int → List (S58) → Int → List (S58) → Option (Int × (List (S58)))
 | 0, _, _, _, _, _ => none
 | k + 1, x4, x667000, x667001, x669000, x669001 => if x4 < (x667001.length : Int) then (if 0 ≤ x4 then (if x669001.length < 3518437208883 then (spec_l1Back.l0 k (wrap64 (x4 + 1)) x667000 x667001 x669000 (x669001 ++ [(⟨(rd_T58 x667001 x4).f1, (rd_T58 x667001 x4).f0, (rd_T58 x667001 x4).f2, (rd_T58 x667001 x4).f3, (rd_T58 x667001 x4).f4⟩ : S58)])) else (none)) else (none)) else (some (x669000, x669001))
def spec_l1Back.f (k : Nat) (a0_0 : Int) (l0_1 : List (S58)) : Option (Int × (List (S58))) := spec_l1Back.l0 k 0 a0_0 l0_1 a0_0 ([] : List (S58))
theorem spec_l1Back.mono_l : ∀ k, (∀ y0 y1 y2 y3 y4, LeO (spec_l1Back.l0 k y0 y1 y2 y3 y4) (spec_l1Back.l0 (k + 1) y0 y1 y2 y3 y4))
 | 0 => fun _ _ _ _ _ r h => by simp [spec_l1Back.l0] at h
 | k + 1 => by
  have ih0 := spec_l1Back.mono_l k
  ·intro y0 y1 y2 y3 y4
   unfold spec_l1Back.l0
   repeat' first
   | (with_reducible exact ih0 _ _ _ _ _)
   | (with_reducible exact LeO.refl _)
   | (with_reducible exact LeO.none _)
   | (with_reducible refine LeO.ite ?_ ?_)
   | (with_reducible refine LeO.bind ?_ (fun _ => ?_))
   | exact ih0 _ _ _ _ _
   | exact LeO.none _
   | refine LeO.ite ?_ ?_
   | refine LeO.bind ?_ (fun _ => ?_)
theorem spec_l1Back.mono : ∀ a0 a1 k, LeO (spec_l1Back.f k a0 a1) (spec_l1Back.f (k + 1) a0 a1) := by
 intro a0 a1 k
 have ih0 := spec_l1Back.mono_l k
 unfold spec_l1Back.f
 repeat' first
   | (with_reducible exact ih0 _ _ _ _ _)
   | (with_reducible exact LeO.refl _)
   | (with_reducible exact LeO.none _)
   | (with_reducible refine LeO.ite ?_ ?_)
   | (with_reducible refine LeO.bind ?_ (fun _ => ?_))
   | exact ih0 _ _ _ _ _
   | exact LeO.none _
   | refine LeO.ite ?_ ?_
   | refine LeO.bind ?_ (fun _ => ?_)
set_option maxHeartbeats 8000000 in
set_option maxRecDepth 100000 in
theorem spec_l1Back.calls (k : Nat) (a0_0 : Int) (A0_1 : Option Addr) (c0_1 : Nat) (l0_1 : List (S58)) (r1 : Int) (r2 : List (S58)) (w : World) (hr0_1 : Kd.C k58 w A0_1 l0_1.length l0_1) (hc0_1 : l0_1.length ≤ c0_1) (h : spec_l1Back.f k a0_0 l0_1 = some (r1, r2)) :
  Calls Try.prog 108 #[.agg #[.int .i64 a0_0, .slice A0_1 l0_1.length c0_1]] w fun e w' => ∃ v1_ : Value, e = .returned (.agg #[.int .i64 r1, v1_]) ∧ Kd.R k58 58 w' w.heap.size (fun _ => True) v1_ r2 ∧ Below w.heap.size w w' := by
 have hu25 := Try.underlying25
 have hu58 := Try.underlying58
 have HR0_1 := ak hr0_1
 have HC0_1 := ak hc0_1
 clear hr0_1 hc0_1
 have HB := ak (Below.refl w.heap.size w)
 have H : (spec_l1Back.l0 k 0 a0_0 l0_1 a0_0 ([] : List (S58))) = some (r1, r2) := h
 clear h
 have H' := ak H
 clear H
 go_enter Try.func108, Try.ntmps108
 go_wp2_with (first | ((with_reducible refine gate_dst (N := 1) rfl ?_); refine box_event ?hg (N := 1) ?hd (cs := #[.int .i64 a0_0, .slice A0_1 l0_1.length c0_1]) (t := 25) ?hr ?_; (case hd => rfl); (case hg => rfl); (case hr => first | (go_simp; done) | (go_simp; rfl)); intro gb666 hg w2 hbox hb; have BK666 := ak (hbox); have GW666 := ak ((by rw [hg]; exact (below_size (bl HB)) : w.heap.size ≤ gb666)); have GE666 := ak ((by rw [hg]; exact (below_size (bl HB)) : w.heap.size ≤ gb666)); replace HB := ak (below_step (bl HB) hb); clear hb hbox hg) | ((with_reducible refine gate_dst (N := 2) rfl ?_); refine box_event ?hg (N := 2) ?hd (cs := #[.int .i64 0, .slice none 0 0]) (t := 25) ?hr ?_; (case hd => rfl); (case hg => rfl); (case hr => first | (go_simp; done) | (go_simp; rfl)); intro gb667 hg w3 hbox hb; have BK667 := ak (hbox); have GW667 := ak ((by rw [hg]; exact (below_size (bl1 HB GE666)) : w.heap.size ≤ gb667)); have GE667 := ak ((by rw [hg]; exact (below_size (bl1 HB GE666)) : w.heap.size ≤ gb667)); replace HB := ak (below_step (bl1 HB GE666) hb); have NB666_667 := ak ((by rw [hg]; exact Nat.ne_of_lt (blk_lt (bk BK666)) : gb666 ≠ gb667)); have NB667_666 := ak ((by rw [hg]; exact Nat.ne_of_gt (blk_lt (bk BK666)) : gb667 ≠ gb666)); replace BK666 := ak (blk_below (bk BK666) hb); clear hb hbox hg; have hnb4 := NB666_667.out; have hnc4 := NB667_666.out; have hcz5_0 := bc w3 BK666 0 (.int .i64 a0_0) rfl; have hcz5_1 := bc w3 BK666 1 (.slice A0_1 l0_1.length c0_1) rfl; have hfz5_0 := fz BK666 0; have hfz5_1 := fz BK666 1) | ((with_reducible refine gate_dst (N := 3) rfl ?_); refine box_event ?hg (N := 3) ?hd (cs := #[.int .i64 0, .slice none 0 0]) (t := 25) ?hr ?_; (case hd => rfl); (case hg => rfl); (case hr => first | (go_simp; done) | (go_simp; rfl)); intro gb668 hg w6 hbox hb; have BK668 := ak (hbox); have GW668 := ak ((by rw [hg]; exact (below_size (bl2 HB GE666 GE667)) : w.heap.size ≤ gb668)); have GE668 := ak ((by rw [hg]; exact (below_size (bl2 HB GE666 GE667)) : w.heap.size ≤ gb668)); replace HB := ak (below_step (bl2 HB GE666 GE667) hb); have NB666_668 := ak ((by rw [hg]; exact Nat.ne_of_lt (blk_lt (bk BK666)) : gb666 ≠ gb668)); have NB668_666 := ak ((by rw [hg]; exact Nat.ne_of_gt (blk_lt (bk BK666)) : gb668 ≠ gb666)); replace BK666 := ak (blk_below (bk BK666) hb); have NB667_668 := ak ((by rw [hg]; exact Nat.ne_of_lt (blk_lt (bk BK667)) : gb667 ≠ gb668)); have NB668_667 := ak ((by rw [hg]; exact Nat.ne_of_gt (blk_lt (bk BK667)) : gb668 ≠ gb667)); replace BK667 := ak (blk_below (bk BK667) hb); clear hb hbox hg; have hnb7 := NB668_666.out; have hnc7 := NB666_668.out; have hnb8 := NB668_667.out; have hnc8 := NB667_668.out; have hcz9_0 := bc w6 BK668 0 (.int .i64 0) rfl; have hcz9_1 := bc w6 BK668 1 (.slice none 0 0) rfl; have hfz9_0 := fz BK668 0; have hfz9_1 := fz BK668 1))
 go_loopg [4] k (fun kq v4 w' => ∃ (x4_1 : Int) (x669001_1 : List (S58)) (u669001 : Value), v4 = .int .i64 x4_1 ∧ Aside0 (spec_l1Back.l0 kq x4_1 a0_0 l0_1 a0_0 x669001_1 = some (r1, r2)) ∧ Aside0 (kq ≤ k) ∧ Aside0 (Kd.R k58 58 w' w.heap.size (fun _ => True) u669001 x669001_1) ∧ Aside0 (w'.heap[gb666]? = some (.cells #[.int .i64 a0_0, (.slice A0_1 l0_1.length c0_1)] 25 (0, 0))) ∧ Aside0 (w'.heap[gb667]? = some (.cells #[.int .i64 0, (.slice none 0 0)] 25 (0, 0))) ∧ Aside0 (w'.heap[gb668]? = some (.cells #[.int .i64 a0_0, u669001] 25 (0, 0))) ∧ Aside0 (Below w.heap.size w w'))
 case atStart => exact ⟨(0), (([] : List (S58))), (.slice none 0 0), (by first | rfl | (simp; done) | (simp [*]; done)), H', ⟨Nat.le_refl _⟩, ⟨by first | exact Kd.R_nil _ _ _ _ _ | exact Kd.N_nil _ _ _ _ _ | exact Kd.V_nil _ _ _ _ _ | exact Kd.Q_nil _ _ _ _ _ | exact Kd.S_nil _ _ _ _ _⟩, ⟨by (with_reducible repeat (first | refine blk_drewN ?_ _ | refine blk_drew ?_ | refine blk_alloc ?_ _)); refine blk_far ?_ NB666_668.out _; refine blk_far ?_ NB666_668.out _; (with_reducible repeat (first | refine blk_drewN ?_ _ | refine blk_drew ?_ | refine blk_alloc ?_ _)); exact BK666.out⟩, ⟨by (with_reducible repeat (first | refine blk_drewN ?_ _ | refine blk_drew ?_ | refine blk_alloc ?_ _)); refine blk_far ?_ NB667_668.out _; refine blk_far ?_ NB667_668.out _; (with_reducible repeat (first | refine blk_drewN ?_ _ | refine blk_drew ?_ | refine blk_alloc ?_ _)); exact BK667.out⟩, ⟨by (with_reducible repeat (first | refine blk_drewN ?_ _ | refine blk_drew ?_ | refine blk_alloc ?_ _)); refine blk_put (cs := #[.int .i64 a0_0, .slice none 0 0]) ?_ 1 _ rfl; refine blk_put (cs := #[.int .i64 0, .slice none 0 0]) ?_ 0 _ rfl; (with_reducible repeat (first | refine blk_drewN ?_ _ | refine blk_drew ?_ | refine blk_alloc ?_ _)); exact BK668.out⟩, ⟨bl3 HB GE666 GE667 GE668⟩⟩
 clear H'
 try clear c1
 try clear p2
 try clear c4
 try clear c7
 try clear c8
 try clear hcz5_0
 try clear hcz5_1
 try clear hcz9_0
 try clear hcz9_1
 try clear hfz5_0
 try clear hfz5_1
 try clear hfz9_0
 try clear hfz9_1
 obtain ⟨x4_1, x669001_1, u669001, rfl, HA, HK1, HO_669001, BK666, BK667, BK668, HB⟩ := hrel
 cases gk with
 | zero => exact absurd HA.out (by simp [spec_l1Back.l0])
 | succ k1 =>
  have H := HA.out
  clear HA
  simp only [spec_l1Back.l0] at H
  by_cases c10 : x4_1 < (l0_1.length : Int)
  rotate_left
  ·rw [if_neg c10] at H
   have c10b0 : decide (x4_1 < (l0_1.length : Int)) = false := decide_eq_false c10
   clear c10
   simp only [Option.some.injEq, Prod.mk.injEq] at H
   obtain ⟨rfl, rfl⟩ := H
   have hnb26 := NB666_667.out
   have hnc26 := NB667_666.out
   have hnb27 := NB666_668.out
   have hnc27 := NB668_666.out
   have hcz28_0 := bc wr BK666 0 (.int .i64 a0_0) rfl
   have hcz28_1 := bc wr BK666 1 (.slice A0_1 l0_1.length c0_1) rfl
   have hfz28_0 := fz BK666 0
   have hfz28_1 := fz BK666 1
   have hnb29 := NB668_667.out
   have hnc29 := NB667_668.out
   have hcz30_0 := bc wr BK668 0 (.int .i64 a0_0) rfl
   have hcz30_1 := bc wr BK668 1 (u669001) rfl
   have hfz30_0 := fz BK668 0
   have hfz30_1 := fz BK668 1
   have hcz31_0 := bc wr BK667 0 (.int .i64 0) rfl
   have hcz31_1 := bc wr BK667 1 (.slice none 0 0) rfl
   have hfz31_0 := fz BK667 0
   have hfz31_1 := fz BK667 1
   obtain ⟨Ao32, co32, eo32⟩ := Kd.R_slice HO_669001.out
   subst eo32
   go_wp2
   refine bodyPost_ret (results_cell_row rfl _ _ gb667 25 #[.int .i64 a0_0, .slice Ao32 x669001_1.length co32] (0, 0) _ rfl (by (with_reducible repeat (first | refine blk_drewN ?_ _ | refine blk_drew ?_ | refine blk_alloc ?_ _)); refine blk_put (cs := #[.int .i64 a0_0, .slice none 0 0]) ?_ 1 _ rfl; refine blk_put (cs := #[.int .i64 0, .slice none 0 0]) ?_ 0 _ rfl; (with_reducible repeat (first | refine blk_drewN ?_ _ | refine blk_drew ?_ | refine blk_alloc ?_ _)); exact BK667.out) Try.underlying25 rfl (by kernel_rfl)) rfl ?_
   exact ⟨_, by first | rfl | (simp [errW_none, errW_some] <;> rfl) | (simp [*, errW_none, errW_some] <;> rfl), by (with_reducible repeat (first | apply Kd.R_alloc | apply Kd.R_drewN | apply Kd.R_drew)); exact Kd.R_mono (Kd.R_far (p := ⟨gb667, 1, none⟩) (Kd.R_far (p := ⟨gb667, 0, none⟩) (Kd.R_types HO_669001.out BK667.out (by decide)) (fun _ hk => hk.2) (.int .i64 a0_0)) (fun _ hk => hk.2) (.slice Ao32 x669001_1.length co32)) (fun _ hk => trivial), bl3 HB GE666 GE667 GE668⟩
  rw [if_pos c10] at H
  have c10b0 : decide (x4_1 < (l0_1.length : Int)) = true := decide_eq_true c10
  clear c10
  by_cases c11 : 0 ≤ x4_1
  rotate_left
  ·rw [if_neg c11] at H
   exact absurd H (by simp)
  rw [if_pos c11] at H
  have c11b0 : decide (0 ≤ x4_1) = true := decide_eq_true c11
  clear c11
  by_cases c12 : x669001_1.length < 3518437208883
  rotate_left
  ·rw [if_neg c12] at H
   exact absurd H (by simp)
  rw [if_pos c12] at H
  have LMc12 := ak c12
  clear c12
  obtain ⟨y671, hy671⟩ : ∃ y_ : List (S58), y_ = (x669001_1 ++ [(⟨(rd_T58 l0_1 x4_1).f1, (rd_T58 l0_1 x4_1).f0, (rd_T58 l0_1 x4_1).f2, (rd_T58 l0_1 x4_1).f3, (rd_T58 l0_1 x4_1).f4⟩ : S58)]) := ⟨_, rfl⟩
  replace H : (spec_l1Back.l0 k1 (wrap64 (x4_1 + 1)) a0_0 l0_1 a0_0 y671) = some (r1, r2) := by first | (rw [hy671]; with_reducible exact H) | (have H2_ := (Option.bind_some _ _).symm.trans H; rw [hy671]; with_reducible exact H2_) | (have H2_ := (Option.bind_some _ _).symm.trans H; with_reducible exact H2_) | with_reducible exact H | (rw [hy671]; exact H) | exact H
  have Ny671 := ak hy671
  clear hy671
  have H' := ak H
  clear H
  have hnb13 := NB666_667.out
  have hnc13 := NB667_666.out
  have hnb14 := NB666_668.out
  have hnc14 := NB668_666.out
  have hcz15_0 := bc wr BK666 0 (.int .i64 a0_0) rfl
  have hcz15_1 := bc wr BK666 1 (.slice A0_1 l0_1.length c0_1) rfl
  have hfz15_0 := fz BK666 0
  have hfz15_1 := fz BK666 1
  have p669 : 0 ≤ (x4_1 : Int) := oT (by first | (with_reducible assumption) | assumption)
  have q669 : x4_1 < (l0_1.length : Int) := oT (by first | (with_reducible assumption) | assumption)
  obtain ⟨ad669, e669, hx669_0, hx669_1, hx669_2, hx669_3, hx669_4⟩ := at_T58 HR0_1.out x4_1 p669 q669
  cases e669
  replace hx669_0 := hcb HB.out hx669_0
  replace hx669_1 := hcb HB.out hx669_1
  replace hx669_2 := hcb HB.out hx669_2
  replace hx669_3 := hcb HB.out hx669_3
  replace hx669_4 := hcb HB.out hx669_4
  replace p669 := eq_true p669
  replace q669 := eq_true q669
  go_wp2_with (first | ((with_reducible refine gate_dst (N := 5) rfl ?_); refine box_event ?hg (N := 5) ?hd (cs := #[.int .i64 0, .int .i64 0, .int .i64 0, .int .i64 0, .int .i64 0]) (t := 58) ?hr ?_; (case hd => rfl); (case hg => rfl); (case hr => first | (go_simp; done) | (go_simp; rfl)); intro gb670 hg w16 hbox hb; replace HO_669001 := ak (Kd.R_below (Kd.R_elderB (rk HO_669001) gb670 (Nat.le_of_eq hg.symm)) hb); have BK670 := ak (hbox); have GW670 := ak ((by rw [hg]; exact (below_size (bl3 HB GE666 GE667 GE668)) : w.heap.size ≤ gb670)); have GE670 := ak ((by rw [hg]; exact (below_size (bl3 HB GE666 GE667 GE668)) : w.heap.size ≤ gb670)); replace HB := ak (below_step (bl3 HB GE666 GE667 GE668) hb); have NB666_670 := ak ((by rw [hg]; exact Nat.ne_of_lt (blk_lt (bk BK666)) : gb666 ≠ gb670)); have NB670_666 := ak ((by rw [hg]; exact Nat.ne_of_gt (blk_lt (bk BK666)) : gb670 ≠ gb666)); replace BK666 := ak (blk_below (bk BK666) hb); have NB667_670 := ak ((by rw [hg]; exact Nat.ne_of_lt (blk_lt (bk BK667)) : gb667 ≠ gb670)); have NB670_667 := ak ((by rw [hg]; exact Nat.ne_of_gt (blk_lt (bk BK667)) : gb670 ≠ gb667)); replace BK667 := ak (blk_below (bk BK667) hb); have NB668_670 := ak ((by rw [hg]; exact Nat.ne_of_lt (blk_lt (bk BK668)) : gb668 ≠ gb670)); have NB670_668 := ak ((by rw [hg]; exact Nat.ne_of_gt (blk_lt (bk BK668)) : gb670 ≠ gb668)); replace BK668 := ak (blk_below (bk BK668) hb); clear hb hbox hg; have hnb17 := NB670_666.out; have hnc17 := NB666_670.out; have hnb18 := NB670_667.out; have hnc18 := NB667_670.out; have hnb19 := NB670_668.out; have hnc19 := NB668_670.out; have hcz20_0 := bc w16 BK670 0 (.int .i64 0) rfl; have hcz20_1 := bc w16 BK670 1 (.int .i64 0) rfl; have hcz20_2 := bc w16 BK670 2 (.int .i64 0) rfl; have hcz20_3 := bc w16 BK670 3 (.int .i64 0) rfl; have hcz20_4 := bc w16 BK670 4 (.int .i64 0) rfl; have hfz20_0 := fz BK670 0; have hfz20_1 := fz BK670 1; have hfz20_2 := fz BK670 2; have hfz20_3 := fz BK670 3; have hfz20_4 := fz BK670 4; have hnb21 := NB668_667.out; have hnc21 := NB667_668.out; have hcz22_0 := bc w16 BK668 0 (.int .i64 a0_0) rfl; have hcz22_1 := bc w16 BK668 1 (u669001) rfl; have hfz22_0 := fz BK668 0; have hfz22_1 := fz BK668 1) | ((with_reducible refine gate_builtin (b := .append) (xs := #[.tmp 22, .tmp 34]) rfl ?_); at_builtin; refine Kd.R_append k58 (w0 := w) w.heap.size rfl (.tmp 22) (.tmp 34) 23 58 (.agg #[(.int .i64 0), (.int .i64 0), (.int .i64 0), (.int .i64 0), (.int .i64 0)]) 40 rfl Try.underlying23 info58 rfl (by decide) (by omega) u669001 x669001_1 (⟨(rd_T58 l0_1 x4_1).f1, (rd_T58 l0_1 x4_1).f0, (rd_T58 l0_1 x4_1).f2, (rd_T58 l0_1 x4_1).f3, (rd_T58 l0_1 x4_1).f4⟩ : S58) [.int .i64 ((rd_T58 l0_1 x4_1).f1), .int .i64 ((rd_T58 l0_1 x4_1).f0), .int .i64 ((rd_T58 l0_1 x4_1).f2), .int .i64 ((rd_T58 l0_1 x4_1).f3), .int .i64 ((rd_T58 l0_1 x4_1).f4)] (fun k_ => k_ ≠ gb670) (fun _ => False) rfl (by first | (go_simp; done) | (go_simp; rfl)) ?aP (fun _ hk => hk.elim) ?aF ?aO ?aB ?aS ?aL ?_; (case aP => exact k58_mkM _ _ _ (⟨(rd_T58 l0_1 x4_1).f1, (rd_T58 l0_1 x4_1).f0, (rd_T58 l0_1 x4_1).f2, (rd_T58 l0_1 x4_1).f3, (rd_T58 l0_1 x4_1).f4⟩ : S58)); (case aB => exact (bl4 HB GE666 GE667 GE668 GE670)); (case aF => exact (fun k_ hk => Kd.freshB (g := gb670) (o := .cells #[.int .i64 ((rd_T58 l0_1 x4_1).f0), .int .i64 ((rd_T58 l0_1 x4_1).f1), .int .i64 ((rd_T58 l0_1 x4_1).f2), .int .i64 ((rd_T58 l0_1 x4_1).f3), .int .i64 ((rd_T58 l0_1 x4_1).f4)] 58 (0, 0)) (by (with_reducible repeat (first | refine blk_drewN ?_ _ | refine blk_drew ?_ | refine blk_alloc ?_ _)); refine blk_put (cs := #[.int .i64 ((rd_T58 l0_1 x4_1).f0), .int .i64 ((rd_T58 l0_1 x4_1).f1), .int .i64 ((rd_T58 l0_1 x4_1).f2), .int .i64 ((rd_T58 l0_1 x4_1).f3), .int .i64 0]) ?_ 4 _ rfl; refine blk_put (cs := #[.int .i64 ((rd_T58 l0_1 x4_1).f0), .int .i64 ((rd_T58 l0_1 x4_1).f1), .int .i64 ((rd_T58 l0_1 x4_1).f2), .int .i64 0, .int .i64 0]) ?_ 3 _ rfl; refine blk_put (cs := #[.int .i64 ((rd_T58 l0_1 x4_1).f0), .int .i64 ((rd_T58 l0_1 x4_1).f1), .int .i64 0, .int .i64 0, .int .i64 0]) ?_ 2 _ rfl; refine blk_put (cs := #[.int .i64 ((rd_T58 l0_1 x4_1).f0), .int .i64 0, .int .i64 0, .int .i64 0, .int .i64 0]) ?_ 1 _ rfl; refine blk_put (cs := #[.int .i64 0, .int .i64 0, .int .i64 0, .int .i64 0, .int .i64 0]) ?_ 0 _ rfl; (with_reducible repeat (first | refine blk_drewN ?_ _ | refine blk_drew ?_ | refine blk_alloc ?_ _)); exact BK670.out) k_ hk)); (case aO => exact (by (with_reducible repeat (first | apply Kd.R_alloc | apply Kd.R_drewN | apply Kd.R_drew)); exact Kd.R_mono (Kd.R_far (p := ⟨gb670, 4, none⟩) (Kd.R_far (p := ⟨gb670, 3, none⟩) (Kd.R_far (p := ⟨gb670, 2, none⟩) (Kd.R_far (p := ⟨gb670, 1, none⟩) (Kd.R_far (p := ⟨gb670, 0, none⟩) (Kd.R_mono HO_669001.out (fun k_ hk => (⟨hk, hk.2⟩ : _ ∧ k_ ≠ gb670))) (fun _ hk => hk.2) (.int .i64 ((rd_T58 l0_1 x4_1).f0))) (fun _ hk => hk.2) (.int .i64 ((rd_T58 l0_1 x4_1).f1))) (fun _ hk => hk.2) (.int .i64 ((rd_T58 l0_1 x4_1).f2))) (fun _ hk => hk.2) (.int .i64 ((rd_T58 l0_1 x4_1).f3))) (fun _ hk => hk.2) (.int .i64 ((rd_T58 l0_1 x4_1).f4))) (fun _ hk => hk.1.2))); (case aS => exact (below_size (bl4 HB GE666 GE667 GE668 GE670))); (case aL => have := LMc12.out; omega); intro v672 w23 ho hb hg hat; rw [← Ny671.out] at ho; have n0_ := ak (blk_grown (g := gb666) (o := .cells #[.int .i64 a0_0, .slice (some ad669) l0_1.length c0_1] 25 (0, 0)) (by (with_reducible repeat (first | refine blk_drewN ?_ _ | refine blk_drew ?_ | refine blk_alloc ?_ _)); refine blk_far ?_ NB666_670.out _; refine blk_far ?_ NB666_670.out _; refine blk_far ?_ NB666_670.out _; refine blk_far ?_ NB666_670.out _; refine blk_far ?_ NB666_670.out _; (with_reducible repeat (first | refine blk_drewN ?_ _ | refine blk_drew ?_ | refine blk_alloc ?_ _)); exact BK666.out) hg (Kd.R_ne HO_669001.out BK666.out (by decide))); have n1_ := ak (blk_grown (g := gb667) (o := .cells #[.int .i64 0, .slice none 0 0] 25 (0, 0)) (by (with_reducible repeat (first | refine blk_drewN ?_ _ | refine blk_drew ?_ | refine blk_alloc ?_ _)); refine blk_far ?_ NB667_670.out _; refine blk_far ?_ NB667_670.out _; refine blk_far ?_ NB667_670.out _; refine blk_far ?_ NB667_670.out _; refine blk_far ?_ NB667_670.out _; (with_reducible repeat (first | refine blk_drewN ?_ _ | refine blk_drew ?_ | refine blk_alloc ?_ _)); exact BK667.out) hg (Kd.R_ne HO_669001.out BK667.out (by decide))); have n2_ := ak (blk_grown (g := gb668) (o := .cells #[.int .i64 a0_0, u669001] 25 (0, 0)) (by (with_reducible repeat (first | refine blk_drewN ?_ _ | refine blk_drew ?_ | refine blk_alloc ?_ _)); refine blk_far ?_ NB668_670.out _; refine blk_far ?_ NB668_670.out _; refine blk_far ?_ NB668_670.out _; refine blk_far ?_ NB668_670.out _; refine blk_far ?_ NB668_670.out _; (with_reducible repeat (first | refine blk_drewN ?_ _ | refine blk_drew ?_ | refine blk_alloc ?_ _)); exact BK668.out) hg (Kd.R_ne HO_669001.out BK668.out (by decide))); have n3_ := ak (blk_grown (g := gb670) (o := .cells #[.int .i64 ((rd_T58 l0_1 x4_1).f0), .int .i64 ((rd_T58 l0_1 x4_1).f1), .int .i64 ((rd_T58 l0_1 x4_1).f2), .int .i64 ((rd_T58 l0_1 x4_1).f3), .int .i64 ((rd_T58 l0_1 x4_1).f4)] 58 (0, 0)) (by (with_reducible repeat (first | refine blk_drewN ?_ _ | refine blk_drew ?_ | refine blk_alloc ?_ _)); refine blk_put (cs := #[.int .i64 ((rd_T58 l0_1 x4_1).f0), .int .i64 ((rd_T58 l0_1 x4_1).f1), .int .i64 ((rd_T58 l0_1 x4_1).f2), .int .i64 ((rd_T58 l0_1 x4_1).f3), .int .i64 0]) ?_ 4 _ rfl; refine blk_put (cs := #[.int .i64 ((rd_T58 l0_1 x4_1).f0), .int .i64 ((rd_T58 l0_1 x4_1).f1), .int .i64 ((rd_T58 l0_1 x4_1).f2), .int .i64 0, .int .i64 0]) ?_ 3 _ rfl; refine blk_put (cs := #[.int .i64 ((rd_T58 l0_1 x4_1).f0), .int .i64 ((rd_T58 l0_1 x4_1).f1), .int .i64 0, .int .i64 0, .int .i64 0]) ?_ 2 _ rfl; refine blk_put (cs := #[.int .i64 ((rd_T58 l0_1 x4_1).f0), .int .i64 0, .int .i64 0, .int .i64 0, .int .i64 0]) ?_ 1 _ rfl; refine blk_put (cs := #[.int .i64 0, .int .i64 0, .int .i64 0, .int .i64 0, .int .i64 0]) ?_ 0 _ rfl; (with_reducible repeat (first | refine blk_drewN ?_ _ | refine blk_drew ?_ | refine blk_alloc ?_ _)); exact BK670.out) hg (Kd.R_away HO_669001.out (fun _ hk => hk.2))); have n4_ := ak (hb); have n5_ := ak (ho); clear BK666; clear BK667; clear BK668; clear BK670; clear HB; clear HO_669001; have BK666 := n0_; have BK667 := n1_; have BK668 := n2_; have BK670 := n3_; have HB := n4_; have HO673 := n5_; clear n0_ n1_ n2_ n3_ n4_ n5_; clear ho hb hg hat; obtain ⟨Ao24, co24, eo24⟩ := Kd.R_slice HO673.out; subst eo24; have hcz25_0 := bc w23 BK668 0 (.int .i64 a0_0) rfl; have hcz25_1 := bc w23 BK668 1 (u669001) rfl; have hfz25_0 := fz BK668 0; have hfz25_1 := fz BK668 1))
  go_roundg k1
  case measure => have := HK1.out; omega
  case rel => exact ⟨(wrap64 (x4_1 + 1)), (y671), (.slice Ao24 y671.length co24), (by first | rfl | (simp; done) | (simp [*]; done)), H', ⟨by have := HK1.out; omega⟩, ⟨by (with_reducible repeat (first | apply Kd.R_alloc | apply Kd.R_drewN | apply Kd.R_drew)); exact Kd.R_mono (Kd.R_far (p := ⟨gb668, 1, none⟩) (Kd.R_types HO673.out BK668.out (by decide)) (fun _ hk => hk.2) (.slice Ao24 y671.length co24)) (fun _ hk => trivial)⟩, ⟨by (with_reducible repeat (first | refine blk_drewN ?_ _ | refine blk_drew ?_ | refine blk_alloc ?_ _)); refine blk_far ?_ NB666_668.out _; (with_reducible repeat (first | refine blk_drewN ?_ _ | refine blk_drew ?_ | refine blk_alloc ?_ _)); exact BK666.out⟩, ⟨by (with_reducible repeat (first | refine blk_drewN ?_ _ | refine blk_drew ?_ | refine blk_alloc ?_ _)); refine blk_far ?_ NB667_668.out _; (with_reducible repeat (first | refine blk_drewN ?_ _ | refine blk_drew ?_ | refine blk_alloc ?_ _)); exact BK667.out⟩, ⟨by (with_reducible repeat (first | refine blk_drewN ?_ _ | refine blk_drew ?_ | refine blk_alloc ?_ _)); refine blk_put (cs := #[.int .i64 a0_0, u669001]) ?_ 1 _ rfl; (with_reducible repeat (first | refine blk_drewN ?_ _ | refine blk_drew ?_ | refine blk_alloc ?_ _)); exact BK668.out⟩, ⟨bl4 HB GE666 GE667 GE668 GE670⟩⟩

end Go.Proofs.Ytlgolgfcolnddaa.F
