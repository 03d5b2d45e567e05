-- Printed by wip/px/px.py of this claim's repository (the kit's printer, extended there). Lean checks it.
import Derived.Test.YtjnbhieppghidaaFKinds
namespace Go.Proofs.Ytjnbhieppghidaa.F
open Go.RowKit Go.Proofs.YtjnbhieppghidaaW.PrintWords Go.Proofs.YtjnbhieppghidaaW.PrintLast Go.Proofs.YtjnbhieppghidaaW.PrintMore
attribute [local go_sem] max2_int min2_int max_two min_two max_three min_three max_four min_four   -- for this text's walks alone
set_option linter.unusedVariables false
set_option linter.unusedSimpArgs false

/-! ### spec_l1Back: function 38 -/
def spec_l1Back.l0 : Nat → Int → Int → List (S60) → Int → List (S60) → Option (Int × (List (S60)))
 | 0, _, _, _, _, _ => none
 | k + 1, x4, x262000, x262001, x264000, x264001 => if x4 < (x262001.length : Int) then (if 0 ≤ x4 then (if x264001.length < 3518437208883 then (spec_l1Back.l0 k (wrap64 (x4 + 1)) x262000 x262001 x264000 (x264001 ++ [(⟨(rd_T60 x262001 x4).f1, (rd_T60 x262001 x4).f0, (rd_T60 x262001 x4).f2, (rd_T60 x262001 x4).f3, (rd_T60 x262001 x4).f4⟩ : S60)])) else (none)) else (none)) else (some (x264000, x264001))
def spec_l1Back.f (k : Nat) (a0_0 : Int) (l0_1 : List (S60)) : Option (Int × (List (S60))) := spec_l1Back.l0 k 0 a0_0 l0_1 a0_0 ([] : List (S60))
theorem spec_l1Back.mono_l : ∀ k, (∀ y0 y1 y2 y3 y4, LeO (spec_l1Back.l0 k y0 y1 y2 y3 y4) (spec_l1Back.l0 (k + 1) y0 y1 y2 y3 y4))
 | 0 => fun _ _ _ _ _ r h => by simp [spec_l1Back.l0] at h
 | k + 1 => by
  have ih0 := spec_l1Back.mono_l k
  ·intro y0 y1 y2 y3 y4
   unfold spec_l1Back.l0
   repeat' first | (with_reducible exact ih0 _ _ _ _ _) | (with_reducible exact LeO.refl _) | (with_reducible refine LeO.ite ?_ ?_)
theorem spec_l1Back.mono : ∀ a0 a1 k, LeO (spec_l1Back.f k a0 a1) (spec_l1Back.f (k + 1) a0 a1) := by
 intro a0 a1 k
 have ih0 := spec_l1Back.mono_l k
 unfold spec_l1Back.f
 repeat' (with_reducible exact ih0 _ _ _ _ _)
set_option maxHeartbeats 8000000 in
set_option maxRecDepth 100000 in
theorem spec_l1Back.calls (k : Nat) (a0_0 : Int) (A0_1 : Option Addr) (c0_1 : Nat) (l0_1 : List (S60)) (r1 : Int) (r2 : List (S60)) (w : World) (hr0_1 : Kd.C k60 w A0_1 l0_1.length l0_1) (hc0_1 : l0_1.length ≤ c0_1) (h : spec_l1Back.f k a0_0 l0_1 = some (r1, r2)) :
  Calls Try.prog 38 #[.agg #[.int .i64 a0_0, .slice A0_1 l0_1.length c0_1]] w fun e w' => ∃ v1_ : Value, e = .returned (.agg #[.int .i64 r1, v1_]) ∧ Kd.R k60 60 w' w.heap.size (fun _ => True) v1_ r2 ∧ Below w.heap.size w w' := by
 have hu25 := Try.underlying25
 have hu60 := Try.underlying60
 have HR0_1 := ak hr0_1
 have HC0_1 := ak hc0_1
 clear hr0_1 hc0_1
 have HB := ak (Below.refl w.heap.size w)
 have H : (spec_l1Back.l0 k 0 a0_0 l0_1 a0_0 ([] : List (S60))) = some (r1, r2) := h
 clear h
 have H' := ak H
 clear H
 go_enter Try.func38, Try.ntmps38
 go_wp2_with (first | ((with_reducible refine gate_dst (N := 1) rfl ?_); refine box_event ?hg (N := 1) ?hd (cs := #[.int .i64 a0_0, .slice A0_1 l0_1.length c0_1]) (t := 25) ?hr ?_; (case hd => rfl); (case hg => rfl); (case hr => (go_simp; done)); intro gb261 hg w2 hbox hb; have BK261 := ak (hbox); have GW261 := ak ((by rw [hg]; exact (below_size (bl HB)) : w.heap.size ≤ gb261)); have GE261 := ak ((by rw [hg]; exact (below_size (bl HB)) : w.heap.size ≤ gb261)); replace HB := ak (below_step (bl HB) hb); clear hb hbox hg) | ((with_reducible refine gate_dst (N := 2) rfl ?_); refine box_event ?hg (N := 2) ?hd (cs := #[.int .i64 0, .slice none 0 0]) (t := 25) ?hr ?_; (case hd => rfl); (case hg => rfl); (case hr => (go_simp; done)); intro gb262 hg w3 hbox hb; have BK262 := ak (hbox); have GW262 := ak ((by rw [hg]; exact (below_size (bl1 HB GE261)) : w.heap.size ≤ gb262)); have GE262 := ak ((by rw [hg]; exact (below_size (bl1 HB GE261)) : w.heap.size ≤ gb262)); replace HB := ak (below_step (bl1 HB GE261) hb); have NB261_262 := ak ((by rw [hg]; exact Nat.ne_of_lt (blk_lt (bk BK261)) : gb261 ≠ gb262)); have NB262_261 := ak ((by rw [hg]; exact Nat.ne_of_gt (blk_lt (bk BK261)) : gb262 ≠ gb261)); replace BK261 := ak (blk_below (bk BK261) hb); clear hb hbox hg; have hnb4 := NB261_262.out; have hnc4 := NB262_261.out; have hcz5_0 := bc w3 BK261 0 (.int .i64 a0_0) rfl; have hcz5_1 := bc w3 BK261 1 (.slice A0_1 l0_1.length c0_1) rfl; have hfz5_0 := fz BK261 0; have hfz5_1 := fz BK261 1) | ((with_reducible refine gate_dst (N := 3) rfl ?_); refine box_event ?hg (N := 3) ?hd (cs := #[.int .i64 0, .slice none 0 0]) (t := 25) ?hr ?_; (case hd => rfl); (case hg => rfl); (case hr => (go_simp; done)); intro gb263 hg w6 hbox hb; have BK263 := ak (hbox); have GW263 := ak ((by rw [hg]; exact (below_size (bl2 HB GE261 GE262)) : w.heap.size ≤ gb263)); have GE263 := ak ((by rw [hg]; exact (below_size (bl2 HB GE261 GE262)) : w.heap.size ≤ gb263)); replace HB := ak (below_step (bl2 HB GE261 GE262) hb); have NB261_263 := ak ((by rw [hg]; exact Nat.ne_of_lt (blk_lt (bk BK261)) : gb261 ≠ gb263)); have NB263_261 := ak ((by rw [hg]; exact Nat.ne_of_gt (blk_lt (bk BK261)) : gb263 ≠ gb261)); replace BK261 := ak (blk_below (bk BK261) hb); have NB262_263 := ak ((by rw [hg]; exact Nat.ne_of_lt (blk_lt (bk BK262)) : gb262 ≠ gb263)); have NB263_262 := ak ((by rw [hg]; exact Nat.ne_of_gt (blk_lt (bk BK262)) : gb263 ≠ gb262)); replace BK262 := ak (blk_below (bk BK262) hb); clear hb hbox hg; have hnb7 := NB263_261.out; have hnc7 := NB261_263.out; have hnb8 := NB263_262.out; have hnc8 := NB262_263.out; have hcz9_0 := bc w6 BK263 0 (.int .i64 0) rfl; have hcz9_1 := bc w6 BK263 1 (.slice none 0 0) rfl; have hfz9_0 := fz BK263 0; have hfz9_1 := fz BK263 1))
 go_loopg [4] k (fun kq v4 w' => ∃ (x4_1 : Int) (x264001_1 : List (S60)) (u264001 : Value), v4 = .int .i64 x4_1 ∧ Aside0 (spec_l1Back.l0 kq x4_1 a0_0 l0_1 a0_0 x264001_1 = some (r1, r2)) ∧ Aside0 (kq ≤ k) ∧ Aside0 (Kd.R k60 60 w' w.heap.size (fun _ => True) u264001 x264001_1) ∧ Aside0 (w'.heap[gb261]? = some (.cells #[.int .i64 a0_0, (.slice A0_1 l0_1.length c0_1)] 25 (0, 0))) ∧ Aside0 (w'.heap[gb262]? = some (.cells #[.int .i64 0, (.slice none 0 0)] 25 (0, 0))) ∧ Aside0 (w'.heap[gb263]? = some (.cells #[.int .i64 a0_0, u264001] 25 (0, 0))) ∧ Aside0 (Below w.heap.size w w'))
 case atStart => exact ⟨(0), (([] : List (S60))), (.slice none 0 0), (by rfl), H', ⟨Nat.le_refl _⟩, ⟨by exact Kd.R_nil _ _ _ _ _⟩, ⟨by refine blk_far ?_ NB261_263.out _; refine blk_far ?_ NB261_263.out _; exact BK261.out⟩, ⟨by refine blk_far ?_ NB262_263.out _; refine blk_far ?_ NB262_263.out _; exact BK262.out⟩, ⟨by refine blk_put (cs := #[.int .i64 a0_0, .slice none 0 0]) ?_ 1 _ rfl; refine blk_put (cs := #[.int .i64 0, .slice none 0 0]) ?_ 0 _ rfl; exact BK263.out⟩, ⟨bl3 HB GE261 GE262 GE263⟩⟩
 clear H'
 try clear p2
 try clear c3
 try clear c4
 try clear c7
 try clear c8
 try clear hcz5_0
 try clear hcz5_1
 try clear hcz9_0
 try clear hcz9_1
 try clear hfz5_0
 try clear hfz5_1
 try clear hfz9_0
 try clear hfz9_1
 obtain ⟨x4_1, x264001_1, u264001, rfl, HA, HK1, HO_264001, BK261, BK262, BK263, HB⟩ := hrel
 cases gk with
 | zero => exact absurd HA.out (by simp [spec_l1Back.l0])
 | succ k1 =>
  have H := HA.out
  clear HA
  simp only [spec_l1Back.l0] at H
  by_cases c10 : x4_1 < (l0_1.length : Int)
  rotate_left
  ·rw [if_neg c10] at H
   have c10b0 : decide (x4_1 < (l0_1.length : Int)) = false := decide_eq_false c10
   clear c10
   simp only [Option.some.injEq, Prod.mk.injEq] at H
   obtain ⟨rfl, rfl⟩ := H
   have hnb26 := NB261_262.out
   have hnc26 := NB262_261.out
   have hnb27 := NB261_263.out
   have hnc27 := NB263_261.out
   have hcz28_0 := bc wr BK261 0 (.int .i64 a0_0) rfl
   have hcz28_1 := bc wr BK261 1 (.slice A0_1 l0_1.length c0_1) rfl
   have hfz28_0 := fz BK261 0
   have hfz28_1 := fz BK261 1
   have hnb29 := NB263_262.out
   have hnc29 := NB262_263.out
   have hcz30_0 := bc wr BK263 0 (.int .i64 a0_0) rfl
   have hcz30_1 := bc wr BK263 1 (u264001) rfl
   have hfz30_0 := fz BK263 0
   have hfz30_1 := fz BK263 1
   have hcz31_0 := bc wr BK262 0 (.int .i64 0) rfl
   have hcz31_1 := bc wr BK262 1 (.slice none 0 0) rfl
   have hfz31_0 := fz BK262 0
   have hfz31_1 := fz BK262 1
   obtain ⟨Ao32, co32, eo32⟩ := Kd.R_slice HO_264001.out
   subst eo32
   go_wp2
   refine bodyPost_ret (results_cell_row rfl _ _ gb262 25 #[.int .i64 a0_0, .slice Ao32 x264001_1.length co32] (0, 0) _ rfl (by refine blk_put (cs := #[.int .i64 a0_0, .slice none 0 0]) ?_ 1 _ rfl; refine blk_put (cs := #[.int .i64 0, .slice none 0 0]) ?_ 0 _ rfl; exact BK262.out) Try.underlying25 rfl (by kernel_rfl)) rfl ?_
   exact ⟨_, by rfl, by exact Kd.R_mono (Kd.R_far (p := ⟨gb262, 1, none⟩) (Kd.R_far (p := ⟨gb262, 0, none⟩) (Kd.R_types HO_264001.out BK262.out (by decide)) (fun _ hk => hk.2) (.int .i64 a0_0)) (fun _ hk => hk.2) (.slice Ao32 x264001_1.length co32)) (fun _ hk => trivial), bl3 HB GE261 GE262 GE263⟩
  rw [if_pos c10] at H
  have c10b0 : decide (x4_1 < (l0_1.length : Int)) = true := decide_eq_true c10
  clear c10
  by_cases c11 : 0 ≤ x4_1
  rotate_left
  ·rw [if_neg c11] at H
   exact absurd H (by simp)
  rw [if_pos c11] at H
  have c11b0 : decide (0 ≤ x4_1) = true := decide_eq_true c11
  clear c11
  by_cases c12 : x264001_1.length < 3518437208883
  rotate_left
  ·rw [if_neg c12] at H
   exact absurd H (by simp)
  rw [if_pos c12] at H
  have LMc12 := ak c12
  clear c12
  obtain ⟨y266, hy266⟩ : ∃ y_ : List (S60), y_ = (x264001_1 ++ [(⟨(rd_T60 l0_1 x4_1).f1, (rd_T60 l0_1 x4_1).f0, (rd_T60 l0_1 x4_1).f2, (rd_T60 l0_1 x4_1).f3, (rd_T60 l0_1 x4_1).f4⟩ : S60)]) := ⟨_, rfl⟩
  replace H : (spec_l1Back.l0 k1 (wrap64 (x4_1 + 1)) a0_0 l0_1 a0_0 y266) = some (r1, r2) := by (rw [hy266]; with_reducible exact H)
  have Ny266 := ak hy266
  clear hy266
  have H' := ak H
  clear H
  have hnb13 := NB261_262.out
  have hnc13 := NB262_261.out
  have hnb14 := NB261_263.out
  have hnc14 := NB263_261.out
  have hcz15_0 := bc wr BK261 0 (.int .i64 a0_0) rfl
  have hcz15_1 := bc wr BK261 1 (.slice A0_1 l0_1.length c0_1) rfl
  have hfz15_0 := fz BK261 0
  have hfz15_1 := fz BK261 1
  have p264 : 0 ≤ (x4_1 : Int) := oT (by (with_reducible assumption))
  have q264 : x4_1 < (l0_1.length : Int) := oT (by (with_reducible assumption))
  obtain ⟨ad264, e264, hx264_0, hx264_1, hx264_2, hx264_3, hx264_4⟩ := at_T60 HR0_1.out x4_1 p264 q264
  cases e264
  replace hx264_0 := hcb HB.out hx264_0
  replace hx264_1 := hcb HB.out hx264_1
  replace hx264_2 := hcb HB.out hx264_2
  replace hx264_3 := hcb HB.out hx264_3
  replace hx264_4 := hcb HB.out hx264_4
  replace p264 := eq_true p264
  replace q264 := eq_true q264
  go_wp2_with (first | ((with_reducible refine gate_dst (N := 5) rfl ?_); refine box_event ?hg (N := 5) ?hd (cs := #[.int .i64 0, .int .i64 0, .int .i64 0, .int .i64 0, .int .i64 0]) (t := 60) ?hr ?_; (case hd => rfl); (case hg => rfl); (case hr => (go_simp; done)); intro gb265 hg w16 hbox hb; replace HO_264001 := ak (Kd.R_below (Kd.R_elderB (rk HO_264001) gb265 (Nat.le_of_eq hg.symm)) hb); have BK265 := ak (hbox); have GW265 := ak ((by rw [hg]; exact (below_size (bl3 HB GE261 GE262 GE263)) : w.heap.size ≤ gb265)); have GE265 := ak ((by rw [hg]; exact (below_size (bl3 HB GE261 GE262 GE263)) : w.heap.size ≤ gb265)); replace HB := ak (below_step (bl3 HB GE261 GE262 GE263) hb); have NB261_265 := ak ((by rw [hg]; exact Nat.ne_of_lt (blk_lt (bk BK261)) : gb261 ≠ gb265)); have NB265_261 := ak ((by rw [hg]; exact Nat.ne_of_gt (blk_lt (bk BK261)) : gb265 ≠ gb261)); replace BK261 := ak (blk_below (bk BK261) hb); have NB262_265 := ak ((by rw [hg]; exact Nat.ne_of_lt (blk_lt (bk BK262)) : gb262 ≠ gb265)); have NB265_262 := ak ((by rw [hg]; exact Nat.ne_of_gt (blk_lt (bk BK262)) : gb265 ≠ gb262)); replace BK262 := ak (blk_below (bk BK262) hb); have NB263_265 := ak ((by rw [hg]; exact Nat.ne_of_lt (blk_lt (bk BK263)) : gb263 ≠ gb265)); have NB265_263 := ak ((by rw [hg]; exact Nat.ne_of_gt (blk_lt (bk BK263)) : gb265 ≠ gb263)); replace BK263 := ak (blk_below (bk BK263) hb); clear hb hbox hg; have hnb17 := NB265_261.out; have hnc17 := NB261_265.out; have hnb18 := NB265_262.out; have hnc18 := NB262_265.out; have hnb19 := NB265_263.out; have hnc19 := NB263_265.out; have hcz20_0 := bc w16 BK265 0 (.int .i64 0) rfl; have hcz20_1 := bc w16 BK265 1 (.int .i64 0) rfl; have hcz20_2 := bc w16 BK265 2 (.int .i64 0) rfl; have hcz20_3 := bc w16 BK265 3 (.int .i64 0) rfl; have hcz20_4 := bc w16 BK265 4 (.int .i64 0) rfl; have hfz20_0 := fz BK265 0; have hfz20_1 := fz BK265 1; have hfz20_2 := fz BK265 2; have hfz20_3 := fz BK265 3; have hfz20_4 := fz BK265 4; have hnb21 := NB263_262.out; have hnc21 := NB262_263.out; have hcz22_0 := bc w16 BK263 0 (.int .i64 a0_0) rfl; have hcz22_1 := bc w16 BK263 1 (u264001) rfl; have hfz22_0 := fz BK263 0; have hfz22_1 := fz BK263 1) | ((with_reducible refine gate_builtin (b := .append) (xs := #[.tmp 22, .tmp 34]) rfl ?_); at_builtin; refine Kd.R_append k60 (w0 := w) w.heap.size rfl (.tmp 22) (.tmp 34) 23 60 (.agg #[(.int .i64 0), (.int .i64 0), (.int .i64 0), (.int .i64 0), (.int .i64 0)]) 40 rfl Try.underlying23 info60 rfl (by decide) (by omega) u264001 x264001_1 (⟨(rd_T60 l0_1 x4_1).f1, (rd_T60 l0_1 x4_1).f0, (rd_T60 l0_1 x4_1).f2, (rd_T60 l0_1 x4_1).f3, (rd_T60 l0_1 x4_1).f4⟩ : S60) [.int .i64 ((rd_T60 l0_1 x4_1).f1), .int .i64 ((rd_T60 l0_1 x4_1).f0), .int .i64 ((rd_T60 l0_1 x4_1).f2), .int .i64 ((rd_T60 l0_1 x4_1).f3), .int .i64 ((rd_T60 l0_1 x4_1).f4)] (fun k_ => k_ ≠ gb265) (fun _ => False) rfl (by (go_simp; done)) ?aP (fun _ hk => hk.elim) ?aF ?aO ?aB ?aS ?aL ?_; (case aP => exact k60_mkM _ _ _ (⟨(rd_T60 l0_1 x4_1).f1, (rd_T60 l0_1 x4_1).f0, (rd_T60 l0_1 x4_1).f2, (rd_T60 l0_1 x4_1).f3, (rd_T60 l0_1 x4_1).f4⟩ : S60)); (case aB => exact (bl4 HB GE261 GE262 GE263 GE265)); (case aF => exact (fun k_ hk => Kd.freshB (g := gb265) (o := .cells #[.int .i64 ((rd_T60 l0_1 x4_1).f0), .int .i64 ((rd_T60 l0_1 x4_1).f1), .int .i64 ((rd_T60 l0_1 x4_1).f2), .int .i64 ((rd_T60 l0_1 x4_1).f3), .int .i64 ((rd_T60 l0_1 x4_1).f4)] 60 (0, 0)) (by refine blk_put (cs := #[.int .i64 ((rd_T60 l0_1 x4_1).f0), .int .i64 ((rd_T60 l0_1 x4_1).f1), .int .i64 ((rd_T60 l0_1 x4_1).f2), .int .i64 ((rd_T60 l0_1 x4_1).f3), .int .i64 0]) ?_ 4 _ rfl; refine blk_put (cs := #[.int .i64 ((rd_T60 l0_1 x4_1).f0), .int .i64 ((rd_T60 l0_1 x4_1).f1), .int .i64 ((rd_T60 l0_1 x4_1).f2), .int .i64 0, .int .i64 0]) ?_ 3 _ rfl; refine blk_put (cs := #[.int .i64 ((rd_T60 l0_1 x4_1).f0), .int .i64 ((rd_T60 l0_1 x4_1).f1), .int .i64 0, .int .i64 0, .int .i64 0]) ?_ 2 _ rfl; refine blk_put (cs := #[.int .i64 ((rd_T60 l0_1 x4_1).f0), .int .i64 0, .int .i64 0, .int .i64 0, .int .i64 0]) ?_ 1 _ rfl; refine blk_put (cs := #[.int .i64 0, .int .i64 0, .int .i64 0, .int .i64 0, .int .i64 0]) ?_ 0 _ rfl; exact BK265.out) k_ hk)); (case aO => exact (by exact Kd.R_mono (Kd.R_far (p := ⟨gb265, 4, none⟩) (Kd.R_far (p := ⟨gb265, 3, none⟩) (Kd.R_far (p := ⟨gb265, 2, none⟩) (Kd.R_far (p := ⟨gb265, 1, none⟩) (Kd.R_far (p := ⟨gb265, 0, none⟩) (Kd.R_mono HO_264001.out (fun k_ hk => (⟨hk, hk.2⟩ : _ ∧ k_ ≠ gb265))) (fun _ hk => hk.2) (.int .i64 ((rd_T60 l0_1 x4_1).f0))) (fun _ hk => hk.2) (.int .i64 ((rd_T60 l0_1 x4_1).f1))) (fun _ hk => hk.2) (.int .i64 ((rd_T60 l0_1 x4_1).f2))) (fun _ hk => hk.2) (.int .i64 ((rd_T60 l0_1 x4_1).f3))) (fun _ hk => hk.2) (.int .i64 ((rd_T60 l0_1 x4_1).f4))) (fun _ hk => hk.1.2))); (case aS => exact (below_size (bl4 HB GE261 GE262 GE263 GE265))); (case aL => have := LMc12.out; omega); intro v267 w23 ho hb hg hat; rw [← Ny266.out] at ho; have n0_ := ak (blk_grown (g := gb261) (o := .cells #[.int .i64 a0_0, .slice (some ad264) l0_1.length c0_1] 25 (0, 0)) (by refine blk_far ?_ NB261_265.out _; refine blk_far ?_ NB261_265.out _; refine blk_far ?_ NB261_265.out _; refine blk_far ?_ NB261_265.out _; refine blk_far ?_ NB261_265.out _; exact BK261.out) hg (Kd.R_ne HO_264001.out BK261.out (by decide))); have n1_ := ak (blk_grown (g := gb262) (o := .cells #[.int .i64 0, .slice none 0 0] 25 (0, 0)) (by refine blk_far ?_ NB262_265.out _; refine blk_far ?_ NB262_265.out _; refine blk_far ?_ NB262_265.out _; refine blk_far ?_ NB262_265.out _; refine blk_far ?_ NB262_265.out _; exact BK262.out) hg (Kd.R_ne HO_264001.out BK262.out (by decide))); have n2_ := ak (blk_grown (g := gb263) (o := .cells #[.int .i64 a0_0, u264001] 25 (0, 0)) (by refine blk_far ?_ NB263_265.out _; refine blk_far ?_ NB263_265.out _; refine blk_far ?_ NB263_265.out _; refine blk_far ?_ NB263_265.out _; refine blk_far ?_ NB263_265.out _; exact BK263.out) hg (Kd.R_ne HO_264001.out BK263.out (by decide))); have n3_ := ak (blk_grown (g := gb265) (o := .cells #[.int .i64 ((rd_T60 l0_1 x4_1).f0), .int .i64 ((rd_T60 l0_1 x4_1).f1), .int .i64 ((rd_T60 l0_1 x4_1).f2), .int .i64 ((rd_T60 l0_1 x4_1).f3), .int .i64 ((rd_T60 l0_1 x4_1).f4)] 60 (0, 0)) (by refine blk_put (cs := #[.int .i64 ((rd_T60 l0_1 x4_1).f0), .int .i64 ((rd_T60 l0_1 x4_1).f1), .int .i64 ((rd_T60 l0_1 x4_1).f2), .int .i64 ((rd_T60 l0_1 x4_1).f3), .int .i64 0]) ?_ 4 _ rfl; refine blk_put (cs := #[.int .i64 ((rd_T60 l0_1 x4_1).f0), .int .i64 ((rd_T60 l0_1 x4_1).f1), .int .i64 ((rd_T60 l0_1 x4_1).f2), .int .i64 0, .int .i64 0]) ?_ 3 _ rfl; refine blk_put (cs := #[.int .i64 ((rd_T60 l0_1 x4_1).f0), .int .i64 ((rd_T60 l0_1 x4_1).f1), .int .i64 0, .int .i64 0, .int .i64 0]) ?_ 2 _ rfl; refine blk_put (cs := #[.int .i64 ((rd_T60 l0_1 x4_1).f0), .int .i64 0, .int .i64 0, .int .i64 0, .int .i64 0]) ?_ 1 _ rfl; refine blk_put (cs := #[.int .i64 0, .int .i64 0, .int .i64 0, .int .i64 0, .int .i64 0]) ?_ 0 _ rfl; exact BK265.out) hg (Kd.R_away HO_264001.out (fun _ hk => hk.2))); have n4_ := ak (hb); have n5_ := ak (ho); clear BK261; clear BK262; clear BK263; clear BK265; clear HB; clear HO_264001; have BK261 := n0_; have BK262 := n1_; have BK263 := n2_; have BK265 := n3_; have HB := n4_; have HO268 := n5_; clear n0_ n1_ n2_ n3_ n4_ n5_; clear ho hb hg hat; obtain ⟨Ao24, co24, eo24⟩ := Kd.R_slice HO268.out; subst eo24; have hcz25_0 := bc w23 BK263 0 (.int .i64 a0_0) rfl; have hcz25_1 := bc w23 BK263 1 (u264001) rfl; have hfz25_0 := fz BK263 0; have hfz25_1 := fz BK263 1))
  go_roundg k1
  case measure => have := HK1.out; omega
  case rel => exact ⟨(wrap64 (x4_1 + 1)), (y266), (.slice Ao24 y266.length co24), (by rfl), H', ⟨by have := HK1.out; omega⟩, ⟨by exact Kd.R_mono (Kd.R_far (p := ⟨gb263, 1, none⟩) (Kd.R_types HO268.out BK263.out (by decide)) (fun _ hk => hk.2) (.slice Ao24 y266.length co24)) (fun _ hk => trivial)⟩, ⟨by refine blk_far ?_ NB261_263.out _; exact BK261.out⟩, ⟨by refine blk_far ?_ NB262_263.out _; exact BK262.out⟩, ⟨by refine blk_put (cs := #[.int .i64 a0_0, u264001]) ?_ 1 _ rfl; exact BK263.out⟩, ⟨bl4 HB GE261 GE262 GE263 GE265⟩⟩

end Go.Proofs.Ytjnbhieppghidaa.F
