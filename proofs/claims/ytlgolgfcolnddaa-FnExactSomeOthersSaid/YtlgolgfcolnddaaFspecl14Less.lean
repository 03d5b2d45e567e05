-- Printed by wip/px/px.py of this claim's repository (the kit's printer, extended there). Lean checks it.
import Derived.Test.YtlgolgfcolnddaaFKinds
namespace Go.Proofs.Ytlgolgfcolnddaa.F
open Go.RowKit Go.Proofs.YtlgolgfcolnddaaW.PrintWords Go.Proofs.YtlgolgfcolnddaaW.PrintLast Go.Proofs.YtlgolgfcolnddaaW.PrintMore
attribute [local go_sem] max2_int min2_int max_two min_two max_three min_three max_four min_four   -- for this text's walks alone
set_option linter.unusedVariables false
set_option linter.unusedSimpArgs false

/-! ### spec_l14Less: function 127 -/
def spec_l14Less.l0 : Nat → Int → List Int → Int → List Int → Int → Option (Bool)
 | 0, _, _, _, _, _ => none
 | k + 1, x5, x163000, x163001, x164000, x164001 => if x5 < (x163000.length : Int) then (if 0 ≤ x5 then (if x5 < (x164000.length : Int) then (if (rd x163000 x5) = (rd x164000 x5) then (spec_l14Less.l0 k (wrap64 (x5 + 1)) x163000 x163001 x164000 x164001) else (some (decide ((rd x163000 x5) < (rd x164000 x5))))) else (none)) else (none)) else (some false)
def spec_l14Less.f (k : Nat) (l0_0 : List Int) (a0_1 : Int) (l1_0 : List Int) (a1_1 : Int) : Option (Bool) := if a0_1 = a1_1 then (if (l0_0.length : Int) = (l1_0.length : Int) then (spec_l14Less.l0 k 0 l0_0 a0_1 l1_0 a1_1) else (some (decide ((l0_0.length : Int) < (l1_0.length : Int))))) else (some (decide (a0_1 < a1_1)))
theorem spec_l14Less.mono_l : ∀ k, (∀ y0 y1 y2 y3 y4, LeO (spec_l14Less.l0 k y0 y1 y2 y3 y4) (spec_l14Less.l0 (k + 1) y0 y1 y2 y3 y4))
 | 0 => fun _ _ _ _ _ r h => by simp [spec_l14Less.l0] at h
 | k + 1 => by
  have ih0 := spec_l14Less.mono_l k
  ·intro y0 y1 y2 y3 y4
   unfold spec_l14Less.l0
   repeat' first
   | (with_reducible exact ih0 _ _ _ _ _)
   | (with_reducible exact LeO.refl _)
   | (with_reducible exact LeO.none _)
   | (with_reducible refine LeO.ite ?_ ?_)
   | (with_reducible refine LeO.bind ?_ (fun _ => ?_))
   | exact ih0 _ _ _ _ _
   | exact LeO.none _
   | refine LeO.ite ?_ ?_
   | refine LeO.bind ?_ (fun _ => ?_)
theorem spec_l14Less.mono : ∀ a0 a1 a2 a3 k, LeO (spec_l14Less.f k a0 a1 a2 a3) (spec_l14Less.f (k + 1) a0 a1 a2 a3) := by
 intro a0 a1 a2 a3 k
 have ih0 := spec_l14Less.mono_l k
 unfold spec_l14Less.f
 repeat' first
   | (with_reducible exact ih0 _ _ _ _ _)
   | (with_reducible exact LeO.refl _)
   | (with_reducible exact LeO.none _)
   | (with_reducible refine LeO.ite ?_ ?_)
   | (with_reducible refine LeO.bind ?_ (fun _ => ?_))
   | exact ih0 _ _ _ _ _
   | exact LeO.none _
   | refine LeO.ite ?_ ?_
   | refine LeO.bind ?_ (fun _ => ?_)
set_option maxHeartbeats 8000000 in
set_option maxRecDepth 100000 in
theorem spec_l14Less.calls (k : Nat) (A0_0 : Option Addr) (c0_0 : Nat) (l0_0 : List Int) (a0_1 : Int) (A1_0 : Option Addr) (c1_0 : Nat) (l1_0 : List Int) (a1_1 : Int) (r : Bool) (w : World) (hr0_0 : Kd.C (Kd.int .i64) w A0_0 l0_0.length l0_0) (hc0_0 : l0_0.length ≤ c0_0) (hr1_0 : Kd.C (Kd.int .i64) w A1_0 l1_0.length l1_0) (hc1_0 : l1_0.length ≤ c1_0) (h : spec_l14Less.f k l0_0 a0_1 l1_0 a1_1 = some r) :
  Calls Try.prog 127 #[.agg #[.slice A0_0 l0_0.length c0_0, .int .i64 a0_1], .agg #[.slice A1_0 l1_0.length c1_0, .int .i64 a1_1]] w fun e w' => e = .returned (.bool r) ∧ Below w.heap.size w w' := by
 have hu103 := Try.underlying103
 have HR0_0 := ak hr0_0
 have HC0_0 := ak hc0_0
 clear hr0_0 hc0_0
 have HR1_0 := ak hr1_0
 have HC1_0 := ak hc1_0
 clear hr1_0 hc1_0
 have HB := ak (Below.refl w.heap.size w)
 have H : (if a0_1 = a1_1 then (if (l0_0.length : Int) = (l1_0.length : Int) then (spec_l14Less.l0 k 0 l0_0 a0_1 l1_0 a1_1) else (some (decide ((l0_0.length : Int) < (l1_0.length : Int))))) else (some (decide (a0_1 < a1_1)))) = some r := h
 clear h
 by_cases c3 : a0_1 = a1_1
 rotate_left
 ·rw [if_neg c3] at H
  have c3b0 : (a0_1 == a1_1) = false := beq_eq_false_iff_ne.mpr c3
  have c3b1 : (a0_1 != a1_1) = true := bne_iff_ne.mpr c3
  obtain rfl := Option.some.inj H
  go_enter Try.func127, Try.ntmps127
  go_wp2_with (first | ((with_reducible refine gate_dst (N := 2) rfl ?_); refine box_event ?hg (N := 2) ?hd (cs := #[.slice A0_0 l0_0.length c0_0, .int .i64 a0_1]) (t := 103) ?hr ?_; (case hd => rfl); (case hg => rfl); (case hr => first | (go_simp; done) | (go_simp; rfl)); intro gb162 hg w27 hbox hb; have BK162 := ak (hbox); have GW162 := ak ((by rw [hg]; exact (below_size (bl HB)) : w.heap.size ≤ gb162)); have GE162 := ak ((by rw [hg]; exact (below_size (bl HB)) : w.heap.size ≤ gb162)); replace HB := ak (below_step (bl HB) hb); clear hb hbox hg) | ((with_reducible refine gate_dst (N := 3) rfl ?_); refine box_event ?hg (N := 3) ?hd (cs := #[.slice A1_0 l1_0.length c1_0, .int .i64 a1_1]) (t := 103) ?hr ?_; (case hd => rfl); (case hg => rfl); (case hr => first | (go_simp; done) | (go_simp; rfl)); intro gb163 hg w28 hbox hb; have BK163 := ak (hbox); have GW163 := ak ((by rw [hg]; exact (below_size (bl1 HB GE162)) : w.heap.size ≤ gb163)); have GE163 := ak ((by rw [hg]; exact (below_size (bl1 HB GE162)) : w.heap.size ≤ gb163)); replace HB := ak (below_step (bl1 HB GE162) hb); have NB162_163 := ak ((by rw [hg]; exact Nat.ne_of_lt (blk_lt (bk BK162)) : gb162 ≠ gb163)); have NB163_162 := ak ((by rw [hg]; exact Nat.ne_of_gt (blk_lt (bk BK162)) : gb163 ≠ gb162)); replace BK162 := ak (blk_below (bk BK162) hb); clear hb hbox hg; have hnb29 := NB162_163.out; have hnc29 := NB163_162.out; have hcz30_0 := bc w28 BK162 0 (.slice A0_0 l0_0.length c0_0) rfl; have hcz30_1 := bc w28 BK162 1 (.int .i64 a0_1) rfl; have hfz30_0 := fz BK162 0; have hfz30_1 := fz BK162 1; have hcz31_0 := bc w28 BK163 0 (.slice A1_0 l1_0.length c1_0) rfl; have hcz31_1 := bc w28 BK163 1 (.int .i64 a1_1) rfl; have hfz31_0 := fz BK163 0; have hfz31_1 := fz BK163 1) | go_values | go_skip | go_guarded | go_step | go_upon | go_back | go_quiet (first | ((with_reducible refine gate_dst (N := 2) rfl ?_); refine box_event ?hg (N := 2) ?hd (cs := #[.slice A0_0 l0_0.length c0_0, .int .i64 a0_1]) (t := 103) ?hr ?_; (case hd => rfl); (case hg => rfl); (case hr => first | (go_simp; done) | (go_simp; rfl)); intro gb162 hg w27 hbox hb; have BK162 := ak (hbox); have GW162 := ak ((by rw [hg]; exact (below_size (bl HB)) : w.heap.size ≤ gb162)); have GE162 := ak ((by rw [hg]; exact (below_size (bl HB)) : w.heap.size ≤ gb162)); replace HB := ak (below_step (bl HB) hb); clear hb hbox hg) | ((with_reducible refine gate_dst (N := 3) rfl ?_); refine box_event ?hg (N := 3) ?hd (cs := #[.slice A1_0 l1_0.length c1_0, .int .i64 a1_1]) (t := 103) ?hr ?_; (case hd => rfl); (case hg => rfl); (case hr => first | (go_simp; done) | (go_simp; rfl)); intro gb163 hg w28 hbox hb; have BK163 := ak (hbox); have GW163 := ak ((by rw [hg]; exact (below_size (bl1 HB GE162)) : w.heap.size ≤ gb163)); have GE163 := ak ((by rw [hg]; exact (below_size (bl1 HB GE162)) : w.heap.size ≤ gb163)); replace HB := ak (below_step (bl1 HB GE162) hb); have NB162_163 := ak ((by rw [hg]; exact Nat.ne_of_lt (blk_lt (bk BK162)) : gb162 ≠ gb163)); have NB163_162 := ak ((by rw [hg]; exact Nat.ne_of_gt (blk_lt (bk BK162)) : gb163 ≠ gb162)); replace BK162 := ak (blk_below (bk BK162) hb); clear hb hbox hg; have hnb29 := NB162_163.out; have hnc29 := NB163_162.out; have hcz30_0 := bc w28 BK162 0 (.slice A0_0 l0_0.length c0_0) rfl; have hcz30_1 := bc w28 BK162 1 (.int .i64 a0_1) rfl; have hfz30_0 := fz BK162 0; have hfz30_1 := fz BK162 1; have hcz31_0 := bc w28 BK163 0 (.slice A1_0 l1_0.length c1_0) rfl; have hcz31_1 := bc w28 BK163 1 (.int .i64 a1_1) rfl; have hfz31_0 := fz BK163 0; have hfz31_1 := fz BK163 1)))
  go_ret
  exact ⟨by first | rfl | (simp [errW_none, errW_some] <;> rfl) | (simp [*, errW_none, errW_some] <;> rfl), bl2 HB GE162 GE163⟩
 rw [if_pos c3] at H
 have c3b0 : (a0_1 == a1_1) = true := beq_iff_eq.mpr c3
 have c3b1 : (a0_1 != a1_1) = false := bne_eq_false_iff_eq.mpr c3
 clear c3
 by_cases c4 : (l0_0.length : Int) = (l1_0.length : Int)
 rotate_left
 ·rw [if_neg c4] at H
  have c4b0 : ((l0_0.length : Int) == (l1_0.length : Int)) = false := beq_eq_false_iff_ne.mpr c4
  have c4b1 : ((l0_0.length : Int) != (l1_0.length : Int)) = true := bne_iff_ne.mpr c4
  have c4b2 : (l0_0.length == l1_0.length) = false := by first | simpa using c4 | (simp at c4 ⊢; omega)
  obtain rfl := Option.some.inj H
  go_enter Try.func127, Try.ntmps127
  go_wp2_with (first | ((with_reducible refine gate_dst (N := 2) rfl ?_); refine box_event ?hg (N := 2) ?hd (cs := #[.slice A0_0 l0_0.length c0_0, .int .i64 a0_1]) (t := 103) ?hr ?_; (case hd => rfl); (case hg => rfl); (case hr => first | (go_simp; done) | (go_simp; rfl)); intro gb162 hg w22 hbox hb; have BK162 := ak (hbox); have GW162 := ak ((by rw [hg]; exact (below_size (bl HB)) : w.heap.size ≤ gb162)); have GE162 := ak ((by rw [hg]; exact (below_size (bl HB)) : w.heap.size ≤ gb162)); replace HB := ak (below_step (bl HB) hb); clear hb hbox hg) | ((with_reducible refine gate_dst (N := 3) rfl ?_); refine box_event ?hg (N := 3) ?hd (cs := #[.slice A1_0 l1_0.length c1_0, .int .i64 a1_1]) (t := 103) ?hr ?_; (case hd => rfl); (case hg => rfl); (case hr => first | (go_simp; done) | (go_simp; rfl)); intro gb163 hg w23 hbox hb; have BK163 := ak (hbox); have GW163 := ak ((by rw [hg]; exact (below_size (bl1 HB GE162)) : w.heap.size ≤ gb163)); have GE163 := ak ((by rw [hg]; exact (below_size (bl1 HB GE162)) : w.heap.size ≤ gb163)); replace HB := ak (below_step (bl1 HB GE162) hb); have NB162_163 := ak ((by rw [hg]; exact Nat.ne_of_lt (blk_lt (bk BK162)) : gb162 ≠ gb163)); have NB163_162 := ak ((by rw [hg]; exact Nat.ne_of_gt (blk_lt (bk BK162)) : gb163 ≠ gb162)); replace BK162 := ak (blk_below (bk BK162) hb); clear hb hbox hg; have hnb24 := NB162_163.out; have hnc24 := NB163_162.out; have hcz25_0 := bc w23 BK162 0 (.slice A0_0 l0_0.length c0_0) rfl; have hcz25_1 := bc w23 BK162 1 (.int .i64 a0_1) rfl; have hfz25_0 := fz BK162 0; have hfz25_1 := fz BK162 1; have hcz26_0 := bc w23 BK163 0 (.slice A1_0 l1_0.length c1_0) rfl; have hcz26_1 := bc w23 BK163 1 (.int .i64 a1_1) rfl; have hfz26_0 := fz BK163 0; have hfz26_1 := fz BK163 1) | go_values | go_skip | go_guarded | go_step | go_upon | go_back | go_quiet (first | ((with_reducible refine gate_dst (N := 2) rfl ?_); refine box_event ?hg (N := 2) ?hd (cs := #[.slice A0_0 l0_0.length c0_0, .int .i64 a0_1]) (t := 103) ?hr ?_; (case hd => rfl); (case hg => rfl); (case hr => first | (go_simp; done) | (go_simp; rfl)); intro gb162 hg w22 hbox hb; have BK162 := ak (hbox); have GW162 := ak ((by rw [hg]; exact (below_size (bl HB)) : w.heap.size ≤ gb162)); have GE162 := ak ((by rw [hg]; exact (below_size (bl HB)) : w.heap.size ≤ gb162)); replace HB := ak (below_step (bl HB) hb); clear hb hbox hg) | ((with_reducible refine gate_dst (N := 3) rfl ?_); refine box_event ?hg (N := 3) ?hd (cs := #[.slice A1_0 l1_0.length c1_0, .int .i64 a1_1]) (t := 103) ?hr ?_; (case hd => rfl); (case hg => rfl); (case hr => first | (go_simp; done) | (go_simp; rfl)); intro gb163 hg w23 hbox hb; have BK163 := ak (hbox); have GW163 := ak ((by rw [hg]; exact (below_size (bl1 HB GE162)) : w.heap.size ≤ gb163)); have GE163 := ak ((by rw [hg]; exact (below_size (bl1 HB GE162)) : w.heap.size ≤ gb163)); replace HB := ak (below_step (bl1 HB GE162) hb); have NB162_163 := ak ((by rw [hg]; exact Nat.ne_of_lt (blk_lt (bk BK162)) : gb162 ≠ gb163)); have NB163_162 := ak ((by rw [hg]; exact Nat.ne_of_gt (blk_lt (bk BK162)) : gb163 ≠ gb162)); replace BK162 := ak (blk_below (bk BK162) hb); clear hb hbox hg; have hnb24 := NB162_163.out; have hnc24 := NB163_162.out; have hcz25_0 := bc w23 BK162 0 (.slice A0_0 l0_0.length c0_0) rfl; have hcz25_1 := bc w23 BK162 1 (.int .i64 a0_1) rfl; have hfz25_0 := fz BK162 0; have hfz25_1 := fz BK162 1; have hcz26_0 := bc w23 BK163 0 (.slice A1_0 l1_0.length c1_0) rfl; have hcz26_1 := bc w23 BK163 1 (.int .i64 a1_1) rfl; have hfz26_0 := fz BK163 0; have hfz26_1 := fz BK163 1)))
  go_ret
  exact ⟨by first | rfl | (simp [errW_none, errW_some] <;> rfl) | (simp [*, errW_none, errW_some] <;> rfl), bl2 HB GE162 GE163⟩
 rw [if_pos c4] at H
 have c4b0 : ((l0_0.length : Int) == (l1_0.length : Int)) = true := beq_iff_eq.mpr c4
 have c4b1 : ((l0_0.length : Int) != (l1_0.length : Int)) = false := bne_eq_false_iff_eq.mpr c4
 have c4b2 : (l0_0.length == l1_0.length) = true := by first | simpa using c4 | (simp at c4 ⊢; omega)
 clear c4
 have H' := ak H
 clear H
 go_enter Try.func127, Try.ntmps127
 go_wp2_with (first | ((with_reducible refine gate_dst (N := 2) rfl ?_); refine box_event ?hg (N := 2) ?hd (cs := #[.slice A0_0 l0_0.length c0_0, .int .i64 a0_1]) (t := 103) ?hr ?_; (case hd => rfl); (case hg => rfl); (case hr => first | (go_simp; done) | (go_simp; rfl)); intro gb162 hg w5 hbox hb; have BK162 := ak (hbox); have GW162 := ak ((by rw [hg]; exact (below_size (bl HB)) : w.heap.size ≤ gb162)); have GE162 := ak ((by rw [hg]; exact (below_size (bl HB)) : w.heap.size ≤ gb162)); replace HB := ak (below_step (bl HB) hb); clear hb hbox hg) | ((with_reducible refine gate_dst (N := 3) rfl ?_); refine box_event ?hg (N := 3) ?hd (cs := #[.slice A1_0 l1_0.length c1_0, .int .i64 a1_1]) (t := 103) ?hr ?_; (case hd => rfl); (case hg => rfl); (case hr => first | (go_simp; done) | (go_simp; rfl)); intro gb163 hg w6 hbox hb; have BK163 := ak (hbox); have GW163 := ak ((by rw [hg]; exact (below_size (bl1 HB GE162)) : w.heap.size ≤ gb163)); have GE163 := ak ((by rw [hg]; exact (below_size (bl1 HB GE162)) : w.heap.size ≤ gb163)); replace HB := ak (below_step (bl1 HB GE162) hb); have NB162_163 := ak ((by rw [hg]; exact Nat.ne_of_lt (blk_lt (bk BK162)) : gb162 ≠ gb163)); have NB163_162 := ak ((by rw [hg]; exact Nat.ne_of_gt (blk_lt (bk BK162)) : gb163 ≠ gb162)); replace BK162 := ak (blk_below (bk BK162) hb); clear hb hbox hg; have hnb7 := NB162_163.out; have hnc7 := NB163_162.out; have hcz8_0 := bc w6 BK162 0 (.slice A0_0 l0_0.length c0_0) rfl; have hcz8_1 := bc w6 BK162 1 (.int .i64 a0_1) rfl; have hfz8_0 := fz BK162 0; have hfz8_1 := fz BK162 1; have hcz9_0 := bc w6 BK163 0 (.slice A1_0 l1_0.length c1_0) rfl; have hcz9_1 := bc w6 BK163 1 (.int .i64 a1_1) rfl; have hfz9_0 := fz BK163 0; have hfz9_1 := fz BK163 1) | go_values | go_skip | go_guarded | go_step | go_upon | go_back | go_quiet (first | ((with_reducible refine gate_dst (N := 2) rfl ?_); refine box_event ?hg (N := 2) ?hd (cs := #[.slice A0_0 l0_0.length c0_0, .int .i64 a0_1]) (t := 103) ?hr ?_; (case hd => rfl); (case hg => rfl); (case hr => first | (go_simp; done) | (go_simp; rfl)); intro gb162 hg w5 hbox hb; have BK162 := ak (hbox); have GW162 := ak ((by rw [hg]; exact (below_size (bl HB)) : w.heap.size ≤ gb162)); have GE162 := ak ((by rw [hg]; exact (below_size (bl HB)) : w.heap.size ≤ gb162)); replace HB := ak (below_step (bl HB) hb); clear hb hbox hg) | ((with_reducible refine gate_dst (N := 3) rfl ?_); refine box_event ?hg (N := 3) ?hd (cs := #[.slice A1_0 l1_0.length c1_0, .int .i64 a1_1]) (t := 103) ?hr ?_; (case hd => rfl); (case hg => rfl); (case hr => first | (go_simp; done) | (go_simp; rfl)); intro gb163 hg w6 hbox hb; have BK163 := ak (hbox); have GW163 := ak ((by rw [hg]; exact (below_size (bl1 HB GE162)) : w.heap.size ≤ gb163)); have GE163 := ak ((by rw [hg]; exact (below_size (bl1 HB GE162)) : w.heap.size ≤ gb163)); replace HB := ak (below_step (bl1 HB GE162) hb); have NB162_163 := ak ((by rw [hg]; exact Nat.ne_of_lt (blk_lt (bk BK162)) : gb162 ≠ gb163)); have NB163_162 := ak ((by rw [hg]; exact Nat.ne_of_gt (blk_lt (bk BK162)) : gb163 ≠ gb162)); replace BK162 := ak (blk_below (bk BK162) hb); clear hb hbox hg; have hnb7 := NB162_163.out; have hnc7 := NB163_162.out; have hcz8_0 := bc w6 BK162 0 (.slice A0_0 l0_0.length c0_0) rfl; have hcz8_1 := bc w6 BK162 1 (.int .i64 a0_1) rfl; have hfz8_0 := fz BK162 0; have hfz8_1 := fz BK162 1; have hcz9_0 := bc w6 BK163 0 (.slice A1_0 l1_0.length c1_0) rfl; have hcz9_1 := bc w6 BK163 1 (.int .i64 a1_1) rfl; have hfz9_0 := fz BK163 0; have hfz9_1 := fz BK163 1)))
 go_loopg [5] k (fun kq v5 w' => ∃ (x5_1 : Int), v5 = .int .i64 x5_1 ∧ Aside0 (spec_l14Less.l0 kq x5_1 l0_0 a0_1 l1_0 a1_1 = some r) ∧ Aside0 (kq ≤ k) ∧ Aside0 (w'.heap[gb162]? = some (.cells #[(.slice A0_0 l0_0.length c0_0), .int .i64 a0_1] 103 (0, 0))) ∧ Aside0 (w'.heap[gb163]? = some (.cells #[(.slice A1_0 l1_0.length c1_0), .int .i64 a1_1] 103 (0, 0))) ∧ Aside0 (Below w.heap.size w w'))
 case atStart => exact ⟨(0), (by first | rfl | (simp; done) | (simp [*]; done)), H', ⟨Nat.le_refl _⟩, ⟨bk BK162⟩, ⟨bk BK163⟩, ⟨bl2 HB GE162 GE163⟩⟩
 clear H'
 try clear c1
 try clear p2
 try clear c3
 try clear c3b0
 try clear c3b1
 try clear c4
 try clear c4b0
 try clear c4b1
 try clear c4b2
 try clear c7
 try clear hcz8_0
 try clear hcz8_1
 try clear hcz9_0
 try clear hcz9_1
 try clear hfz8_0
 try clear hfz8_1
 try clear hfz9_0
 try clear hfz9_1
 obtain ⟨x5_1, rfl, HA, HK1, BK162, BK163, HB⟩ := hrel
 cases gk with
 | zero => exact absurd HA.out (by simp [spec_l14Less.l0])
 | succ k1 =>
  have H := HA.out
  clear HA
  simp only [spec_l14Less.l0] at H
  by_cases c10 : x5_1 < (l0_0.length : Int)
  rotate_left
  ·rw [if_neg c10] at H
   have c10b0 : decide (x5_1 < (l0_0.length : Int)) = false := decide_eq_false c10
   clear c10
   obtain rfl := Option.some.inj H
   have hnb20 := NB162_163.out
   have hnc20 := NB163_162.out
   have hcz21_0 := bc wr BK162 0 (.slice A0_0 l0_0.length c0_0) rfl
   have hcz21_1 := bc wr BK162 1 (.int .i64 a0_1) rfl
   have hfz21_0 := fz BK162 0
   have hfz21_1 := fz BK162 1
   go_wp2
   repeat (go_quiet (fail); try go_wp2)
   go_ret
   exact ⟨by first | rfl | (simp [errW_none, errW_some] <;> rfl) | (simp [*, errW_none, errW_some] <;> rfl), bl2 HB GE162 GE163⟩
  rw [if_pos c10] at H
  have c10b0 : decide (x5_1 < (l0_0.length : Int)) = true := decide_eq_true c10
  clear c10
  by_cases c11 : 0 ≤ x5_1
  rotate_left
  ·rw [if_neg c11] at H
   exact absurd H (by simp)
  rw [if_pos c11] at H
  have c11b0 : decide (0 ≤ x5_1) = true := decide_eq_true c11
  clear c11
  by_cases c12 : x5_1 < (l1_0.length : Int)
  rotate_left
  ·rw [if_neg c12] at H
   exact absurd H (by simp)
  rw [if_pos c12] at H
  have c12b0 : decide (x5_1 < (l1_0.length : Int)) = true := decide_eq_true c12
  clear c12
  by_cases c13 : (rd l0_0 x5_1) = (rd l1_0 x5_1)
  ·rw [if_pos c13] at H
   have c13b0 : ((rd l0_0 x5_1) == (rd l1_0 x5_1)) = true := beq_iff_eq.mpr c13
   have c13b1 : ((rd l0_0 x5_1) != (rd l1_0 x5_1)) = false := bne_eq_false_iff_eq.mpr c13
   clear c13
   have H' := ak H
   clear H
   have hnb14 := NB162_163.out
   have hnc14 := NB163_162.out
   have hcz15_0 := bc wr BK162 0 (.slice A0_0 l0_0.length c0_0) rfl
   have hcz15_1 := bc wr BK162 1 (.int .i64 a0_1) rfl
   have hfz15_0 := fz BK162 0
   have hfz15_1 := fz BK162 1
   have p164 : 0 ≤ (x5_1 : Int) := oT (by first | (with_reducible assumption) | assumption)
   have q164 : x5_1 < (l0_0.length : Int) := oT (by first | (with_reducible assumption) | assumption)
   obtain ⟨ad164, e164, hx164_0⟩ := Kd.at_int HR0_0.out x5_1 p164 q164
   cases e164
   replace hx164_0 := hcb HB.out hx164_0
   replace p164 := eq_true p164
   replace q164 := eq_true q164
   have hcz16_0 := bc wr BK163 0 (.slice A1_0 l1_0.length c1_0) rfl
   have hcz16_1 := bc wr BK163 1 (.int .i64 a1_1) rfl
   have hfz16_0 := fz BK163 0
   have hfz16_1 := fz BK163 1
   have p165 : 0 ≤ (x5_1 : Int) := oT (by first | (with_reducible assumption) | assumption)
   have q165 : x5_1 < (l1_0.length : Int) := oT (by first | (with_reducible assumption) | assumption)
   obtain ⟨ad165, e165, hx165_0⟩ := Kd.at_int HR1_0.out x5_1 p165 q165
   cases e165
   replace hx165_0 := hcb HB.out hx165_0
   replace p165 := eq_true p165
   replace q165 := eq_true q165
   go_wp2
   repeat (go_quiet (fail); try go_wp2)
   go_roundg k1
   case measure => have := HK1.out; omega
   case rel => exact ⟨(wrap64 (x5_1 + 1)), (by first | rfl | (simp; done) | (simp [*]; done)), H', ⟨by have := HK1.out; omega⟩, ⟨bk BK162⟩, ⟨bk BK163⟩, ⟨bl2 HB GE162 GE163⟩⟩
  rw [if_neg c13] at H
  have c13b0 : ((rd l0_0 x5_1) == (rd l1_0 x5_1)) = false := beq_eq_false_iff_ne.mpr c13
  have c13b1 : ((rd l0_0 x5_1) != (rd l1_0 x5_1)) = true := bne_iff_ne.mpr c13
  obtain rfl := Option.some.inj H
  have hnb17 := NB162_163.out
  have hnc17 := NB163_162.out
  have hcz18_0 := bc wr BK162 0 (.slice A0_0 l0_0.length c0_0) rfl
  have hcz18_1 := bc wr BK162 1 (.int .i64 a0_1) rfl
  have hfz18_0 := fz BK162 0
  have hfz18_1 := fz BK162 1
  have p164 : 0 ≤ (x5_1 : Int) := oT (by first | (with_reducible assumption) | assumption)
  have q164 : x5_1 < (l0_0.length : Int) := oT (by first | (with_reducible assumption) | assumption)
  obtain ⟨ad164, e164, hx164_0⟩ := Kd.at_int HR0_0.out x5_1 p164 q164
  cases e164
  replace hx164_0 := hcb HB.out hx164_0
  replace p164 := eq_true p164
  replace q164 := eq_true q164
  have hcz19_0 := bc wr BK163 0 (.slice A1_0 l1_0.length c1_0) rfl
  have hcz19_1 := bc wr BK163 1 (.int .i64 a1_1) rfl
  have hfz19_0 := fz BK163 0
  have hfz19_1 := fz BK163 1
  have p165 : 0 ≤ (x5_1 : Int) := oT (by first | (with_reducible assumption) | assumption)
  have q165 : x5_1 < (l1_0.length : Int) := oT (by first | (with_reducible assumption) | assumption)
  obtain ⟨ad165, e165, hx165_0⟩ := Kd.at_int HR1_0.out x5_1 p165 q165
  cases e165
  replace hx165_0 := hcb HB.out hx165_0
  replace p165 := eq_true p165
  replace q165 := eq_true q165
  have p166 : 0 ≤ (x5_1 : Int) := oT (by first | (with_reducible assumption) | assumption)
  have q166 : x5_1 < (l0_0.length : Int) := oT (by first | (with_reducible assumption) | assumption)
  obtain ⟨ad166, e166, hx166_0⟩ := Kd.at_int HR0_0.out x5_1 p166 q166
  obtain rfl : ad164 = ad166 := (by injection e166)
  replace hx166_0 := hcb HB.out hx166_0
  replace p166 := eq_true p166
  replace q166 := eq_true q166
  have p167 : 0 ≤ (x5_1 : Int) := oT (by first | (with_reducible assumption) | assumption)
  have q167 : x5_1 < (l1_0.length : Int) := oT (by first | (with_reducible assumption) | assumption)
  obtain ⟨ad167, e167, hx167_0⟩ := Kd.at_int HR1_0.out x5_1 p167 q167
  obtain rfl : ad165 = ad167 := (by injection e167)
  replace hx167_0 := hcb HB.out hx167_0
  replace p167 := eq_true p167
  replace q167 := eq_true q167
  go_wp2
  repeat (go_quiet (fail); try go_wp2)
  go_ret
  exact ⟨by first | rfl | (simp [errW_none, errW_some] <;> rfl) | (simp [*, errW_none, errW_some] <;> rfl), bl2 HB GE162 GE163⟩

end Go.Proofs.Ytlgolgfcolnddaa.F
