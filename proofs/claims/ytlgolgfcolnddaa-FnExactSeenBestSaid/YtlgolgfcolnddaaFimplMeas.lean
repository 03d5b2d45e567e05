-- Printed by wip/px/px.py of this claim's repository (the kit's printer, extended there). Lean checks it.
import Derived.Test.YtlgolgfcolnddaaFKinds
import Derived.Test.YtlgolgfcolnddaaFtextrepeatmeasure
namespace Go.Proofs.Ytlgolgfcolnddaa.F
open Go.RowKit Go.Proofs.YtlgolgfcolnddaaW.PrintWords Go.Proofs.YtlgolgfcolnddaaW.PrintLast Go.Proofs.YtlgolgfcolnddaaW.PrintMore
attribute [local go_sem] max2_int min2_int max_two min_two max_three min_three max_four min_four   -- for this text's walks alone
set_option linter.unusedVariables false
set_option linter.unusedSimpArgs false

/-! ### impl_measure: function 118 -/
def impl_measure.f (l0 : List (S114)) (a1 : Int) : Option (List (S114)) :=
 match l0 with
 | [x] => if 0 ≤ a1 ∧ a1 ≤ 8 then some (List.replicate a1.toNat x) else none
 | _ => none
theorem impl_measure.calls (A0 : Option Addr) (c0 : Nat) (l0 : List (S114)) (a1 : Int) (r : List (S114)) (w : World) (hr0 : Kd.C k114 w A0 l0.length l0) (hc0 : l0.length ≤ c0) (h : impl_measure.f l0 a1 = some r) :
  Calls Try.prog 118 #[.slice A0 l0.length c0, .int .i64 a1] w fun e w' => ∃ v0_ : Value, e = .returned (v0_) ∧ Kd.R k114 114 w' w.heap.size (fun _ => True) v0_ r ∧ Below w.heap.size w w' := by
 match l0, hr0, h with
 | [x], hr0, h =>
  unfold impl_measure.f at h
  simp only at h
  by_cases ha : 0 ≤ a1 ∧ a1 ≤ 8
  rotate_left
  ·rw [if_neg ha] at h
   cases h
  rw [if_pos ha] at h
  obtain rfl := Option.some.inj h
  obtain ⟨m, rfl⟩ := Int.eq_ofNat_of_zero_le ha.1
  rw [Int.toNat_natCast]
  exact repeat_any x A0 c0 m (by omega) w hr0
 | [], _, h => cases h
 | _ :: _ :: _, _, h => cases h

/-! ### impl_measure_less: function 119 -/
def impl_measure_less.f (a0_0 : Int) (a0_1 : Int) (a1_0 : Int) (a1_1 : Int) : Option (Bool) := if a0_0 < a1_0 then (some true) else (if a0_0 = a1_0 then (some (decide (a0_1 < a1_1))) else (some false))
set_option maxHeartbeats 8000000 in
set_option maxRecDepth 100000 in
theorem impl_measure_less.calls (a0_0 : Int) (a0_1 : Int) (a1_0 : Int) (a1_1 : Int) (r : Bool) (w : World) (h : impl_measure_less.f a0_0 a0_1 a1_0 a1_1 = some r) :
  Calls Try.prog 119 #[.agg #[.int .i64 a0_0, .int .i64 a0_1], .agg #[.int .i64 a1_0, .int .i64 a1_1]] w fun e w' => e = .returned (.bool r) ∧ Below w.heap.size w w' := by
 have hu114 := Try.underlying114
 have HB := ak (Below.refl w.heap.size w)
 have H : (if a0_0 < a1_0 then (some true) else (if a0_0 = a1_0 then (some (decide (a0_1 < a1_1))) else (some false))) = some r := h
 clear h
 by_cases c3 : a0_0 < a1_0
 ·rw [if_pos c3] at H
  have c3b0 : decide (a0_0 < a1_0) = true := decide_eq_true c3
  clear c3
  obtain rfl := Option.some.inj H
  go_enter Try.func119, Try.ntmps119
  go_wp2_with (first | ((with_reducible refine gate_dst (N := 2) rfl ?_); refine box_event ?hg (N := 2) ?hd (cs := #[.int .i64 a0_0, .int .i64 a0_1]) (t := 114) ?hr ?_; (case hd => rfl); (case hg => rfl); (case hr => first | (go_simp; done) | (go_simp; rfl)); intro gb259 hg w4 hbox hb; have BK259 := ak (hbox); have GW259 := ak ((by rw [hg]; exact (below_size (bl HB)) : w.heap.size ≤ gb259)); have GE259 := ak ((by rw [hg]; exact (below_size (bl HB)) : w.heap.size ≤ gb259)); replace HB := ak (below_step (bl HB) hb); clear hb hbox hg) | ((with_reducible refine gate_dst (N := 3) rfl ?_); refine box_event ?hg (N := 3) ?hd (cs := #[.int .i64 a1_0, .int .i64 a1_1]) (t := 114) ?hr ?_; (case hd => rfl); (case hg => rfl); (case hr => first | (go_simp; done) | (go_simp; rfl)); intro gb260 hg w5 hbox hb; have BK260 := ak (hbox); have GW260 := ak ((by rw [hg]; exact (below_size (bl1 HB GE259)) : w.heap.size ≤ gb260)); have GE260 := ak ((by rw [hg]; exact (below_size (bl1 HB GE259)) : w.heap.size ≤ gb260)); replace HB := ak (below_step (bl1 HB GE259) hb); have NB259_260 := ak ((by rw [hg]; exact Nat.ne_of_lt (blk_lt (bk BK259)) : gb259 ≠ gb260)); have NB260_259 := ak ((by rw [hg]; exact Nat.ne_of_gt (blk_lt (bk BK259)) : gb260 ≠ gb259)); replace BK259 := ak (blk_below (bk BK259) hb); clear hb hbox hg; have hnb6 := NB259_260.out; have hnc6 := NB260_259.out; have hcz7_0 := bc w5 BK259 0 (.int .i64 a0_0) rfl; have hcz7_1 := bc w5 BK259 1 (.int .i64 a0_1) rfl; have hfz7_0 := fz BK259 0; have hfz7_1 := fz BK259 1; have hcz8_0 := bc w5 BK260 0 (.int .i64 a1_0) rfl; have hcz8_1 := bc w5 BK260 1 (.int .i64 a1_1) rfl; have hfz8_0 := fz BK260 0; have hfz8_1 := fz BK260 1))
  go_ret
  exact ⟨by first | rfl | (simp [errW_none, errW_some] <;> rfl) | (simp [*, errW_none, errW_some] <;> rfl), bl2 HB GE259 GE260⟩
 rw [if_neg c3] at H
 have c3b0 : decide (a0_0 < a1_0) = false := decide_eq_false c3
 clear c3
 by_cases c9 : a0_0 = a1_0
 rotate_left
 ·rw [if_neg c9] at H
  have c9b0 : (a0_0 == a1_0) = false := beq_eq_false_iff_ne.mpr c9
  have c9b1 : (a0_0 != a1_0) = true := bne_iff_ne.mpr c9
  obtain rfl := Option.some.inj H
  go_enter Try.func119, Try.ntmps119
  go_wp2_with (first | ((with_reducible refine gate_dst (N := 2) rfl ?_); refine box_event ?hg (N := 2) ?hd (cs := #[.int .i64 a0_0, .int .i64 a0_1]) (t := 114) ?hr ?_; (case hd => rfl); (case hg => rfl); (case hr => first | (go_simp; done) | (go_simp; rfl)); intro gb259 hg w15 hbox hb; have BK259 := ak (hbox); have GW259 := ak ((by rw [hg]; exact (below_size (bl HB)) : w.heap.size ≤ gb259)); have GE259 := ak ((by rw [hg]; exact (below_size (bl HB)) : w.heap.size ≤ gb259)); replace HB := ak (below_step (bl HB) hb); clear hb hbox hg) | ((with_reducible refine gate_dst (N := 3) rfl ?_); refine box_event ?hg (N := 3) ?hd (cs := #[.int .i64 a1_0, .int .i64 a1_1]) (t := 114) ?hr ?_; (case hd => rfl); (case hg => rfl); (case hr => first | (go_simp; done) | (go_simp; rfl)); intro gb260 hg w16 hbox hb; have BK260 := ak (hbox); have GW260 := ak ((by rw [hg]; exact (below_size (bl1 HB GE259)) : w.heap.size ≤ gb260)); have GE260 := ak ((by rw [hg]; exact (below_size (bl1 HB GE259)) : w.heap.size ≤ gb260)); replace HB := ak (below_step (bl1 HB GE259) hb); have NB259_260 := ak ((by rw [hg]; exact Nat.ne_of_lt (blk_lt (bk BK259)) : gb259 ≠ gb260)); have NB260_259 := ak ((by rw [hg]; exact Nat.ne_of_gt (blk_lt (bk BK259)) : gb260 ≠ gb259)); replace BK259 := ak (blk_below (bk BK259) hb); clear hb hbox hg; have hnb17 := NB259_260.out; have hnc17 := NB260_259.out; have hcz18_0 := bc w16 BK259 0 (.int .i64 a0_0) rfl; have hcz18_1 := bc w16 BK259 1 (.int .i64 a0_1) rfl; have hfz18_0 := fz BK259 0; have hfz18_1 := fz BK259 1; have hcz19_0 := bc w16 BK260 0 (.int .i64 a1_0) rfl; have hcz19_1 := bc w16 BK260 1 (.int .i64 a1_1) rfl; have hfz19_0 := fz BK260 0; have hfz19_1 := fz BK260 1))
  go_ret
  exact ⟨by first | rfl | (simp [errW_none, errW_some] <;> rfl) | (simp [*, errW_none, errW_some] <;> rfl), bl2 HB GE259 GE260⟩
 rw [if_pos c9] at H
 have c9b0 : (a0_0 == a1_0) = true := beq_iff_eq.mpr c9
 have c9b1 : (a0_0 != a1_0) = false := bne_eq_false_iff_eq.mpr c9
 clear c9
 obtain rfl := Option.some.inj H
 go_enter Try.func119, Try.ntmps119
 go_wp2_with (first | ((with_reducible refine gate_dst (N := 2) rfl ?_); refine box_event ?hg (N := 2) ?hd (cs := #[.int .i64 a0_0, .int .i64 a0_1]) (t := 114) ?hr ?_; (case hd => rfl); (case hg => rfl); (case hr => first | (go_simp; done) | (go_simp; rfl)); intro gb259 hg w10 hbox hb; have BK259 := ak (hbox); have GW259 := ak ((by rw [hg]; exact (below_size (bl HB)) : w.heap.size ≤ gb259)); have GE259 := ak ((by rw [hg]; exact (below_size (bl HB)) : w.heap.size ≤ gb259)); replace HB := ak (below_step (bl HB) hb); clear hb hbox hg) | ((with_reducible refine gate_dst (N := 3) rfl ?_); refine box_event ?hg (N := 3) ?hd (cs := #[.int .i64 a1_0, .int .i64 a1_1]) (t := 114) ?hr ?_; (case hd => rfl); (case hg => rfl); (case hr => first | (go_simp; done) | (go_simp; rfl)); intro gb260 hg w11 hbox hb; have BK260 := ak (hbox); have GW260 := ak ((by rw [hg]; exact (below_size (bl1 HB GE259)) : w.heap.size ≤ gb260)); have GE260 := ak ((by rw [hg]; exact (below_size (bl1 HB GE259)) : w.heap.size ≤ gb260)); replace HB := ak (below_step (bl1 HB GE259) hb); have NB259_260 := ak ((by rw [hg]; exact Nat.ne_of_lt (blk_lt (bk BK259)) : gb259 ≠ gb260)); have NB260_259 := ak ((by rw [hg]; exact Nat.ne_of_gt (blk_lt (bk BK259)) : gb260 ≠ gb259)); replace BK259 := ak (blk_below (bk BK259) hb); clear hb hbox hg; have hnb12 := NB259_260.out; have hnc12 := NB260_259.out; have hcz13_0 := bc w11 BK259 0 (.int .i64 a0_0) rfl; have hcz13_1 := bc w11 BK259 1 (.int .i64 a0_1) rfl; have hfz13_0 := fz BK259 0; have hfz13_1 := fz BK259 1; have hcz14_0 := bc w11 BK260 0 (.int .i64 a1_0) rfl; have hcz14_1 := bc w11 BK260 1 (.int .i64 a1_1) rfl; have hfz14_0 := fz BK260 0; have hfz14_1 := fz BK260 1))
 go_ret
 exact ⟨by first | rfl | (simp [errW_none, errW_some] <;> rfl) | (simp [*, errW_none, errW_some] <;> rfl), bl2 HB GE259 GE260⟩

end Go.Proofs.Ytlgolgfcolnddaa.F
