-- Printed by wip/px/px.py of this claim's repository (the kit's printer, extended there). Lean checks it.
import Derived.Test.YtlgolgfcolnddaaFKinds
namespace Go.Proofs.Ytlgolgfcolnddaa.F
open Go.RowKit Go.Proofs.YtlgolgfcolnddaaW.PrintWords Go.Proofs.YtlgolgfcolnddaaW.PrintLast Go.Proofs.YtlgolgfcolnddaaW.PrintMore
attribute [local go_sem] max2_int min2_int max_two min_two max_three min_three max_four min_four   -- for this text's walks alone
set_option linter.unusedVariables false
set_option linter.unusedSimpArgs false

/-! ### spec_l2Cost: function 56 -/
def spec_l2Cost.l0 : Nat → List Int → Int → Int → Int → List (S58) → Option (Int)
 | 0, _, _, _, _, _ => none
 | k + 1, x1, x5, x6, x300000, x300001 => if x6 < (x1.length : Int) then (if 0 ≤ x6 then (if 0 ≤ (rd x1 x6) then (if (rd x1 x6) < (x300001.length : Int) then (spec_l2Cost.l0 k x1 (wrap64 (x5 + ((rd_T58 x300001 (rd x1 x6)).f2))) (wrap64 (x6 + 1)) x300000 x300001) else (none)) else (none)) else (none)) else (some x5)
def spec_l2Cost.f (k : Nat) (a0_0 : Int) (l0_1 : List (S58)) (l1 : List Int) : Option (Int) := spec_l2Cost.l0 k l1 0 0 a0_0 l0_1
theorem spec_l2Cost.mono_l : ∀ k, (∀ y0 y1 y2 y3 y4, LeO (spec_l2Cost.l0 k y0 y1 y2 y3 y4) (spec_l2Cost.l0 (k + 1) y0 y1 y2 y3 y4))
 | 0 => fun _ _ _ _ _ r h => by simp [spec_l2Cost.l0] at h
 | k + 1 => by
  have ih0 := spec_l2Cost.mono_l k
  ·intro y0 y1 y2 y3 y4
   unfold spec_l2Cost.l0
   repeat' first
   | (with_reducible exact ih0 _ _ _ _ _)
   | (with_reducible exact LeO.refl _)
   | (with_reducible exact LeO.none _)
   | (with_reducible refine LeO.ite ?_ ?_)
   | (with_reducible refine LeO.bind ?_ (fun _ => ?_))
   | exact ih0 _ _ _ _ _
   | exact LeO.none _
   | refine LeO.ite ?_ ?_
   | refine LeO.bind ?_ (fun _ => ?_)
theorem spec_l2Cost.mono : ∀ a0 a1 a2 k, LeO (spec_l2Cost.f k a0 a1 a2) (spec_l2Cost.f (k + 1) a0 a1 a2) := by
 intro a0 a1 a2 k
 have ih0 := spec_l2Cost.mono_l k
 unfold spec_l2Cost.f
 repeat' first
   | (with_reducible exact ih0 _ _ _ _ _)
   | (with_reducible exact LeO.refl _)
   | (with_reducible exact LeO.none _)
   | (with_reducible refine LeO.ite ?_ ?_)
   | (with_reducible refine LeO.bind ?_ (fun _ => ?_))
   | exact ih0 _ _ _ _ _
   | exact LeO.none _
   | refine LeO.ite ?_ ?_
   | refine LeO.bind ?_ (fun _ => ?_)
set_option maxHeartbeats 8000000 in
set_option maxRecDepth 100000 in
theorem spec_l2Cost.calls (k : Nat) (a0_0 : Int) (A0_1 : Option Addr) (c0_1 : Nat) (l0_1 : List (S58)) (A1 : Option Addr) (c1 : Nat) (l1 : List Int) (r : Int) (w : World) (hr0_1 : Kd.C k58 w A0_1 l0_1.length l0_1) (hc0_1 : l0_1.length ≤ c0_1) (hr1 : Kd.C (Kd.int .i64) w A1 l1.length l1) (hc1 : l1.length ≤ c1) (h : spec_l2Cost.f k a0_0 l0_1 l1 = some r) :
  Calls Try.prog 56 #[.agg #[.int .i64 a0_0, .slice A0_1 l0_1.length c0_1], .slice A1 l1.length c1] w fun e w' => e = .returned (.int .i64 r) ∧ Below w.heap.size w w' := by
 have hu25 := Try.underlying25
 have HR0_1 := ak hr0_1
 have HC0_1 := ak hc0_1
 clear hr0_1 hc0_1
 have HR1 := ak hr1
 have HC1 := ak hc1
 clear hr1 hc1
 have HB := ak (Below.refl w.heap.size w)
 have H : (spec_l2Cost.l0 k l1 0 0 a0_0 l0_1) = some r := h
 clear h
 have H' := ak H
 clear H
 go_enter Try.func56, Try.ntmps56
 go_wp2_with (first | ((with_reducible refine gate_dst (N := 2) rfl ?_); refine box_event ?hg (N := 2) ?hd (cs := #[.int .i64 a0_0, .slice A0_1 l0_1.length c0_1]) (t := 25) ?hr ?_; (case hd => rfl); (case hg => rfl); (case hr => first | (go_simp; done) | (go_simp; rfl)); intro gb299 hg w3 hbox hb; have BK299 := ak (hbox); have GW299 := ak ((by rw [hg]; exact (below_size (bl HB)) : w.heap.size ≤ gb299)); have GE299 := ak ((by rw [hg]; exact (below_size (bl HB)) : w.heap.size ≤ gb299)); replace HB := ak (below_step (bl HB) hb); clear hb hbox hg))
 repeat (go_quiet (first | ((with_reducible refine gate_dst (N := 2) rfl ?_); refine box_event ?hg (N := 2) ?hd (cs := #[.int .i64 a0_0, .slice A0_1 l0_1.length c0_1]) (t := 25) ?hr ?_; (case hd => rfl); (case hg => rfl); (case hr => first | (go_simp; done) | (go_simp; rfl)); intro gb299 hg w3 hbox hb; have BK299 := ak (hbox); have GW299 := ak ((by rw [hg]; exact (below_size (bl HB)) : w.heap.size ≤ gb299)); have GE299 := ak ((by rw [hg]; exact (below_size (bl HB)) : w.heap.size ≤ gb299)); replace HB := ak (below_step (bl HB) hb); clear hb hbox hg)); try go_wp2_with (first | ((with_reducible refine gate_dst (N := 2) rfl ?_); refine box_event ?hg (N := 2) ?hd (cs := #[.int .i64 a0_0, .slice A0_1 l0_1.length c0_1]) (t := 25) ?hr ?_; (case hd => rfl); (case hg => rfl); (case hr => first | (go_simp; done) | (go_simp; rfl)); intro gb299 hg w3 hbox hb; have BK299 := ak (hbox); have GW299 := ak ((by rw [hg]; exact (below_size (bl HB)) : w.heap.size ≤ gb299)); have GE299 := ak ((by rw [hg]; exact (below_size (bl HB)) : w.heap.size ≤ gb299)); replace HB := ak (below_step (bl HB) hb); clear hb hbox hg)))
 go_loopg [5, 6] k (fun kq v5 v6 w' => ∃ (x5_1 : Int) (x6_1 : Int), v5 = .int .i64 x5_1 ∧ v6 = .int .i64 x6_1 ∧ Aside0 (spec_l2Cost.l0 kq l1 x5_1 x6_1 a0_0 l0_1 = some r) ∧ Aside0 (kq ≤ k) ∧ Aside0 (w'.heap[gb299]? = some (.cells #[.int .i64 a0_0, (.slice A0_1 l0_1.length c0_1)] 25 (0, 0))) ∧ Aside0 (Below w.heap.size w w'))
 case atStart => exact ⟨(0), (0), (by first | rfl | (simp; done) | (simp [*]; done)), (by first | rfl | (simp; done) | (simp [*]; done)), H', ⟨Nat.le_refl _⟩, ⟨bk BK299⟩, ⟨bl1 HB GE299⟩⟩
 clear H'
 try clear c1
 try clear p2
 obtain ⟨x5_1, x6_1, rfl, rfl, HA, HK1, BK299, HB⟩ := hrel
 cases gk with
 | zero => exact absurd HA.out (by simp [spec_l2Cost.l0])
 | succ k1 =>
  have H := HA.out
  clear HA
  simp only [spec_l2Cost.l0] at H
  by_cases c4 : x6_1 < (l1.length : Int)
  rotate_left
  ·rw [if_neg c4] at H
   have c4b0 : decide (x6_1 < (l1.length : Int)) = false := decide_eq_false c4
   clear c4
   obtain rfl := Option.some.inj H
   go_wp2
   repeat (go_quiet (fail); try go_wp2)
   go_ret
   exact ⟨by first | rfl | (simp [errW_none, errW_some] <;> rfl) | (simp [*, errW_none, errW_some] <;> rfl), bl1 HB GE299⟩
  rw [if_pos c4] at H
  have c4b0 : decide (x6_1 < (l1.length : Int)) = true := decide_eq_true c4
  clear c4
  by_cases c5 : 0 ≤ x6_1
  rotate_left
  ·rw [if_neg c5] at H
   exact absurd H (by simp)
  rw [if_pos c5] at H
  have c5b0 : decide (0 ≤ x6_1) = true := decide_eq_true c5
  clear c5
  by_cases c6 : 0 ≤ (rd l1 x6_1)
  rotate_left
  ·rw [if_neg c6] at H
   exact absurd H (by simp)
  rw [if_pos c6] at H
  have c6b0 : decide (0 ≤ (rd l1 x6_1)) = true := decide_eq_true c6
  clear c6
  by_cases c7 : (rd l1 x6_1) < (l0_1.length : Int)
  rotate_left
  ·rw [if_neg c7] at H
   exact absurd H (by simp)
  rw [if_pos c7] at H
  have c7b0 : decide ((rd l1 x6_1) < (l0_1.length : Int)) = true := decide_eq_true c7
  clear c7
  have H' := ak H
  clear H
  have hcz8_0 := bc wr BK299 0 (.int .i64 a0_0) rfl
  have hcz8_1 := bc wr BK299 1 (.slice A0_1 l0_1.length c0_1) rfl
  have hfz8_0 := fz BK299 0
  have hfz8_1 := fz BK299 1
  have p300 : 0 ≤ (x6_1 : Int) := oT (by first | (with_reducible assumption) | assumption)
  have q300 : x6_1 < (l1.length : Int) := oT (by first | (with_reducible assumption) | assumption)
  obtain ⟨ad300, e300, hx300_0⟩ := Kd.at_int HR1.out x6_1 p300 q300
  cases e300
  replace hx300_0 := hcb HB.out hx300_0
  replace p300 := eq_true p300
  replace q300 := eq_true q300
  have p301 : 0 ≤ ((rd l1 x6_1) : Int) := oT (by first | (with_reducible assumption) | assumption)
  have q301 : (rd l1 x6_1) < (l0_1.length : Int) := oT (by first | (with_reducible assumption) | assumption)
  obtain ⟨ad301, e301, hx301_0, hx301_1, hx301_2, hx301_3, hx301_4⟩ := at_T58 HR0_1.out (rd l1 x6_1) p301 q301
  cases e301
  replace hx301_0 := hcb HB.out hx301_0
  replace hx301_1 := hcb HB.out hx301_1
  replace hx301_2 := hcb HB.out hx301_2
  replace hx301_3 := hcb HB.out hx301_3
  replace hx301_4 := hcb HB.out hx301_4
  replace p301 := eq_true p301
  replace q301 := eq_true q301
  go_wp2
  repeat (go_quiet (fail); try go_wp2)
  go_roundg k1
  case measure => have := HK1.out; omega
  case rel => exact ⟨(wrap64 (x5_1 + ((rd_T58 l0_1 (rd l1 x6_1)).f2))), (wrap64 (x6_1 + 1)), (by first | rfl | (simp; done) | (simp [*]; done)), (by first | rfl | (simp; done) | (simp [*]; done)), H', ⟨by have := HK1.out; omega⟩, ⟨bk BK299⟩, ⟨bl1 HB GE299⟩⟩

end Go.Proofs.Ytlgolgfcolnddaa.F
