-- Printed by wip/px/px.py of this claim's repository (the kit's printer, extended there). Lean checks it.
import Derived.Test.YtlgolgfcolnddaaFKinds
import Derived.Test.YtlgolgfcolnddaaFspecl1In
namespace Go.Proofs.Ytlgolgfcolnddaa.F
open Go.RowKit Go.Proofs.YtlgolgfcolnddaaW.PrintWords Go.Proofs.YtlgolgfcolnddaaW.PrintLast Go.Proofs.YtlgolgfcolnddaaW.PrintMore
attribute [local go_sem] max2_int min2_int max_two min_two max_three min_three max_four min_four   -- for this text's walks alone
set_option linter.unusedVariables false
set_option linter.unusedSimpArgs false

/-! ### spec_l1Ok: function 53 -/
def spec_l1Ok.l0 : Nat → Int → Int → List (S58) → Option (Bool)
 | 0, _, _, _ => none
 | k + 1, x3, x154000, x154001 => if x3 < (x154001.length : Int) then (if 0 ≤ x3 then ((spec_l1In.f ((rd_T58 x154001 x3).f0) 0 (wrap64 (x154000 - 1))).bind fun t157 => (if t157 = true then ((spec_l1In.f ((rd_T58 x154001 x3).f1) 0 (wrap64 (x154000 - 1))).bind fun t158 => (if t158 = true then (if ((rd_T58 x154001 x3).f0) = ((rd_T58 x154001 x3).f1) then (some false) else ((spec_l1In.f ((rd_T58 x154001 x3).f2) 0 99).bind fun t159 => (if t159 = true then ((spec_l1In.f ((rd_T58 x154001 x3).f3) 0 99).bind fun t160 => (if t160 = true then ((spec_l1In.f ((rd_T58 x154001 x3).f4) 0 9).bind fun t161 => (if t161 = true then (spec_l1Ok.l0 k (wrap64 (x3 + 1)) x154000 x154001) else (some false))) else (some false))) else (some false)))) else (some false))) else (some false))) else (none)) else ((spec_l1In.f x154000 1 8).bind fun t154 => (if t154 = true then (some (decide ((x154001.length : Int) ≤ 16))) else (some false)))
def spec_l1Ok.f (k : Nat) (a0_0 : Int) (l0_1 : List (S58)) : Option (Bool) := spec_l1Ok.l0 k 0 a0_0 l0_1
theorem spec_l1Ok.mono_l : ∀ k, (∀ y0 y1 y2, LeO (spec_l1Ok.l0 k y0 y1 y2) (spec_l1Ok.l0 (k + 1) y0 y1 y2))
 | 0 => fun _ _ _ r h => by simp [spec_l1Ok.l0] at h
 | k + 1 => by
  have ih0 := spec_l1Ok.mono_l k
  ·intro y0 y1 y2
   unfold spec_l1Ok.l0
   repeat' first
   | (with_reducible exact ih0 _ _ _)
   | (with_reducible exact LeO.refl _)
   | (with_reducible exact LeO.none _)
   | (with_reducible refine LeO.ite ?_ ?_)
   | (with_reducible refine LeO.bind ?_ (fun _ => ?_))
   | exact ih0 _ _ _
   | exact LeO.none _
   | refine LeO.ite ?_ ?_
   | refine LeO.bind ?_ (fun _ => ?_)
theorem spec_l1Ok.mono : ∀ a0 a1 k, LeO (spec_l1Ok.f k a0 a1) (spec_l1Ok.f (k + 1) a0 a1) := by
 intro a0 a1 k
 have ih0 := spec_l1Ok.mono_l k
 unfold spec_l1Ok.f
 repeat' first
   | (with_reducible exact ih0 _ _ _)
   | (with_reducible exact LeO.refl _)
   | (with_reducible exact LeO.none _)
   | (with_reducible refine LeO.ite ?_ ?_)
   | (with_reducible refine LeO.bind ?_ (fun _ => ?_))
   | exact ih0 _ _ _
   | exact LeO.none _
   | refine LeO.ite ?_ ?_
   | refine LeO.bind ?_ (fun _ => ?_)
set_option maxHeartbeats 8000000 in
set_option maxRecDepth 100000 in
theorem spec_l1Ok.calls (k : Nat) (a0_0 : Int) (A0_1 : Option Addr) (c0_1 : Nat) (l0_1 : List (S58)) (r : Bool) (w : World) (hr0_1 : Kd.C k58 w A0_1 l0_1.length l0_1) (hc0_1 : l0_1.length ≤ c0_1) (h : spec_l1Ok.f k a0_0 l0_1 = some r) :
  Calls Try.prog 53 #[.agg #[.int .i64 a0_0, .slice A0_1 l0_1.length c0_1]] w fun e w' => e = .returned (.bool r) ∧ Below w.heap.size w w' := by
 have hu25 := Try.underlying25
 have hu58 := Try.underlying58
 have HR0_1 := ak hr0_1
 have HC0_1 := ak hc0_1
 clear hr0_1 hc0_1
 have HB := ak (Below.refl w.heap.size w)
 have H : (spec_l1Ok.l0 k 0 a0_0 l0_1) = some r := h
 clear h
 have H' := ak H
 clear H
 go_enter Try.func53, Try.ntmps53
 go_wp2_with (first | ((with_reducible refine gate_dst (N := 1) rfl ?_); refine box_event ?hg (N := 1) ?hd (cs := #[.int .i64 a0_0, .slice A0_1 l0_1.length c0_1]) (t := 25) ?hr ?_; (case hd => rfl); (case hg => rfl); (case hr => first | (go_simp; done) | (go_simp; rfl)); intro gb153 hg w2 hbox hb; have BK153 := ak (hbox); have GW153 := ak ((by rw [hg]; exact (below_size (bl HB)) : w.heap.size ≤ gb153)); have GE153 := ak ((by rw [hg]; exact (below_size (bl HB)) : w.heap.size ≤ gb153)); replace HB := ak (below_step (bl HB) hb); clear hb hbox hg))
 go_loopg [3] k (fun kq v3 w' => ∃ (x3_1 : Int), v3 = .int .i64 x3_1 ∧ Aside0 (spec_l1Ok.l0 kq x3_1 a0_0 l0_1 = some r) ∧ Aside0 (kq ≤ k) ∧ Aside0 (w'.heap[gb153]? = some (.cells #[.int .i64 a0_0, (.slice A0_1 l0_1.length c0_1)] 25 (0, 0))) ∧ Aside0 (Below w.heap.size w w'))
 case atStart => exact ⟨(0), (by first | rfl | (simp; done) | (simp [*]; done)), H', ⟨Nat.le_refl _⟩, ⟨bk BK153⟩, ⟨bl1 HB GE153⟩⟩
 clear H'
 try clear p2
 obtain ⟨x3_1, rfl, HA, HK1, BK153, HB⟩ := hrel
 cases gk with
 | zero => exact absurd HA.out (by simp [spec_l1Ok.l0])
 | succ k1 =>
  have H := HA.out
  clear HA
  simp only [spec_l1Ok.l0] at H
  by_cases c3 : x3_1 < (l0_1.length : Int)
  rotate_left
  ·rw [if_neg c3] at H
   have c3b0 : decide (x3_1 < (l0_1.length : Int)) = false := decide_eq_false c3
   clear c3
   replace H := Option.bind_eq_some_iff.mp H
   obtain ⟨t154, A510, H⟩ := H
   have A51 := ak A510
   clear A510
   by_cases c52 : t154 = true
   ·subst c52
    rw [if_pos rfl] at H
    obtain rfl := Option.some.inj H
    have hcz53_0 := bc wr BK153 0 (.int .i64 a0_0) rfl
    have hcz53_1 := bc wr BK153 1 (.slice A0_1 l0_1.length c0_1) rfl
    have hfz53_0 := fz BK153 0
    have hfz53_1 := fz BK153 1
    go_wp2_with (first | ((with_reducible refine gate_callee (f := 54) rfl ?_); refine goesL_ (some 60) rfl rfl Try.func54 (by kernel_rfl) rfl #[.int .i64 a0_0, .int .i64 1, .int .i64 8] rfl (by (try simp only [List.map_toArray, List.map_cons, List.map_nil]); first | done | rfl | (simp only [List.length_drop, List.length_take]; rfl)) ?_; (with_reducible refine (spec_l1In.calls a0_0 1 8 true _ A51.out).mono ?_); rintro e w' ⟨rfl, ⟨nd, rfl⟩⟩; refine ⟨_, rfl, ?_⟩))
    go_ret
    exact ⟨by first | rfl | (simp [errW_none, errW_some] <;> rfl) | (simp [*, errW_none, errW_some] <;> rfl), bl1 HB GE153⟩
   replace c52 := Bool.eq_false_iff.mpr c52
   subst c52
   rw [if_neg (show ¬ (false = true) by decide)] at H
   obtain rfl := Option.some.inj H
   have hcz54_0 := bc wr BK153 0 (.int .i64 a0_0) rfl
   have hcz54_1 := bc wr BK153 1 (.slice A0_1 l0_1.length c0_1) rfl
   have hfz54_0 := fz BK153 0
   have hfz54_1 := fz BK153 1
   go_wp2_with (first | ((with_reducible refine gate_callee (f := 54) rfl ?_); refine goesL_ (some 60) rfl rfl Try.func54 (by kernel_rfl) rfl #[.int .i64 a0_0, .int .i64 1, .int .i64 8] rfl (by (try simp only [List.map_toArray, List.map_cons, List.map_nil]); first | done | rfl | (simp only [List.length_drop, List.length_take]; rfl)) ?_; (with_reducible refine (spec_l1In.calls a0_0 1 8 false _ A51.out).mono ?_); rintro e w' ⟨rfl, ⟨nd, rfl⟩⟩; refine ⟨_, rfl, ?_⟩))
   go_ret
   exact ⟨by first | rfl | (simp [errW_none, errW_some] <;> rfl) | (simp [*, errW_none, errW_some] <;> rfl), bl1 HB GE153⟩
  rw [if_pos c3] at H
  have c3b0 : decide (x3_1 < (l0_1.length : Int)) = true := decide_eq_true c3
  clear c3
  by_cases c4 : 0 ≤ x3_1
  rotate_left
  ·rw [if_neg c4] at H
   exact absurd H (by simp)
  rw [if_pos c4] at H
  have c4b0 : decide (0 ≤ x3_1) = true := decide_eq_true c4
  clear c4
  replace H := Option.bind_eq_some_iff.mp H
  obtain ⟨t157, A50, H⟩ := H
  have A5 := ak A50
  clear A50
  by_cases c6 : t157 = true
  rotate_left
  ·replace c6 := Bool.eq_false_iff.mpr c6
   subst c6
   rw [if_neg (show ¬ (false = true) by decide)] at H
   obtain rfl := Option.some.inj H
   have hcz46_0 := bc wr BK153 0 (.int .i64 a0_0) rfl
   have hcz46_1 := bc wr BK153 1 (.slice A0_1 l0_1.length c0_1) rfl
   have hfz46_0 := fz BK153 0
   have hfz46_1 := fz BK153 1
   have p155 : 0 ≤ (x3_1 : Int) := oT (by first | (with_reducible assumption) | assumption)
   have q155 : x3_1 < (l0_1.length : Int) := oT (by first | (with_reducible assumption) | assumption)
   obtain ⟨ad155, e155, hx155_0, hx155_1, hx155_2, hx155_3, hx155_4⟩ := at_T58 HR0_1.out x3_1 p155 q155
   cases e155
   replace hx155_0 := hcb HB.out hx155_0
   replace hx155_1 := hcb HB.out hx155_1
   replace hx155_2 := hcb HB.out hx155_2
   replace hx155_3 := hcb HB.out hx155_3
   replace hx155_4 := hcb HB.out hx155_4
   replace p155 := eq_true p155
   replace q155 := eq_true q155
   go_wp2_with (first | ((with_reducible refine gate_dst (N := 4) rfl ?_); refine box_event ?hg (N := 4) ?hd (cs := #[.int .i64 0, .int .i64 0, .int .i64 0, .int .i64 0, .int .i64 0]) (t := 58) ?hr ?_; (case hd => rfl); (case hg => rfl); (case hr => first | (go_simp; done) | (go_simp; rfl)); intro gb156 hg w47 hbox hb; have BK156 := ak (hbox); have GW156 := ak ((by rw [hg]; exact (below_size (bl1 HB GE153)) : w.heap.size ≤ gb156)); have GE156 := ak ((by rw [hg]; exact (below_size (bl1 HB GE153)) : w.heap.size ≤ gb156)); replace HB := ak (below_step (bl1 HB GE153) hb); have NB153_156 := ak ((by rw [hg]; exact Nat.ne_of_lt (blk_lt (bk BK153)) : gb153 ≠ gb156)); have NB156_153 := ak ((by rw [hg]; exact Nat.ne_of_gt (blk_lt (bk BK153)) : gb156 ≠ gb153)); replace BK153 := ak (blk_below (bk BK153) hb); clear hb hbox hg; have hnb48 := NB156_153.out; have hnc48 := NB153_156.out; have hcz49_0 := bc w47 BK156 0 (.int .i64 0) rfl; have hcz49_1 := bc w47 BK156 1 (.int .i64 0) rfl; have hcz49_2 := bc w47 BK156 2 (.int .i64 0) rfl; have hcz49_3 := bc w47 BK156 3 (.int .i64 0) rfl; have hcz49_4 := bc w47 BK156 4 (.int .i64 0) rfl; have hfz49_0 := fz BK156 0; have hfz49_1 := fz BK156 1; have hfz49_2 := fz BK156 2; have hfz49_3 := fz BK156 3; have hfz49_4 := fz BK156 4; have hcz50_0 := bc w47 BK153 0 (.int .i64 a0_0) rfl; have hcz50_1 := bc w47 BK153 1 (.slice (some ad155) l0_1.length c0_1) rfl; have hfz50_0 := fz BK153 0; have hfz50_1 := fz BK153 1) | ((with_reducible refine gate_callee (f := 54) rfl ?_); refine goesL_ (some 22) rfl rfl Try.func54 (by kernel_rfl) rfl #[.int .i64 ((rd_T58 l0_1 x3_1).f0), .int .i64 0, .int .i64 (wrap64 (a0_0 - 1))] rfl (by (try simp only [List.map_toArray, List.map_cons, List.map_nil]); first | done | rfl | (simp only [List.length_drop, List.length_take]; rfl)) ?_; (with_reducible refine (spec_l1In.calls ((rd_T58 l0_1 x3_1).f0) 0 (wrap64 (a0_0 - 1)) false _ A5.out).mono ?_); rintro e w' ⟨rfl, ⟨nd, rfl⟩⟩; refine ⟨_, rfl, ?_⟩))
   go_ret
   exact ⟨by first | rfl | (simp [errW_none, errW_some] <;> rfl) | (simp [*, errW_none, errW_some] <;> rfl), bl2 HB GE153 GE156⟩
  subst c6
  rw [if_pos rfl] at H
  replace H := Option.bind_eq_some_iff.mp H
  obtain ⟨t158, A70, H⟩ := H
  have A7 := ak A70
  clear A70
  by_cases c8 : t158 = true
  rotate_left
  ·replace c8 := Bool.eq_false_iff.mpr c8
   subst c8
   rw [if_neg (show ¬ (false = true) by decide)] at H
   obtain rfl := Option.some.inj H
   have hcz41_0 := bc wr BK153 0 (.int .i64 a0_0) rfl
   have hcz41_1 := bc wr BK153 1 (.slice A0_1 l0_1.length c0_1) rfl
   have hfz41_0 := fz BK153 0
   have hfz41_1 := fz BK153 1
   have p155 : 0 ≤ (x3_1 : Int) := oT (by first | (with_reducible assumption) | assumption)
   have q155 : x3_1 < (l0_1.length : Int) := oT (by first | (with_reducible assumption) | assumption)
   obtain ⟨ad155, e155, hx155_0, hx155_1, hx155_2, hx155_3, hx155_4⟩ := at_T58 HR0_1.out x3_1 p155 q155
   cases e155
   replace hx155_0 := hcb HB.out hx155_0
   replace hx155_1 := hcb HB.out hx155_1
   replace hx155_2 := hcb HB.out hx155_2
   replace hx155_3 := hcb HB.out hx155_3
   replace hx155_4 := hcb HB.out hx155_4
   replace p155 := eq_true p155
   replace q155 := eq_true q155
   go_wp2_with (first | ((with_reducible refine gate_dst (N := 4) rfl ?_); refine box_event ?hg (N := 4) ?hd (cs := #[.int .i64 0, .int .i64 0, .int .i64 0, .int .i64 0, .int .i64 0]) (t := 58) ?hr ?_; (case hd => rfl); (case hg => rfl); (case hr => first | (go_simp; done) | (go_simp; rfl)); intro gb156 hg w42 hbox hb; have BK156 := ak (hbox); have GW156 := ak ((by rw [hg]; exact (below_size (bl1 HB GE153)) : w.heap.size ≤ gb156)); have GE156 := ak ((by rw [hg]; exact (below_size (bl1 HB GE153)) : w.heap.size ≤ gb156)); replace HB := ak (below_step (bl1 HB GE153) hb); have NB153_156 := ak ((by rw [hg]; exact Nat.ne_of_lt (blk_lt (bk BK153)) : gb153 ≠ gb156)); have NB156_153 := ak ((by rw [hg]; exact Nat.ne_of_gt (blk_lt (bk BK153)) : gb156 ≠ gb153)); replace BK153 := ak (blk_below (bk BK153) hb); clear hb hbox hg; have hnb43 := NB156_153.out; have hnc43 := NB153_156.out; have hcz44_0 := bc w42 BK156 0 (.int .i64 0) rfl; have hcz44_1 := bc w42 BK156 1 (.int .i64 0) rfl; have hcz44_2 := bc w42 BK156 2 (.int .i64 0) rfl; have hcz44_3 := bc w42 BK156 3 (.int .i64 0) rfl; have hcz44_4 := bc w42 BK156 4 (.int .i64 0) rfl; have hfz44_0 := fz BK156 0; have hfz44_1 := fz BK156 1; have hfz44_2 := fz BK156 2; have hfz44_3 := fz BK156 3; have hfz44_4 := fz BK156 4; have hcz45_0 := bc w42 BK153 0 (.int .i64 a0_0) rfl; have hcz45_1 := bc w42 BK153 1 (.slice (some ad155) l0_1.length c0_1) rfl; have hfz45_0 := fz BK153 0; have hfz45_1 := fz BK153 1) | ((with_reducible refine gate_callee (f := 54) rfl ?_); refine goesL_ (some 22) rfl rfl Try.func54 (by kernel_rfl) rfl #[.int .i64 ((rd_T58 l0_1 x3_1).f0), .int .i64 0, .int .i64 (wrap64 (a0_0 - 1))] rfl (by (try simp only [List.map_toArray, List.map_cons, List.map_nil]); first | done | rfl | (simp only [List.length_drop, List.length_take]; rfl)) ?_; (with_reducible refine (spec_l1In.calls ((rd_T58 l0_1 x3_1).f0) 0 (wrap64 (a0_0 - 1)) true _ A5.out).mono ?_); rintro e w' ⟨rfl, ⟨nd, rfl⟩⟩; refine ⟨_, rfl, ?_⟩) | (go_at_call 54; (with_reducible refine (spec_l1In.calls ((rd_T58 l0_1 x3_1).f1) 0 (wrap64 (a0_0 - 1)) false _ A7.out).mono ?_); rintro e w' ⟨rfl, ⟨nd, rfl⟩⟩))
   go_ret
   exact ⟨by first | rfl | (simp [errW_none, errW_some] <;> rfl) | (simp [*, errW_none, errW_some] <;> rfl), bl2 HB GE153 GE156⟩
  subst c8
  rw [if_pos rfl] at H
  by_cases c9 : ((rd_T58 l0_1 x3_1).f0) = ((rd_T58 l0_1 x3_1).f1)
  ·rw [if_pos c9] at H
   have c9b0 : (((rd_T58 l0_1 x3_1).f0) == ((rd_T58 l0_1 x3_1).f1)) = true := beq_iff_eq.mpr c9
   have c9b1 : (((rd_T58 l0_1 x3_1).f0) != ((rd_T58 l0_1 x3_1).f1)) = false := bne_eq_false_iff_eq.mpr c9
   clear c9
   obtain rfl := Option.some.inj H
   have hcz10_0 := bc wr BK153 0 (.int .i64 a0_0) rfl
   have hcz10_1 := bc wr BK153 1 (.slice A0_1 l0_1.length c0_1) rfl
   have hfz10_0 := fz BK153 0
   have hfz10_1 := fz BK153 1
   have p155 : 0 ≤ (x3_1 : Int) := oT (by first | (with_reducible assumption) | assumption)
   have q155 : x3_1 < (l0_1.length : Int) := oT (by first | (with_reducible assumption) | assumption)
   obtain ⟨ad155, e155, hx155_0, hx155_1, hx155_2, hx155_3, hx155_4⟩ := at_T58 HR0_1.out x3_1 p155 q155
   cases e155
   replace hx155_0 := hcb HB.out hx155_0
   replace hx155_1 := hcb HB.out hx155_1
   replace hx155_2 := hcb HB.out hx155_2
   replace hx155_3 := hcb HB.out hx155_3
   replace hx155_4 := hcb HB.out hx155_4
   replace p155 := eq_true p155
   replace q155 := eq_true q155
   go_wp2_with (first | ((with_reducible refine gate_dst (N := 4) rfl ?_); refine box_event ?hg (N := 4) ?hd (cs := #[.int .i64 0, .int .i64 0, .int .i64 0, .int .i64 0, .int .i64 0]) (t := 58) ?hr ?_; (case hd => rfl); (case hg => rfl); (case hr => first | (go_simp; done) | (go_simp; rfl)); intro gb156 hg w11 hbox hb; have BK156 := ak (hbox); have GW156 := ak ((by rw [hg]; exact (below_size (bl1 HB GE153)) : w.heap.size ≤ gb156)); have GE156 := ak ((by rw [hg]; exact (below_size (bl1 HB GE153)) : w.heap.size ≤ gb156)); replace HB := ak (below_step (bl1 HB GE153) hb); have NB153_156 := ak ((by rw [hg]; exact Nat.ne_of_lt (blk_lt (bk BK153)) : gb153 ≠ gb156)); have NB156_153 := ak ((by rw [hg]; exact Nat.ne_of_gt (blk_lt (bk BK153)) : gb156 ≠ gb153)); replace BK153 := ak (blk_below (bk BK153) hb); clear hb hbox hg; have hnb12 := NB156_153.out; have hnc12 := NB153_156.out; have hcz13_0 := bc w11 BK156 0 (.int .i64 0) rfl; have hcz13_1 := bc w11 BK156 1 (.int .i64 0) rfl; have hcz13_2 := bc w11 BK156 2 (.int .i64 0) rfl; have hcz13_3 := bc w11 BK156 3 (.int .i64 0) rfl; have hcz13_4 := bc w11 BK156 4 (.int .i64 0) rfl; have hfz13_0 := fz BK156 0; have hfz13_1 := fz BK156 1; have hfz13_2 := fz BK156 2; have hfz13_3 := fz BK156 3; have hfz13_4 := fz BK156 4; have hcz14_0 := bc w11 BK153 0 (.int .i64 a0_0) rfl; have hcz14_1 := bc w11 BK153 1 (.slice (some ad155) l0_1.length c0_1) rfl; have hfz14_0 := fz BK153 0; have hfz14_1 := fz BK153 1) | ((with_reducible refine gate_callee (f := 54) rfl ?_); refine goesL_ (some 22) rfl rfl Try.func54 (by kernel_rfl) rfl #[.int .i64 ((rd_T58 l0_1 x3_1).f0), .int .i64 0, .int .i64 (wrap64 (a0_0 - 1))] rfl (by (try simp only [List.map_toArray, List.map_cons, List.map_nil]); first | done | rfl | (simp only [List.length_drop, List.length_take]; rfl)) ?_; (with_reducible refine (spec_l1In.calls ((rd_T58 l0_1 x3_1).f0) 0 (wrap64 (a0_0 - 1)) true _ A5.out).mono ?_); rintro e w' ⟨rfl, ⟨nd, rfl⟩⟩; refine ⟨_, rfl, ?_⟩) | (go_at_call 54; (with_reducible refine (spec_l1In.calls ((rd_T58 l0_1 x3_1).f1) 0 (wrap64 (a0_0 - 1)) true _ A7.out).mono ?_); rintro e w' ⟨rfl, ⟨nd, rfl⟩⟩))
   go_ret
   exact ⟨by first | rfl | (simp [errW_none, errW_some] <;> rfl) | (simp [*, errW_none, errW_some] <;> rfl), bl2 HB GE153 GE156⟩
  rw [if_neg c9] at H
  have c9b0 : (((rd_T58 l0_1 x3_1).f0) == ((rd_T58 l0_1 x3_1).f1)) = false := beq_eq_false_iff_ne.mpr c9
  have c9b1 : (((rd_T58 l0_1 x3_1).f0) != ((rd_T58 l0_1 x3_1).f1)) = true := bne_iff_ne.mpr c9
  replace H := Option.bind_eq_some_iff.mp H
  obtain ⟨t159, A150, H⟩ := H
  have A15 := ak A150
  clear A150
  by_cases c16 : t159 = true
  rotate_left
  ·replace c16 := Bool.eq_false_iff.mpr c16
   subst c16
   rw [if_neg (show ¬ (false = true) by decide)] at H
   obtain rfl := Option.some.inj H
   have hcz36_0 := bc wr BK153 0 (.int .i64 a0_0) rfl
   have hcz36_1 := bc wr BK153 1 (.slice A0_1 l0_1.length c0_1) rfl
   have hfz36_0 := fz BK153 0
   have hfz36_1 := fz BK153 1
   have p155 : 0 ≤ (x3_1 : Int) := oT (by first | (with_reducible assumption) | assumption)
   have q155 : x3_1 < (l0_1.length : Int) := oT (by first | (with_reducible assumption) | assumption)
   obtain ⟨ad155, e155, hx155_0, hx155_1, hx155_2, hx155_3, hx155_4⟩ := at_T58 HR0_1.out x3_1 p155 q155
   cases e155
   replace hx155_0 := hcb HB.out hx155_0
   replace hx155_1 := hcb HB.out hx155_1
   replace hx155_2 := hcb HB.out hx155_2
   replace hx155_3 := hcb HB.out hx155_3
   replace hx155_4 := hcb HB.out hx155_4
   replace p155 := eq_true p155
   replace q155 := eq_true q155
   go_wp2_with (first | ((with_reducible refine gate_dst (N := 4) rfl ?_); refine box_event ?hg (N := 4) ?hd (cs := #[.int .i64 0, .int .i64 0, .int .i64 0, .int .i64 0, .int .i64 0]) (t := 58) ?hr ?_; (case hd => rfl); (case hg => rfl); (case hr => first | (go_simp; done) | (go_simp; rfl)); intro gb156 hg w37 hbox hb; have BK156 := ak (hbox); have GW156 := ak ((by rw [hg]; exact (below_size (bl1 HB GE153)) : w.heap.size ≤ gb156)); have GE156 := ak ((by rw [hg]; exact (below_size (bl1 HB GE153)) : w.heap.size ≤ gb156)); replace HB := ak (below_step (bl1 HB GE153) hb); have NB153_156 := ak ((by rw [hg]; exact Nat.ne_of_lt (blk_lt (bk BK153)) : gb153 ≠ gb156)); have NB156_153 := ak ((by rw [hg]; exact Nat.ne_of_gt (blk_lt (bk BK153)) : gb156 ≠ gb153)); replace BK153 := ak (blk_below (bk BK153) hb); clear hb hbox hg; have hnb38 := NB156_153.out; have hnc38 := NB153_156.out; have hcz39_0 := bc w37 BK156 0 (.int .i64 0) rfl; have hcz39_1 := bc w37 BK156 1 (.int .i64 0) rfl; have hcz39_2 := bc w37 BK156 2 (.int .i64 0) rfl; have hcz39_3 := bc w37 BK156 3 (.int .i64 0) rfl; have hcz39_4 := bc w37 BK156 4 (.int .i64 0) rfl; have hfz39_0 := fz BK156 0; have hfz39_1 := fz BK156 1; have hfz39_2 := fz BK156 2; have hfz39_3 := fz BK156 3; have hfz39_4 := fz BK156 4; have hcz40_0 := bc w37 BK153 0 (.int .i64 a0_0) rfl; have hcz40_1 := bc w37 BK153 1 (.slice (some ad155) l0_1.length c0_1) rfl; have hfz40_0 := fz BK153 0; have hfz40_1 := fz BK153 1) | ((with_reducible refine gate_callee (f := 54) rfl ?_); refine goesL_ (some 22) rfl rfl Try.func54 (by kernel_rfl) rfl #[.int .i64 ((rd_T58 l0_1 x3_1).f0), .int .i64 0, .int .i64 (wrap64 (a0_0 - 1))] rfl (by (try simp only [List.map_toArray, List.map_cons, List.map_nil]); first | done | rfl | (simp only [List.length_drop, List.length_take]; rfl)) ?_; (with_reducible refine (spec_l1In.calls ((rd_T58 l0_1 x3_1).f0) 0 (wrap64 (a0_0 - 1)) true _ A5.out).mono ?_); rintro e w' ⟨rfl, ⟨nd, rfl⟩⟩; refine ⟨_, rfl, ?_⟩) | (go_at_call 54; (with_reducible refine (spec_l1In.calls ((rd_T58 l0_1 x3_1).f1) 0 (wrap64 (a0_0 - 1)) true _ A7.out).mono ?_); rintro e w' ⟨rfl, ⟨nd, rfl⟩⟩) | (go_at_call 54; (with_reducible refine (spec_l1In.calls ((rd_T58 l0_1 x3_1).f2) 0 99 false _ A15.out).mono ?_); rintro e w' ⟨rfl, ⟨nd, rfl⟩⟩))
   go_ret
   exact ⟨by first | rfl | (simp [errW_none, errW_some] <;> rfl) | (simp [*, errW_none, errW_some] <;> rfl), bl2 HB GE153 GE156⟩
  subst c16
  rw [if_pos rfl] at H
  replace H := Option.bind_eq_some_iff.mp H
  obtain ⟨t160, A170, H⟩ := H
  have A17 := ak A170
  clear A170
  by_cases c18 : t160 = true
  rotate_left
  ·replace c18 := Bool.eq_false_iff.mpr c18
   subst c18
   rw [if_neg (show ¬ (false = true) by decide)] at H
   obtain rfl := Option.some.inj H
   have hcz31_0 := bc wr BK153 0 (.int .i64 a0_0) rfl
   have hcz31_1 := bc wr BK153 1 (.slice A0_1 l0_1.length c0_1) rfl
   have hfz31_0 := fz BK153 0
   have hfz31_1 := fz BK153 1
   have p155 : 0 ≤ (x3_1 : Int) := oT (by first | (with_reducible assumption) | assumption)
   have q155 : x3_1 < (l0_1.length : Int) := oT (by first | (with_reducible assumption) | assumption)
   obtain ⟨ad155, e155, hx155_0, hx155_1, hx155_2, hx155_3, hx155_4⟩ := at_T58 HR0_1.out x3_1 p155 q155
   cases e155
   replace hx155_0 := hcb HB.out hx155_0
   replace hx155_1 := hcb HB.out hx155_1
   replace hx155_2 := hcb HB.out hx155_2
   replace hx155_3 := hcb HB.out hx155_3
   replace hx155_4 := hcb HB.out hx155_4
   replace p155 := eq_true p155
   replace q155 := eq_true q155
   go_wp2_with (first | ((with_reducible refine gate_dst (N := 4) rfl ?_); refine box_event ?hg (N := 4) ?hd (cs := #[.int .i64 0, .int .i64 0, .int .i64 0, .int .i64 0, .int .i64 0]) (t := 58) ?hr ?_; (case hd => rfl); (case hg => rfl); (case hr => first | (go_simp; done) | (go_simp; rfl)); intro gb156 hg w32 hbox hb; have BK156 := ak (hbox); have GW156 := ak ((by rw [hg]; exact (below_size (bl1 HB GE153)) : w.heap.size ≤ gb156)); have GE156 := ak ((by rw [hg]; exact (below_size (bl1 HB GE153)) : w.heap.size ≤ gb156)); replace HB := ak (below_step (bl1 HB GE153) hb); have NB153_156 := ak ((by rw [hg]; exact Nat.ne_of_lt (blk_lt (bk BK153)) : gb153 ≠ gb156)); have NB156_153 := ak ((by rw [hg]; exact Nat.ne_of_gt (blk_lt (bk BK153)) : gb156 ≠ gb153)); replace BK153 := ak (blk_below (bk BK153) hb); clear hb hbox hg; have hnb33 := NB156_153.out; have hnc33 := NB153_156.out; have hcz34_0 := bc w32 BK156 0 (.int .i64 0) rfl; have hcz34_1 := bc w32 BK156 1 (.int .i64 0) rfl; have hcz34_2 := bc w32 BK156 2 (.int .i64 0) rfl; have hcz34_3 := bc w32 BK156 3 (.int .i64 0) rfl; have hcz34_4 := bc w32 BK156 4 (.int .i64 0) rfl; have hfz34_0 := fz BK156 0; have hfz34_1 := fz BK156 1; have hfz34_2 := fz BK156 2; have hfz34_3 := fz BK156 3; have hfz34_4 := fz BK156 4; have hcz35_0 := bc w32 BK153 0 (.int .i64 a0_0) rfl; have hcz35_1 := bc w32 BK153 1 (.slice (some ad155) l0_1.length c0_1) rfl; have hfz35_0 := fz BK153 0; have hfz35_1 := fz BK153 1) | ((with_reducible refine gate_callee (f := 54) rfl ?_); refine goesL_ (some 22) rfl rfl Try.func54 (by kernel_rfl) rfl #[.int .i64 ((rd_T58 l0_1 x3_1).f0), .int .i64 0, .int .i64 (wrap64 (a0_0 - 1))] rfl (by (try simp only [List.map_toArray, List.map_cons, List.map_nil]); first | done | rfl | (simp only [List.length_drop, List.length_take]; rfl)) ?_; (with_reducible refine (spec_l1In.calls ((rd_T58 l0_1 x3_1).f0) 0 (wrap64 (a0_0 - 1)) true _ A5.out).mono ?_); rintro e w' ⟨rfl, ⟨nd, rfl⟩⟩; refine ⟨_, rfl, ?_⟩) | (go_at_call 54; (with_reducible refine (spec_l1In.calls ((rd_T58 l0_1 x3_1).f1) 0 (wrap64 (a0_0 - 1)) true _ A7.out).mono ?_); rintro e w' ⟨rfl, ⟨nd, rfl⟩⟩) | (go_at_call 54; (with_reducible refine (spec_l1In.calls ((rd_T58 l0_1 x3_1).f2) 0 99 true _ A15.out).mono ?_); rintro e w' ⟨rfl, ⟨nd, rfl⟩⟩) | (go_at_call 54; (with_reducible refine (spec_l1In.calls ((rd_T58 l0_1 x3_1).f3) 0 99 false _ A17.out).mono ?_); rintro e w' ⟨rfl, ⟨nd, rfl⟩⟩))
   go_ret
   exact ⟨by first | rfl | (simp [errW_none, errW_some] <;> rfl) | (simp [*, errW_none, errW_some] <;> rfl), bl2 HB GE153 GE156⟩
  subst c18
  rw [if_pos rfl] at H
  replace H := Option.bind_eq_some_iff.mp H
  obtain ⟨t161, A190, H⟩ := H
  have A19 := ak A190
  clear A190
  by_cases c20 : t161 = true
  rotate_left
  ·replace c20 := Bool.eq_false_iff.mpr c20
   subst c20
   rw [if_neg (show ¬ (false = true) by decide)] at H
   obtain rfl := Option.some.inj H
   have hcz26_0 := bc wr BK153 0 (.int .i64 a0_0) rfl
   have hcz26_1 := bc wr BK153 1 (.slice A0_1 l0_1.length c0_1) rfl
   have hfz26_0 := fz BK153 0
   have hfz26_1 := fz BK153 1
   have p155 : 0 ≤ (x3_1 : Int) := oT (by first | (with_reducible assumption) | assumption)
   have q155 : x3_1 < (l0_1.length : Int) := oT (by first | (with_reducible assumption) | assumption)
   obtain ⟨ad155, e155, hx155_0, hx155_1, hx155_2, hx155_3, hx155_4⟩ := at_T58 HR0_1.out x3_1 p155 q155
   cases e155
   replace hx155_0 := hcb HB.out hx155_0
   replace hx155_1 := hcb HB.out hx155_1
   replace hx155_2 := hcb HB.out hx155_2
   replace hx155_3 := hcb HB.out hx155_3
   replace hx155_4 := hcb HB.out hx155_4
   replace p155 := eq_true p155
   replace q155 := eq_true q155
   go_wp2_with (first | ((with_reducible refine gate_dst (N := 4) rfl ?_); refine box_event ?hg (N := 4) ?hd (cs := #[.int .i64 0, .int .i64 0, .int .i64 0, .int .i64 0, .int .i64 0]) (t := 58) ?hr ?_; (case hd => rfl); (case hg => rfl); (case hr => first | (go_simp; done) | (go_simp; rfl)); intro gb156 hg w27 hbox hb; have BK156 := ak (hbox); have GW156 := ak ((by rw [hg]; exact (below_size (bl1 HB GE153)) : w.heap.size ≤ gb156)); have GE156 := ak ((by rw [hg]; exact (below_size (bl1 HB GE153)) : w.heap.size ≤ gb156)); replace HB := ak (below_step (bl1 HB GE153) hb); have NB153_156 := ak ((by rw [hg]; exact Nat.ne_of_lt (blk_lt (bk BK153)) : gb153 ≠ gb156)); have NB156_153 := ak ((by rw [hg]; exact Nat.ne_of_gt (blk_lt (bk BK153)) : gb156 ≠ gb153)); replace BK153 := ak (blk_below (bk BK153) hb); clear hb hbox hg; have hnb28 := NB156_153.out; have hnc28 := NB153_156.out; have hcz29_0 := bc w27 BK156 0 (.int .i64 0) rfl; have hcz29_1 := bc w27 BK156 1 (.int .i64 0) rfl; have hcz29_2 := bc w27 BK156 2 (.int .i64 0) rfl; have hcz29_3 := bc w27 BK156 3 (.int .i64 0) rfl; have hcz29_4 := bc w27 BK156 4 (.int .i64 0) rfl; have hfz29_0 := fz BK156 0; have hfz29_1 := fz BK156 1; have hfz29_2 := fz BK156 2; have hfz29_3 := fz BK156 3; have hfz29_4 := fz BK156 4; have hcz30_0 := bc w27 BK153 0 (.int .i64 a0_0) rfl; have hcz30_1 := bc w27 BK153 1 (.slice (some ad155) l0_1.length c0_1) rfl; have hfz30_0 := fz BK153 0; have hfz30_1 := fz BK153 1) | ((with_reducible refine gate_callee (f := 54) rfl ?_); refine goesL_ (some 22) rfl rfl Try.func54 (by kernel_rfl) rfl #[.int .i64 ((rd_T58 l0_1 x3_1).f0), .int .i64 0, .int .i64 (wrap64 (a0_0 - 1))] rfl (by (try simp only [List.map_toArray, List.map_cons, List.map_nil]); first | done | rfl | (simp only [List.length_drop, List.length_take]; rfl)) ?_; (with_reducible refine (spec_l1In.calls ((rd_T58 l0_1 x3_1).f0) 0 (wrap64 (a0_0 - 1)) true _ A5.out).mono ?_); rintro e w' ⟨rfl, ⟨nd, rfl⟩⟩; refine ⟨_, rfl, ?_⟩) | (go_at_call 54; (with_reducible refine (spec_l1In.calls ((rd_T58 l0_1 x3_1).f1) 0 (wrap64 (a0_0 - 1)) true _ A7.out).mono ?_); rintro e w' ⟨rfl, ⟨nd, rfl⟩⟩) | (go_at_call 54; (with_reducible refine (spec_l1In.calls ((rd_T58 l0_1 x3_1).f2) 0 99 true _ A15.out).mono ?_); rintro e w' ⟨rfl, ⟨nd, rfl⟩⟩) | (go_at_call 54; (with_reducible refine (spec_l1In.calls ((rd_T58 l0_1 x3_1).f3) 0 99 true _ A17.out).mono ?_); rintro e w' ⟨rfl, ⟨nd, rfl⟩⟩) | (go_at_call 54; (with_reducible refine (spec_l1In.calls ((rd_T58 l0_1 x3_1).f4) 0 9 false _ A19.out).mono ?_); rintro e w' ⟨rfl, ⟨nd, rfl⟩⟩))
   go_ret
   exact ⟨by first | rfl | (simp [errW_none, errW_some] <;> rfl) | (simp [*, errW_none, errW_some] <;> rfl), bl2 HB GE153 GE156⟩
  subst c20
  rw [if_pos rfl] at H
  have H' := ak H
  clear H
  have hcz21_0 := bc wr BK153 0 (.int .i64 a0_0) rfl
  have hcz21_1 := bc wr BK153 1 (.slice A0_1 l0_1.length c0_1) rfl
  have hfz21_0 := fz BK153 0
  have hfz21_1 := fz BK153 1
  have p155 : 0 ≤ (x3_1 : Int) := oT (by first | (with_reducible assumption) | assumption)
  have q155 : x3_1 < (l0_1.length : Int) := oT (by first | (with_reducible assumption) | assumption)
  obtain ⟨ad155, e155, hx155_0, hx155_1, hx155_2, hx155_3, hx155_4⟩ := at_T58 HR0_1.out x3_1 p155 q155
  cases e155
  replace hx155_0 := hcb HB.out hx155_0
  replace hx155_1 := hcb HB.out hx155_1
  replace hx155_2 := hcb HB.out hx155_2
  replace hx155_3 := hcb HB.out hx155_3
  replace hx155_4 := hcb HB.out hx155_4
  replace p155 := eq_true p155
  replace q155 := eq_true q155
  go_wp2_with (first | ((with_reducible refine gate_dst (N := 4) rfl ?_); refine box_event ?hg (N := 4) ?hd (cs := #[.int .i64 0, .int .i64 0, .int .i64 0, .int .i64 0, .int .i64 0]) (t := 58) ?hr ?_; (case hd => rfl); (case hg => rfl); (case hr => first | (go_simp; done) | (go_simp; rfl)); intro gb156 hg w22 hbox hb; have BK156 := ak (hbox); have GW156 := ak ((by rw [hg]; exact (below_size (bl1 HB GE153)) : w.heap.size ≤ gb156)); have GE156 := ak ((by rw [hg]; exact (below_size (bl1 HB GE153)) : w.heap.size ≤ gb156)); replace HB := ak (below_step (bl1 HB GE153) hb); have NB153_156 := ak ((by rw [hg]; exact Nat.ne_of_lt (blk_lt (bk BK153)) : gb153 ≠ gb156)); have NB156_153 := ak ((by rw [hg]; exact Nat.ne_of_gt (blk_lt (bk BK153)) : gb156 ≠ gb153)); replace BK153 := ak (blk_below (bk BK153) hb); clear hb hbox hg; have hnb23 := NB156_153.out; have hnc23 := NB153_156.out; have hcz24_0 := bc w22 BK156 0 (.int .i64 0) rfl; have hcz24_1 := bc w22 BK156 1 (.int .i64 0) rfl; have hcz24_2 := bc w22 BK156 2 (.int .i64 0) rfl; have hcz24_3 := bc w22 BK156 3 (.int .i64 0) rfl; have hcz24_4 := bc w22 BK156 4 (.int .i64 0) rfl; have hfz24_0 := fz BK156 0; have hfz24_1 := fz BK156 1; have hfz24_2 := fz BK156 2; have hfz24_3 := fz BK156 3; have hfz24_4 := fz BK156 4; have hcz25_0 := bc w22 BK153 0 (.int .i64 a0_0) rfl; have hcz25_1 := bc w22 BK153 1 (.slice (some ad155) l0_1.length c0_1) rfl; have hfz25_0 := fz BK153 0; have hfz25_1 := fz BK153 1) | ((with_reducible refine gate_callee (f := 54) rfl ?_); refine goesL_ (some 22) rfl rfl Try.func54 (by kernel_rfl) rfl #[.int .i64 ((rd_T58 l0_1 x3_1).f0), .int .i64 0, .int .i64 (wrap64 (a0_0 - 1))] rfl (by (try simp only [List.map_toArray, List.map_cons, List.map_nil]); first | done | rfl | (simp only [List.length_drop, List.length_take]; rfl)) ?_; (with_reducible refine (spec_l1In.calls ((rd_T58 l0_1 x3_1).f0) 0 (wrap64 (a0_0 - 1)) true _ A5.out).mono ?_); rintro e w' ⟨rfl, ⟨nd, rfl⟩⟩; refine ⟨_, rfl, ?_⟩) | (go_at_call 54; (with_reducible refine (spec_l1In.calls ((rd_T58 l0_1 x3_1).f1) 0 (wrap64 (a0_0 - 1)) true _ A7.out).mono ?_); rintro e w' ⟨rfl, ⟨nd, rfl⟩⟩) | (go_at_call 54; (with_reducible refine (spec_l1In.calls ((rd_T58 l0_1 x3_1).f2) 0 99 true _ A15.out).mono ?_); rintro e w' ⟨rfl, ⟨nd, rfl⟩⟩) | (go_at_call 54; (with_reducible refine (spec_l1In.calls ((rd_T58 l0_1 x3_1).f3) 0 99 true _ A17.out).mono ?_); rintro e w' ⟨rfl, ⟨nd, rfl⟩⟩) | (go_at_call 54; (with_reducible refine (spec_l1In.calls ((rd_T58 l0_1 x3_1).f4) 0 9 true _ A19.out).mono ?_); rintro e w' ⟨rfl, ⟨nd, rfl⟩⟩))
  go_roundg k1
  case measure => have := HK1.out; omega
  case rel => exact ⟨(wrap64 (x3_1 + 1)), (by first | rfl | (simp; done) | (simp [*]; done)), H', ⟨by have := HK1.out; omega⟩, ⟨by (with_reducible repeat (first | refine blk_drewN ?_ _ | refine blk_drew ?_ | refine blk_alloc ?_ _)); refine blk_far ?_ NB153_156.out _; refine blk_far ?_ NB153_156.out _; refine blk_far ?_ NB153_156.out _; refine blk_far ?_ NB153_156.out _; refine blk_far ?_ NB153_156.out _; (with_reducible repeat (first | refine blk_drewN ?_ _ | refine blk_drew ?_ | refine blk_alloc ?_ _)); exact BK153.out⟩, ⟨bl2 HB GE153 GE156⟩⟩

end Go.Proofs.Ytlgolgfcolnddaa.F
