-- Printed by wip/px/px.py of this claim's repository (the kit's printer, extended there). Lean checks it.
import Derived.Test.YtbcedkcjodokkaaFKinds
import Derived.Test.YtbcedkcjodokkaaFimplwithin
namespace Go.Proofs.Ytbcedkcjodokkaa.F
open Go.RowKit Go.Proofs.YtbcedkcjodokkaaW.PrintWords Go.Proofs.YtbcedkcjodokkaaW.PrintLast Go.Proofs.YtbcedkcjodokkaaW.PrintMore
attribute [local go_sem] max2_int min2_int max_two min_two max_three min_three max_four min_four   -- for this text's walks alone
set_option linter.unusedVariables false
set_option linter.unusedSimpArgs false

/-! ### impl_newsOk: function 25 -/
def impl_newsOk.f (a0_0 : Int) (a0_1 : Int) (a0_2 : Int) (a1 : Int) : Option (Bool) := (impl_within.f a0_0 1 999).bind fun t314 => (if t314 = true then ((impl_within.f a0_1 0 (wrap64 (a1 - 1))).bind fun t315 => (if t315 = true then ((impl_within.f a0_2 (-1) 99).bind fun t316 => (some t316)) else (some false))) else (some false))
set_option maxHeartbeats 8000000 in
set_option maxRecDepth 100000 in
theorem impl_newsOk.calls (a0_0 : Int) (a0_1 : Int) (a0_2 : Int) (a1 : Int) (r : Bool) (w : World) (h : impl_newsOk.f a0_0 a0_1 a0_2 a1 = some r) :
  Calls Try.prog 25 #[.agg #[.int .i64 a0_0, .int .i64 a0_1, .int .i64 a0_2], .int .i64 a1] w fun e w' => e = .returned (.bool r) ∧ Below w.heap.size w w' := by
 have hu30 := Try.underlying30
 have HB := ak (Below.refl w.heap.size w)
 have H : ((impl_within.f a0_0 1 999).bind fun t314 => (if t314 = true then ((impl_within.f a0_1 0 (wrap64 (a1 - 1))).bind fun t315 => (if t315 = true then ((impl_within.f a0_2 (-1) 99).bind fun t316 => (some t316)) else (some false))) else (some false))) = some r := h
 clear h
 replace H := Option.bind_eq_some_iff.mp H
 obtain ⟨t314, A30, H⟩ := H
 have A3 := ak A30
 clear A30
 by_cases c4 : t314 = true
 rotate_left
 ·replace c4 := Bool.eq_false_iff.mpr c4
  subst c4
  rw [if_neg (show ¬ (false = true) by decide)] at H
  obtain rfl := Option.some.inj H
  go_enter Try.func25, Try.ntmps25
  go_wp2_with (first | ((with_reducible refine gate_dst (N := 2) rfl ?_); refine box_event ?hg (N := 2) ?hd (cs := #[.int .i64 a0_0, .int .i64 a0_1, .int .i64 a0_2]) (t := 30) ?hr ?_; (case hd => rfl); (case hg => rfl); (case hr => (go_simp; done)); intro gb313 hg w12 hbox hb; have BK313 := ak (hbox); have GW313 := ak ((by rw [hg]; exact (below_size (bl HB)) : w.heap.size ≤ gb313)); have GE313 := ak ((by rw [hg]; exact (below_size (bl HB)) : w.heap.size ≤ gb313)); replace HB := ak (below_step (bl HB) hb); clear hb hbox hg; have hcz13_0 := bc w12 BK313 0 (.int .i64 a0_0) rfl; have hcz13_1 := bc w12 BK313 1 (.int .i64 a0_1) rfl; have hcz13_2 := bc w12 BK313 2 (.int .i64 a0_2) rfl; have hfz13_0 := fz BK313 0; have hfz13_1 := fz BK313 1; have hfz13_2 := fz BK313 2) | ((with_reducible refine gate_callee (f := 41) rfl ?_); refine goesL_ (some 7) rfl rfl Try.func41 (by kernel_rfl) rfl #[.int .i64 a0_0, .int .i64 1, .int .i64 999] rfl (by (try simp only [List.map_toArray, List.map_cons, List.map_nil]); rfl) ?_; (with_reducible refine (impl_within.calls a0_0 1 999 false _ A3.out).mono ?_); rintro e w' ⟨rfl, ⟨nd, rfl⟩⟩; refine ⟨_, rfl, ?_⟩))
  go_ret
  exact ⟨by rfl, bl1 HB GE313⟩
 subst c4
 rw [if_pos rfl] at H
 replace H := Option.bind_eq_some_iff.mp H
 obtain ⟨t315, A50, H⟩ := H
 have A5 := ak A50
 clear A50
 by_cases c6 : t315 = true
 rotate_left
 ·replace c6 := Bool.eq_false_iff.mpr c6
  subst c6
  rw [if_neg (show ¬ (false = true) by decide)] at H
  obtain rfl := Option.some.inj H
  go_enter Try.func25, Try.ntmps25
  go_wp2_with (first | ((with_reducible refine gate_dst (N := 2) rfl ?_); refine box_event ?hg (N := 2) ?hd (cs := #[.int .i64 a0_0, .int .i64 a0_1, .int .i64 a0_2]) (t := 30) ?hr ?_; (case hd => rfl); (case hg => rfl); (case hr => (go_simp; done)); intro gb313 hg w10 hbox hb; have BK313 := ak (hbox); have GW313 := ak ((by rw [hg]; exact (below_size (bl HB)) : w.heap.size ≤ gb313)); have GE313 := ak ((by rw [hg]; exact (below_size (bl HB)) : w.heap.size ≤ gb313)); replace HB := ak (below_step (bl HB) hb); clear hb hbox hg; have hcz11_0 := bc w10 BK313 0 (.int .i64 a0_0) rfl; have hcz11_1 := bc w10 BK313 1 (.int .i64 a0_1) rfl; have hcz11_2 := bc w10 BK313 2 (.int .i64 a0_2) rfl; have hfz11_0 := fz BK313 0; have hfz11_1 := fz BK313 1; have hfz11_2 := fz BK313 2) | ((with_reducible refine gate_callee (f := 41) rfl ?_); refine goesL_ (some 7) rfl rfl Try.func41 (by kernel_rfl) rfl #[.int .i64 a0_0, .int .i64 1, .int .i64 999] rfl (by (try simp only [List.map_toArray, List.map_cons, List.map_nil]); rfl) ?_; (with_reducible refine (impl_within.calls a0_0 1 999 true _ A3.out).mono ?_); rintro e w' ⟨rfl, ⟨nd, rfl⟩⟩; refine ⟨_, rfl, ?_⟩) | (go_at_call 41; (with_reducible refine (impl_within.calls a0_1 0 (wrap64 (a1 - 1)) false _ A5.out).mono ?_); rintro e w' ⟨rfl, ⟨nd, rfl⟩⟩))
  go_ret
  exact ⟨by rfl, bl1 HB GE313⟩
 subst c6
 rw [if_pos rfl] at H
 replace H := Option.bind_eq_some_iff.mp H
 obtain ⟨t316, A70, H⟩ := H
 have A7 := ak A70
 clear A70
 obtain rfl := Option.some.inj H
 go_enter Try.func25, Try.ntmps25
 go_wp2_with (first | ((with_reducible refine gate_dst (N := 2) rfl ?_); refine box_event ?hg (N := 2) ?hd (cs := #[.int .i64 a0_0, .int .i64 a0_1, .int .i64 a0_2]) (t := 30) ?hr ?_; (case hd => rfl); (case hg => rfl); (case hr => (go_simp; done)); intro gb313 hg w8 hbox hb; have BK313 := ak (hbox); have GW313 := ak ((by rw [hg]; exact (below_size (bl HB)) : w.heap.size ≤ gb313)); have GE313 := ak ((by rw [hg]; exact (below_size (bl HB)) : w.heap.size ≤ gb313)); replace HB := ak (below_step (bl HB) hb); clear hb hbox hg; have hcz9_0 := bc w8 BK313 0 (.int .i64 a0_0) rfl; have hcz9_1 := bc w8 BK313 1 (.int .i64 a0_1) rfl; have hcz9_2 := bc w8 BK313 2 (.int .i64 a0_2) rfl; have hfz9_0 := fz BK313 0; have hfz9_1 := fz BK313 1; have hfz9_2 := fz BK313 2) | ((with_reducible refine gate_callee (f := 41) rfl ?_); refine goesL_ (some 7) rfl rfl Try.func41 (by kernel_rfl) rfl #[.int .i64 a0_0, .int .i64 1, .int .i64 999] rfl (by (try simp only [List.map_toArray, List.map_cons, List.map_nil]); rfl) ?_; (with_reducible refine (impl_within.calls a0_0 1 999 true _ A3.out).mono ?_); rintro e w' ⟨rfl, ⟨nd, rfl⟩⟩; refine ⟨_, rfl, ?_⟩) | (go_at_call 41; (with_reducible refine (impl_within.calls a0_1 0 (wrap64 (a1 - 1)) true _ A5.out).mono ?_); rintro e w' ⟨rfl, ⟨nd, rfl⟩⟩) | (go_at_call 41; (with_reducible refine (impl_within.calls a0_2 (-1) 99 t316 _ A7.out).mono ?_); rintro e w' ⟨rfl, ⟨nd, rfl⟩⟩))
 go_ret
 exact ⟨by rfl, bl1 HB GE313⟩

end Go.Proofs.Ytbcedkcjodokkaa.F
