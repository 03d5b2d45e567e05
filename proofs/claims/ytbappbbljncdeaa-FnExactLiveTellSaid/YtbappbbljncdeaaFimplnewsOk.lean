-- Printed by wip/px/px.py of this claim's repository (the kit's printer, extended there). Lean checks it.
import Derived.Test.YtbappbbljncdeaaFKinds
import Derived.Test.YtbappbbljncdeaaFimplwithin
namespace Go.Proofs.Ytbappbbljncdeaa.F
open Go.RowKit Go.Proofs.YtbappbbljncdeaaW.PrintWords Go.Proofs.YtbappbbljncdeaaW.PrintLast Go.Proofs.YtbappbbljncdeaaW.PrintMore
attribute [local go_sem] max2_int min2_int max_two min_two max_three min_three max_four min_four   -- for this text's walks alone
set_option linter.unusedVariables false
set_option linter.unusedSimpArgs false

/-! ### impl_newsOk: function 124 -/
def impl_newsOk.f (a0_0 : Int) (a0_1 : Int) (a0_2 : Int) (a1 : Int) : Option (Bool) := (impl_within.f a0_0 1 999).bind fun t557 => (if t557 = true then ((impl_within.f a0_1 0 (wrap64 (a1 - 1))).bind fun t558 => (if t558 = true then ((impl_within.f a0_2 (-1) 99).bind fun t559 => (some t559)) else (some false))) else (some false))
set_option maxHeartbeats 8000000 in
set_option maxRecDepth 100000 in
theorem impl_newsOk.calls (a0_0 : Int) (a0_1 : Int) (a0_2 : Int) (a1 : Int) (r : Bool) (w : World) (h : impl_newsOk.f a0_0 a0_1 a0_2 a1 = some r) :
  Calls Try.prog 124 #[.agg #[.int .i64 a0_0, .int .i64 a0_1, .int .i64 a0_2], .int .i64 a1] w fun e w' => e = .returned (.bool r) ∧ Below w.heap.size w w' := by
 have hu70 := Try.underlying70
 have HB := ak (Below.refl w.heap.size w)
 have H : ((impl_within.f a0_0 1 999).bind fun t557 => (if t557 = true then ((impl_within.f a0_1 0 (wrap64 (a1 - 1))).bind fun t558 => (if t558 = true then ((impl_within.f a0_2 (-1) 99).bind fun t559 => (some t559)) else (some false))) else (some false))) = some r := h
 clear h
 replace H := Option.bind_eq_some_iff.mp H
 obtain ⟨t557, A30, H⟩ := H
 have A3 := ak A30
 clear A30
 by_cases c4 : t557 = true
 rotate_left
 ·replace c4 := Bool.eq_false_iff.mpr c4
  subst c4
  rw [if_neg (show ¬ (false = true) by decide)] at H
  obtain rfl := Option.some.inj H
  go_enter Try.func124, Try.ntmps124
  go_wp2_with (first | ((with_reducible refine gate_dst (N := 2) rfl ?_); refine box_event ?hg (N := 2) ?hd (cs := #[.int .i64 a0_0, .int .i64 a0_1, .int .i64 a0_2]) (t := 70) ?hr ?_; (case hd => rfl); (case hg => rfl); (case hr => (go_simp; done)); intro gb556 hg w12 hbox hb; have BK556 := ak (hbox); have GW556 := ak ((by rw [hg]; exact (below_size (bl HB)) : w.heap.size ≤ gb556)); have GE556 := ak ((by rw [hg]; exact (below_size (bl HB)) : w.heap.size ≤ gb556)); replace HB := ak (below_step (bl HB) hb); clear hb hbox hg; have hcz13_0 := bc w12 BK556 0 (.int .i64 a0_0) rfl; have hcz13_1 := bc w12 BK556 1 (.int .i64 a0_1) rfl; have hcz13_2 := bc w12 BK556 2 (.int .i64 a0_2) rfl; have hfz13_0 := fz BK556 0; have hfz13_1 := fz BK556 1; have hfz13_2 := fz BK556 2) | ((with_reducible refine gate_callee (f := 117) rfl ?_); refine goesL_ (some 7) rfl rfl Try.func117 (by kernel_rfl) rfl #[.int .i64 a0_0, .int .i64 1, .int .i64 999] rfl (by (try simp only [List.map_toArray, List.map_cons, List.map_nil]); rfl) ?_; (with_reducible refine (impl_within.calls a0_0 1 999 false _ A3.out).mono ?_); rintro e w' ⟨rfl, ⟨nd, rfl⟩⟩; refine ⟨_, rfl, ?_⟩))
  go_ret
  exact ⟨by rfl, bl1 HB GE556⟩
 subst c4
 rw [if_pos rfl] at H
 replace H := Option.bind_eq_some_iff.mp H
 obtain ⟨t558, A50, H⟩ := H
 have A5 := ak A50
 clear A50
 by_cases c6 : t558 = true
 rotate_left
 ·replace c6 := Bool.eq_false_iff.mpr c6
  subst c6
  rw [if_neg (show ¬ (false = true) by decide)] at H
  obtain rfl := Option.some.inj H
  go_enter Try.func124, Try.ntmps124
  go_wp2_with (first | ((with_reducible refine gate_dst (N := 2) rfl ?_); refine box_event ?hg (N := 2) ?hd (cs := #[.int .i64 a0_0, .int .i64 a0_1, .int .i64 a0_2]) (t := 70) ?hr ?_; (case hd => rfl); (case hg => rfl); (case hr => (go_simp; done)); intro gb556 hg w10 hbox hb; have BK556 := ak (hbox); have GW556 := ak ((by rw [hg]; exact (below_size (bl HB)) : w.heap.size ≤ gb556)); have GE556 := ak ((by rw [hg]; exact (below_size (bl HB)) : w.heap.size ≤ gb556)); replace HB := ak (below_step (bl HB) hb); clear hb hbox hg; have hcz11_0 := bc w10 BK556 0 (.int .i64 a0_0) rfl; have hcz11_1 := bc w10 BK556 1 (.int .i64 a0_1) rfl; have hcz11_2 := bc w10 BK556 2 (.int .i64 a0_2) rfl; have hfz11_0 := fz BK556 0; have hfz11_1 := fz BK556 1; have hfz11_2 := fz BK556 2) | ((with_reducible refine gate_callee (f := 117) rfl ?_); refine goesL_ (some 7) rfl rfl Try.func117 (by kernel_rfl) rfl #[.int .i64 a0_0, .int .i64 1, .int .i64 999] rfl (by (try simp only [List.map_toArray, List.map_cons, List.map_nil]); rfl) ?_; (with_reducible refine (impl_within.calls a0_0 1 999 true _ A3.out).mono ?_); rintro e w' ⟨rfl, ⟨nd, rfl⟩⟩; refine ⟨_, rfl, ?_⟩) | (go_at_call 117; (with_reducible refine (impl_within.calls a0_1 0 (wrap64 (a1 - 1)) false _ A5.out).mono ?_); rintro e w' ⟨rfl, ⟨nd, rfl⟩⟩))
  go_ret
  exact ⟨by rfl, bl1 HB GE556⟩
 subst c6
 rw [if_pos rfl] at H
 replace H := Option.bind_eq_some_iff.mp H
 obtain ⟨t559, A70, H⟩ := H
 have A7 := ak A70
 clear A70
 obtain rfl := Option.some.inj H
 go_enter Try.func124, Try.ntmps124
 go_wp2_with (first | ((with_reducible refine gate_dst (N := 2) rfl ?_); refine box_event ?hg (N := 2) ?hd (cs := #[.int .i64 a0_0, .int .i64 a0_1, .int .i64 a0_2]) (t := 70) ?hr ?_; (case hd => rfl); (case hg => rfl); (case hr => (go_simp; done)); intro gb556 hg w8 hbox hb; have BK556 := ak (hbox); have GW556 := ak ((by rw [hg]; exact (below_size (bl HB)) : w.heap.size ≤ gb556)); have GE556 := ak ((by rw [hg]; exact (below_size (bl HB)) : w.heap.size ≤ gb556)); replace HB := ak (below_step (bl HB) hb); clear hb hbox hg; have hcz9_0 := bc w8 BK556 0 (.int .i64 a0_0) rfl; have hcz9_1 := bc w8 BK556 1 (.int .i64 a0_1) rfl; have hcz9_2 := bc w8 BK556 2 (.int .i64 a0_2) rfl; have hfz9_0 := fz BK556 0; have hfz9_1 := fz BK556 1; have hfz9_2 := fz BK556 2) | ((with_reducible refine gate_callee (f := 117) rfl ?_); refine goesL_ (some 7) rfl rfl Try.func117 (by kernel_rfl) rfl #[.int .i64 a0_0, .int .i64 1, .int .i64 999] rfl (by (try simp only [List.map_toArray, List.map_cons, List.map_nil]); rfl) ?_; (with_reducible refine (impl_within.calls a0_0 1 999 true _ A3.out).mono ?_); rintro e w' ⟨rfl, ⟨nd, rfl⟩⟩; refine ⟨_, rfl, ?_⟩) | (go_at_call 117; (with_reducible refine (impl_within.calls a0_1 0 (wrap64 (a1 - 1)) true _ A5.out).mono ?_); rintro e w' ⟨rfl, ⟨nd, rfl⟩⟩) | (go_at_call 117; (with_reducible refine (impl_within.calls a0_2 (-1) 99 t559 _ A7.out).mono ?_); rintro e w' ⟨rfl, ⟨nd, rfl⟩⟩))
 go_ret
 exact ⟨by rfl, bl1 HB GE556⟩

end Go.Proofs.Ytbappbbljncdeaa.F
