-- Printed by wip/px/px.py of this claim's repository (the kit's printer, extended there). Lean checks it.
import Derived.Test.YtddkaiegnohkcaaFKinds
import Derived.Test.YtddkaiegnohkcaaFimplmetricOk
import Derived.Test.YtddkaiegnohkcaaFimplNetpriced
namespace Go.Proofs.Ytddkaiegnohkcaa.F
open Go.RowKit Go.Proofs.YtddkaiegnohkcaaW.PrintWords Go.Proofs.YtddkaiegnohkcaaW.PrintLast Go.Proofs.YtddkaiegnohkcaaW.PrintMore
attribute [local go_sem] max2_int min2_int max_two min_two max_three min_three max_four min_four   -- for this text's walks alone
set_option linter.unusedVariables false
set_option linter.unusedSimpArgs false

/-! ### impl_CostNet: function 36 -/
def impl_CostNet.f (k : Nat) (a0_0 : Int) (l0_1 : List (S33)) (l1 : List Int) : Option (Int × (List (S33)) × Bool) := (impl_metricOk.f a0_0 l0_1 l1).bind fun t603 => (if t603 = true then ((impl_Net_priced.f k a0_0 l0_1 l1).bind fun bt604 => (some (bt604.1, bt604.2, true))) else (some (0, ([] : List (S33)), false)))
theorem impl_CostNet.mono : ∀ a0 a1 a2 k, LeO (impl_CostNet.f k a0 a1 a2) (impl_CostNet.f (k + 1) a0 a1 a2) := by
 intro a0 a1 a2 k
 unfold impl_CostNet.f
 repeat' first | (with_reducible exact impl_Net_priced.mono _ _ _ _) | (with_reducible exact LeO.refl _) | (with_reducible refine LeO.ite ?_ ?_) | (with_reducible refine LeO.bind ?_ (fun _ => ?_))
set_option maxHeartbeats 8000000 in
set_option maxRecDepth 100000 in
theorem impl_CostNet.calls (k : Nat) (a0_0 : Int) (A0_1 : Option Addr) (c0_1 : Nat) (l0_1 : List (S33)) (A1 : Option Addr) (c1 : Nat) (l1 : List Int) (r1 : Int) (r2 : List (S33)) (r3 : Bool) (w : World) (hr0_1 : Kd.C k33 w A0_1 l0_1.length l0_1) (hc0_1 : l0_1.length ≤ c0_1) (hr1 : Kd.C (Kd.int .i64) w A1 l1.length l1) (hc1 : l1.length ≤ c1) (h : impl_CostNet.f k a0_0 l0_1 l1 = some (r1, r2, r3)) :
  Calls Try.prog 36 #[.agg #[.int .i64 a0_0, .slice A0_1 l0_1.length c0_1], .slice A1 l1.length c1] w fun e w' => ∃ v1_ : Value, e = .returned (.tuple #[.agg #[.int .i64 r1, v1_], .bool r3]) ∧ Kd.R k33 33 w' w.heap.size (fun _ => True) v1_ r2 ∧ Below w.heap.size w w' := by
 have hu25 := Try.underlying25
 have HR0_1 := ak hr0_1
 have HC0_1 := ak hc0_1
 clear hr0_1 hc0_1
 have HR1 := ak hr1
 have HC1 := ak hc1
 clear hr1 hc1
 have HB := ak (Below.refl w.heap.size w)
 have H : ((impl_metricOk.f a0_0 l0_1 l1).bind fun t603 => (if t603 = true then ((impl_Net_priced.f k a0_0 l0_1 l1).bind fun bt604 => (some (bt604.1, bt604.2, true))) else (some (0, ([] : List (S33)), false)))) = some (r1, r2, r3) := h
 clear h
 replace H := Option.bind_eq_some_iff.mp H
 obtain ⟨t603, A30, H⟩ := H
 have A3 := ak A30
 clear A30
 by_cases c4 : t603 = true
 rotate_left
 ·replace c4 := Bool.eq_false_iff.mpr c4
  subst c4
  rw [if_neg (show ¬ (false = true) by decide)] at H
  simp only [Option.some.injEq, Prod.mk.injEq] at H
  obtain ⟨rfl, rfl, rfl⟩ := H
  go_enter Try.func36, Try.ntmps36
  go_wp2_with (first | ((with_reducible refine gate_dst (N := 2) rfl ?_); refine box_event ?hg (N := 2) ?hd (cs := #[.int .i64 a0_0, .slice A0_1 l0_1.length c0_1]) (t := 25) ?hr ?_; (case hd => rfl); (case hg => rfl); (case hr => (go_simp; done)); intro gb601 hg w15 hbox hb; have BK601 := ak (hbox); have GW601 := ak ((by rw [hg]; exact (below_size (bl HB)) : w.heap.size ≤ gb601)); have GE601 := ak ((by rw [hg]; exact (below_size (bl HB)) : w.heap.size ≤ gb601)); replace HB := ak (below_step (bl HB) hb); clear hb hbox hg) | ((with_reducible refine gate_dst (N := 4) rfl ?_); refine box_event ?hg (N := 4) ?hd (cs := #[.int .i64 0, .slice none 0 0]) (t := 25) ?hr ?_; (case hd => rfl); (case hg => rfl); (case hr => (go_simp; done)); intro gb602 hg w16 hbox hb; have BK602 := ak (hbox); have GW602 := ak ((by rw [hg]; exact (below_size (bl1 HB GE601)) : w.heap.size ≤ gb602)); have GE602 := ak ((by rw [hg]; exact (below_size (bl1 HB GE601)) : w.heap.size ≤ gb602)); replace HB := ak (below_step (bl1 HB GE601) hb); have NB601_602 := ak ((by rw [hg]; exact Nat.ne_of_lt (blk_lt (bk BK601)) : gb601 ≠ gb602)); have NB602_601 := ak ((by rw [hg]; exact Nat.ne_of_gt (blk_lt (bk BK601)) : gb602 ≠ gb601)); replace BK601 := ak (blk_below (bk BK601) hb); clear hb hbox hg; have hnb17 := NB601_602.out; have hnc17 := NB602_601.out; have hcz18_0 := bc w16 BK601 0 (.int .i64 a0_0) rfl; have hcz18_1 := bc w16 BK601 1 (.slice A0_1 l0_1.length c0_1) rfl; have hfz18_0 := fz BK601 0; have hfz18_1 := fz BK601 1) | ((with_reducible refine gate_callee (f := 64) rfl ?_); refine goesL_ (some 8) rfl rfl Try.func64 (by kernel_rfl) rfl #[.agg #[.int .i64 a0_0, .slice A0_1 l0_1.length c0_1], .slice A1 l1.length c1] rfl (by (try simp only [List.map_toArray, List.map_cons, List.map_nil]); rfl) ?_; (with_reducible refine (impl_metricOk.calls a0_0 _ _ l0_1 _ _ l1 false _ ?side1 ?side2 ?side3 ?side4 A3.out).mono ?_); (case side1 => repeat (exact (Kd.C_below HR0_1.out HB.out))); (case side2 => exact HC0_1.out); (case side3 => repeat (exact (Kd.C_below HR1.out HB.out))); (case side4 => exact HC1.out); rintro e w19 ⟨rfl, hb⟩; refine ⟨_, rfl, ?_⟩; replace BK601 := ak (blk_below (bk BK601) hb); replace BK602 := ak (blk_below (bk BK602) hb); replace HB := ak (below_step (bl2 HB GE601 GE602) hb); (try clear hb); (try clear hb2); (try clear hk); (try clear hi); have hcz20_0 := bc w19 BK602 0 (.int .i64 0) rfl; have hcz20_1 := bc w19 BK602 1 (.slice none 0 0) rfl; have hfz20_0 := fz BK602 0; have hfz20_1 := fz BK602 1))
  refine bodyPost_ret (results_ct rfl _ _ gb602 25 #[.int .i64 0, .slice none 0 0] (0, 0) _ rfl (by refine blk_put (cs := #[.int .i64 0, .slice none 0 0]) ?_ 1 _ rfl; refine blk_put (cs := #[.int .i64 0, .slice none 0 0]) ?_ 0 _ rfl; exact BK602.out) Try.underlying25 rfl (by kernel_rfl)) rfl ?_
  exact ⟨_, by rfl, by exact Kd.R_nil _ _ _ _ _, bl2 HB GE601 GE602⟩
 subst c4
 rw [if_pos rfl] at H
 replace H := Option.bind_eq_some_iff.mp H
 obtain ⟨⟨t604, t605⟩, A50, H⟩ := H
 have A5 := ak A50
 clear A50
 simp only [Option.some.injEq, Prod.mk.injEq] at H
 obtain ⟨rfl, rfl, rfl⟩ := H
 go_enter Try.func36, Try.ntmps36
 go_wp2_with (first | ((with_reducible refine gate_dst (N := 2) rfl ?_); refine box_event ?hg (N := 2) ?hd (cs := #[.int .i64 a0_0, .slice A0_1 l0_1.length c0_1]) (t := 25) ?hr ?_; (case hd => rfl); (case hg => rfl); (case hr => (go_simp; done)); intro gb601 hg w6 hbox hb; have BK601 := ak (hbox); have GW601 := ak ((by rw [hg]; exact (below_size (bl HB)) : w.heap.size ≤ gb601)); have GE601 := ak ((by rw [hg]; exact (below_size (bl HB)) : w.heap.size ≤ gb601)); replace HB := ak (below_step (bl HB) hb); clear hb hbox hg) | ((with_reducible refine gate_dst (N := 4) rfl ?_); refine box_event ?hg (N := 4) ?hd (cs := #[.int .i64 0, .slice none 0 0]) (t := 25) ?hr ?_; (case hd => rfl); (case hg => rfl); (case hr => (go_simp; done)); intro gb602 hg w7 hbox hb; have BK602 := ak (hbox); have GW602 := ak ((by rw [hg]; exact (below_size (bl1 HB GE601)) : w.heap.size ≤ gb602)); have GE602 := ak ((by rw [hg]; exact (below_size (bl1 HB GE601)) : w.heap.size ≤ gb602)); replace HB := ak (below_step (bl1 HB GE601) hb); have NB601_602 := ak ((by rw [hg]; exact Nat.ne_of_lt (blk_lt (bk BK601)) : gb601 ≠ gb602)); have NB602_601 := ak ((by rw [hg]; exact Nat.ne_of_gt (blk_lt (bk BK601)) : gb602 ≠ gb601)); replace BK601 := ak (blk_below (bk BK601) hb); clear hb hbox hg; have hnb8 := NB601_602.out; have hnc8 := NB602_601.out; have hcz9_0 := bc w7 BK601 0 (.int .i64 a0_0) rfl; have hcz9_1 := bc w7 BK601 1 (.slice A0_1 l0_1.length c0_1) rfl; have hfz9_0 := fz BK601 0; have hfz9_1 := fz BK601 1) | ((with_reducible refine gate_callee (f := 64) rfl ?_); refine goesL_ (some 8) rfl rfl Try.func64 (by kernel_rfl) rfl #[.agg #[.int .i64 a0_0, .slice A0_1 l0_1.length c0_1], .slice A1 l1.length c1] rfl (by (try simp only [List.map_toArray, List.map_cons, List.map_nil]); rfl) ?_; (with_reducible refine (impl_metricOk.calls a0_0 _ _ l0_1 _ _ l1 true _ ?side1 ?side2 ?side3 ?side4 A3.out).mono ?_); (case side1 => repeat (exact (Kd.C_below HR0_1.out HB.out))); (case side2 => exact HC0_1.out); (case side3 => repeat (exact (Kd.C_below HR1.out HB.out))); (case side4 => exact HC1.out); rintro e w10 ⟨rfl, hb⟩; refine ⟨_, rfl, ?_⟩; replace BK601 := ak (blk_below (bk BK601) hb); replace BK602 := ak (blk_below (bk BK602) hb); replace HB := ak (below_step (bl2 HB GE601 GE602) hb); (try clear hb); (try clear hb2); (try clear hk); (try clear hi); have hcz11_0 := bc w10 BK601 0 (.int .i64 a0_0) rfl; have hcz11_1 := bc w10 BK601 1 (.slice A0_1 l0_1.length c0_1) rfl; have hfz11_0 := fz BK601 0; have hfz11_1 := fz BK601 1) | ((with_reducible refine gate_callee (f := 65) rfl ?_); refine goesL_ (some 13) rfl rfl Try.func65 (by kernel_rfl) rfl #[.agg #[.int .i64 a0_0, .slice A0_1 l0_1.length c0_1], .slice A1 l1.length c1] rfl (by (try simp only [List.map_toArray, List.map_cons, List.map_nil]); rfl) ?_; (with_reducible refine (impl_Net_priced.calls k a0_0 _ _ l0_1 _ _ l1 t604 t605 _ ?side1 ?side2 ?side3 ?side4 A5.out).mono ?_); (case side1 => repeat (exact (Kd.C_below HR0_1.out HB.out))); (case side2 => exact HC0_1.out); (case side3 => repeat (exact (Kd.C_below HR1.out HB.out))); (case side4 => exact HC1.out); rintro e w12 ⟨v606, rfl, ho0, hb⟩; refine ⟨_, rfl, ?_⟩; have HO607 := ak (Kd.R_lower ho0 (below_size (bl2 HB GE601 GE602))); replace BK601 := ak (blk_below (bk BK601) hb); replace BK602 := ak (blk_below (bk BK602) hb); replace HB := ak (below_step (bl2 HB GE601 GE602) hb); (try clear hb); (try clear hb2); (try clear hk); (try clear hi); (try clear ho0); have hcz13_0 := bc w12 BK602 0 (.int .i64 0) rfl; have hcz13_1 := bc w12 BK602 1 (.slice none 0 0) rfl; have hfz13_0 := fz BK602 0; have hfz13_1 := fz BK602 1; obtain ⟨Ao14, co14, eo14⟩ := Kd.R_slice HO607.out; subst eo14))
 refine bodyPost_ret (results_ct rfl _ _ gb602 25 #[.int .i64 t604, .slice Ao14 t605.length co14] (0, 0) _ rfl (by refine blk_put (cs := #[.int .i64 t604, .slice none 0 0]) ?_ 1 _ rfl; refine blk_put (cs := #[.int .i64 0, .slice none 0 0]) ?_ 0 _ rfl; exact BK602.out) Try.underlying25 rfl (by kernel_rfl)) rfl ?_
 exact ⟨_, by rfl, by exact Kd.R_mono (Kd.R_far (p := ⟨gb602, 1, none⟩) (Kd.R_far (p := ⟨gb602, 0, none⟩) (Kd.R_types HO607.out BK602.out (by decide)) (fun _ hk => hk.2) (.int .i64 t604)) (fun _ hk => hk.2) (.slice Ao14 t605.length co14)) (fun _ hk => trivial), bl2 HB GE601 GE602⟩

end Go.Proofs.Ytddkaiegnohkcaa.F
