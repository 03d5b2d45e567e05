-- Printed by wip/px/px.py of this claim's repository (the kit's printer, extended there). Lean checks it.
import Derived.Test.YtddkaiegnohkcaaFKinds
import Derived.Test.YtddkaiegnohkcaaFimplnodesIn
import Derived.Test.YtddkaiegnohkcaaFimplNear
namespace Go.Proofs.Ytddkaiegnohkcaa.F
open Go.RowKit Go.Proofs.YtddkaiegnohkcaaW.PrintWords Go.Proofs.YtddkaiegnohkcaaW.PrintLast Go.Proofs.YtddkaiegnohkcaaW.PrintMore
attribute [local go_sem] max2_int min2_int max_two min_two max_three min_three max_four min_four   -- for this text's walks alone
set_option linter.unusedVariables false
set_option linter.unusedSimpArgs false

/-! ### impl_NearAll: function 31 -/
def impl_NearAll.f (k : Nat) (a0_0 : Int) (l0_1 : List (S33)) (a1 : Int) : Option (List Int) := (impl_nodesIn.f a0_0 l0_1 (([a1] : List Int))).bind fun t172 => (if t172 = true then ((impl_Net_from.f k a0_0 l0_1 a1).bind fun t173 => (some t173)) else (some ([] : List Int)))
theorem impl_NearAll.mono : ∀ a0 a1 a2 k, LeO (impl_NearAll.f k a0 a1 a2) (impl_NearAll.f (k + 1) a0 a1 a2) := by
 intro a0 a1 a2 k
 unfold impl_NearAll.f
 repeat' first | (with_reducible exact impl_Net_from.mono _ _ _ _) | (with_reducible exact LeO.refl _) | (with_reducible refine LeO.ite ?_ ?_) | (with_reducible refine LeO.bind ?_ (fun _ => ?_))
set_option maxHeartbeats 8000000 in
set_option maxRecDepth 100000 in
theorem impl_NearAll.calls (k : Nat) (a0_0 : Int) (A0_1 : Option Addr) (c0_1 : Nat) (l0_1 : List (S33)) (a1 : Int) (r : List Int) (w : World) (hr0_1 : Kd.C k33 w A0_1 l0_1.length l0_1) (hc0_1 : l0_1.length ≤ c0_1) (h : impl_NearAll.f k a0_0 l0_1 a1 = some r) :
  Calls Try.prog 31 #[.agg #[.int .i64 a0_0, .slice A0_1 l0_1.length c0_1], .int .i64 a1] w fun e w' => ∃ v0_ : Value, e = .returned (v0_) ∧ Kd.R (Kd.int .i64) 3 w' w.heap.size (fun _ => True) v0_ r ∧ Below w.heap.size w w' := by
 have hu25 := Try.underlying25
 have HR0_1 := ak hr0_1
 have HC0_1 := ak hc0_1
 clear hr0_1 hc0_1
 have HB := ak (Below.refl w.heap.size w)
 have H : ((impl_nodesIn.f a0_0 l0_1 (([a1] : List Int))).bind fun t172 => (if t172 = true then ((impl_Net_from.f k a0_0 l0_1 a1).bind fun t173 => (some t173)) else (some ([] : List Int)))) = some r := h
 clear h
 obtain ⟨y169, hy169⟩ : ∃ y_ : List Int, y_ = (([a1] : List Int)) := ⟨_, rfl⟩
 replace H : ((impl_nodesIn.f a0_0 l0_1 y169).bind fun t172 => (if t172 = true then ((impl_Net_from.f k a0_0 l0_1 a1).bind fun t173 => (some t173)) else (some ([] : List Int)))) = some r := by (rw [hy169]; with_reducible exact H)
 have Ny169 := ak hy169
 clear hy169
 replace H := Option.bind_eq_some_iff.mp H
 obtain ⟨t172, A30, H⟩ := H
 have A3 := ak A30
 clear A30
 by_cases c4 : t172 = true
 rotate_left
 ·replace c4 := Bool.eq_false_iff.mpr c4
  subst c4
  rw [if_neg (show ¬ (false = true) by decide)] at H
  obtain rfl := Option.some.inj H
  go_enter Try.func31, Try.ntmps31
  go_wp2_with (first | ((with_reducible refine gate_dst (N := 2) rfl ?_); refine box_event ?hg (N := 2) ?hd (cs := #[.int .i64 a0_0, .slice A0_1 l0_1.length c0_1]) (t := 25) ?hr ?_; (case hd => rfl); (case hg => rfl); (case hr => (go_simp; done)); intro gb168 hg w14 hbox hb; have BK168 := ak (hbox); have GW168 := ak ((by rw [hg]; exact (below_size (bl HB)) : w.heap.size ≤ gb168)); have GE168 := ak ((by rw [hg]; exact (below_size (bl HB)) : w.heap.size ≤ gb168)); replace HB := ak (below_step (bl HB) hb); clear hb hbox hg; have hcz15_0 := bc w14 BK168 0 (.int .i64 a0_0) rfl; have hcz15_1 := bc w14 BK168 1 (.slice A0_1 l0_1.length c0_1) rfl; have hfz15_0 := fz BK168 0; have hfz15_1 := fz BK168 1) | ((with_reducible refine gate_dst (N := 7) rfl ?_); refine Kd.R_lit (Kd.int .i64) _ 3 ?hg (N := 7) ?hd (xs := ([a1] : List Int)) (inner := [.int .i64 a1]) (ok := fun _ => True) (okp := fun _ => True) ?hr ?hp (fun _ hk => hk) trivial (Below.refl _ _) (Nat.le_refl _) (by simp) ?_; (case hd => rfl); (case hg => rfl); (case hr => (go_simp; done)); (case hp => exact (Reps.one (show Kd.M (Kd.int .i64) _ _ _ a1 [.int .i64 a1] from rfl) (Reps.none _ _))); intro v170 w16 ho17 hb hg_ hnew_; clear hg_ hnew_; (rw [← Ny169.out] at ho17); have HO171 := ak (Kd.R_lower ho17 (below_size (bl1 HB GE168))); replace BK168 := ak (blk_below (bk BK168) hb); replace HB := ak (below_step (bl1 HB GE168) hb); clear hb ho17; obtain ⟨Ao18, co18, eo18⟩ := Kd.R_slice HO171.out; subst eo18) | ((with_reducible refine gate_callee (f := 44) rfl ?_); refine goesL_ (some 8) rfl rfl Try.func44 (by kernel_rfl) rfl #[.agg #[.int .i64 a0_0, .slice A0_1 l0_1.length c0_1], .slice Ao18 y169.length co18] rfl (by (try simp only [List.map_toArray, List.map_cons, List.map_nil]); rfl) ?_; (with_reducible refine (impl_nodesIn.calls a0_0 _ _ l0_1 _ _ y169 false _ ?side1 ?side2 ?side3 ?side4 A3.out).mono ?_); (case side1 => repeat (exact (Kd.C_below HR0_1.out HB.out))); (case side2 => exact HC0_1.out); (case side3 => repeat (exact (Kd.R_reads' HO171.out).2.2)); (case side4 => exact (Kd.R_reads' HO171.out).2.1); rintro e w19 ⟨rfl, hb⟩; refine ⟨_, rfl, ?_⟩; replace HO171 := ak (Kd.R_below (rk HO171) hb); replace BK168 := ak (blk_below (bk BK168) hb); replace HB := ak (below_step (bl1 HB GE168) hb); (try clear hb); (try clear hb2); (try clear hk); (try clear hi)))
  go_ret
  exact ⟨_, by rfl, by exact Kd.R_nil _ _ _ _ _, bl1 HB GE168⟩
 subst c4
 rw [if_pos rfl] at H
 replace H := Option.bind_eq_some_iff.mp H
 obtain ⟨t173, A50, H⟩ := H
 have A5 := ak A50
 clear A50
 obtain rfl := Option.some.inj H
 go_enter Try.func31, Try.ntmps31
 go_wp2_with (first | ((with_reducible refine gate_dst (N := 2) rfl ?_); refine box_event ?hg (N := 2) ?hd (cs := #[.int .i64 a0_0, .slice A0_1 l0_1.length c0_1]) (t := 25) ?hr ?_; (case hd => rfl); (case hg => rfl); (case hr => (go_simp; done)); intro gb168 hg w6 hbox hb; have BK168 := ak (hbox); have GW168 := ak ((by rw [hg]; exact (below_size (bl HB)) : w.heap.size ≤ gb168)); have GE168 := ak ((by rw [hg]; exact (below_size (bl HB)) : w.heap.size ≤ gb168)); replace HB := ak (below_step (bl HB) hb); clear hb hbox hg; have hcz7_0 := bc w6 BK168 0 (.int .i64 a0_0) rfl; have hcz7_1 := bc w6 BK168 1 (.slice A0_1 l0_1.length c0_1) rfl; have hfz7_0 := fz BK168 0; have hfz7_1 := fz BK168 1) | ((with_reducible refine gate_dst (N := 7) rfl ?_); refine Kd.R_lit (Kd.int .i64) _ 3 ?hg (N := 7) ?hd (xs := ([a1] : List Int)) (inner := [.int .i64 a1]) (ok := fun _ => True) (okp := fun _ => True) ?hr ?hp (fun _ hk => hk) trivial (Below.refl _ _) (Nat.le_refl _) (by simp) ?_; (case hd => rfl); (case hg => rfl); (case hr => (go_simp; done)); (case hp => exact (Reps.one (show Kd.M (Kd.int .i64) _ _ _ a1 [.int .i64 a1] from rfl) (Reps.none _ _))); intro v170 w8 ho9 hb hg_ hnew_; clear hg_ hnew_; (rw [← Ny169.out] at ho9); have HO171 := ak (Kd.R_lower ho9 (below_size (bl1 HB GE168))); replace BK168 := ak (blk_below (bk BK168) hb); replace HB := ak (below_step (bl1 HB GE168) hb); clear hb ho9; obtain ⟨Ao10, co10, eo10⟩ := Kd.R_slice HO171.out; subst eo10) | ((with_reducible refine gate_callee (f := 44) rfl ?_); refine goesL_ (some 8) rfl rfl Try.func44 (by kernel_rfl) rfl #[.agg #[.int .i64 a0_0, .slice A0_1 l0_1.length c0_1], .slice Ao10 y169.length co10] rfl (by (try simp only [List.map_toArray, List.map_cons, List.map_nil]); rfl) ?_; (with_reducible refine (impl_nodesIn.calls a0_0 _ _ l0_1 _ _ y169 true _ ?side1 ?side2 ?side3 ?side4 A3.out).mono ?_); (case side1 => repeat (exact (Kd.C_below HR0_1.out HB.out))); (case side2 => exact HC0_1.out); (case side3 => repeat (exact (Kd.R_reads' HO171.out).2.2)); (case side4 => exact (Kd.R_reads' HO171.out).2.1); rintro e w11 ⟨rfl, hb⟩; refine ⟨_, rfl, ?_⟩; replace HO171 := ak (Kd.R_below (rk HO171) hb); replace BK168 := ak (blk_below (bk BK168) hb); replace HB := ak (below_step (bl1 HB GE168) hb); (try clear hb); (try clear hb2); (try clear hk); (try clear hi); have hcz12_0 := bc w11 BK168 0 (.int .i64 a0_0) rfl; have hcz12_1 := bc w11 BK168 1 (.slice A0_1 l0_1.length c0_1) rfl; have hfz12_0 := fz BK168 0; have hfz12_1 := fz BK168 1) | ((with_reducible refine gate_callee (f := 59) rfl ?_); refine goesL_ (some 12) rfl rfl Try.func59 (by kernel_rfl) rfl #[.agg #[.int .i64 a0_0, .slice A0_1 l0_1.length c0_1], .int .i64 a1] rfl (by (try simp only [List.map_toArray, List.map_cons, List.map_nil]); rfl) ?_; (with_reducible refine (impl_Net_from.calls k a0_0 _ _ l0_1 a1 t173 _ ?side1 ?side2 A5.out).mono ?_); (case side1 => repeat (exact (Kd.C_below HR0_1.out HB.out))); (case side2 => exact HC0_1.out); rintro e w13 ⟨v174, rfl, ho0, hb⟩; refine ⟨_, rfl, ?_⟩; have HO175 := ak (Kd.R_lower (Kd.R_new' ho0 (Kd.R_lt (rk HO171))) (below_size (bl1 HB GE168))); replace HO171 := ak (Kd.R_elder' (rk HO171) (Kd.R_base ho0) hb); replace BK168 := ak (blk_below (bk BK168) hb); replace HB := ak (below_step (bl1 HB GE168) hb); (try clear hb); (try clear hb2); (try clear hk); (try clear hi); (try clear ho0)))
 go_ret
 exact ⟨_, by rfl, by exact Kd.R_mono HO175.out (fun _ hk => trivial), bl1 HB GE168⟩

end Go.Proofs.Ytddkaiegnohkcaa.F
