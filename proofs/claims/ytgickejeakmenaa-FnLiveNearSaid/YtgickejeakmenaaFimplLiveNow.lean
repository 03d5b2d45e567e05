-- Printed by wip/px/px.py of this claim's repository (the kit's printer, extended there). Lean checks it.
import Derived.Test.YtgickejeakmenaaFKinds
import Derived.Test.YtgickejeakmenaaFimplLiveOk
import Derived.Test.YtgickejeakmenaaFimplLivenow
namespace Go.Proofs.Ytgickejeakmenaa.F
open Go.RowKit Go.Proofs.YtgickejeakmenaaW.PrintWords Go.Proofs.YtgickejeakmenaaW.PrintLast Go.Proofs.YtgickejeakmenaaW.PrintMore
attribute [local go_sem] max2_int min2_int max_two min_two max_three min_three max_four min_four   -- for this text's walks alone
set_option linter.unusedVariables false
set_option linter.unusedSimpArgs false

/-! ### impl_LiveNow: function 30 -/
def impl_LiveNow.f (k : Nat) (a0_0 : Int) (l0_1 : List (S41)) (l0_2 : List (S113)) : Option (Int × (List (S41))) := (impl_LiveOk.f k a0_0 l0_1 l0_2).bind fun t846 => (if t846 = true then ((impl_Live_now.f k a0_0 l0_1 l0_2).bind fun bt847 => (some (bt847.1, bt847.2))) else (some (0, ([] : List (S41)))))
theorem impl_LiveNow.mono : ∀ a0 a1 a2 k, LeO (impl_LiveNow.f k a0 a1 a2) (impl_LiveNow.f (k + 1) a0 a1 a2) := by
 intro a0 a1 a2 k
 unfold impl_LiveNow.f
 repeat' first | (with_reducible exact impl_LiveOk.mono _ _ _ _) | (with_reducible exact impl_Live_now.mono _ _ _ _) | (with_reducible exact LeO.refl _) | (with_reducible refine LeO.ite ?_ ?_) | (with_reducible refine LeO.bind ?_ (fun _ => ?_))
set_option maxHeartbeats 8000000 in
set_option maxRecDepth 100000 in
theorem impl_LiveNow.calls (k : Nat) (a0_0 : Int) (A0_1 : Option Addr) (c0_1 : Nat) (l0_1 : List (S41)) (A0_2 : Option Addr) (c0_2 : Nat) (l0_2 : List (S113)) (r1 : Int) (r2 : List (S41)) (w : World) (hr0_1 : Kd.C k41 w A0_1 l0_1.length l0_1) (hc0_1 : l0_1.length ≤ c0_1) (hr0_2 : Kd.C k113 w A0_2 l0_2.length l0_2) (hc0_2 : l0_2.length ≤ c0_2) (h : impl_LiveNow.f k a0_0 l0_1 l0_2 = some (r1, r2)) :
  Calls Try.prog 30 #[.agg #[.int .i64 a0_0, .slice A0_1 l0_1.length c0_1, .slice A0_2 l0_2.length c0_2]] w fun e w' => ∃ v1_ : Value, e = .returned (.agg #[.int .i64 r1, v1_]) ∧ Kd.R k41 41 w' w.heap.size (fun _ => True) v1_ r2 ∧ Below w.heap.size w w' := by
 have hu44 := Try.underlying44
 have hu25 := Try.underlying25
 have HR0_1 := ak hr0_1
 have HC0_1 := ak hc0_1
 clear hr0_1 hc0_1
 have HR0_2 := ak hr0_2
 have HC0_2 := ak hc0_2
 clear hr0_2 hc0_2
 have HB := ak (Below.refl w.heap.size w)
 have H : ((impl_LiveOk.f k a0_0 l0_1 l0_2).bind fun t846 => (if t846 = true then ((impl_Live_now.f k a0_0 l0_1 l0_2).bind fun bt847 => (some (bt847.1, bt847.2))) else (some (0, ([] : List (S41)))))) = some (r1, r2) := h
 clear h
 replace H := Option.bind_eq_some_iff.mp H
 obtain ⟨t846, A20, H⟩ := H
 have A2 := ak A20
 clear A20
 by_cases c3 : t846 = true
 rotate_left
 ·replace c3 := Bool.eq_false_iff.mpr c3
  subst c3
  rw [if_neg (show ¬ (false = true) by decide)] at H
  simp only [Option.some.injEq, Prod.mk.injEq] at H
  obtain ⟨rfl, rfl⟩ := H
  go_enter Try.func30, Try.ntmps30
  go_wp2_with (first | ((with_reducible refine gate_dst (N := 1) rfl ?_); refine box_event ?hg (N := 1) ?hd (cs := #[.int .i64 a0_0, .slice A0_1 l0_1.length c0_1, .slice A0_2 l0_2.length c0_2]) (t := 44) ?hr ?_; (case hd => rfl); (case hg => rfl); (case hr => (go_simp; done)); intro gb844 hg w14 hbox hb; have BK844 := ak (hbox); have GW844 := ak ((by rw [hg]; exact (below_size (bl HB)) : w.heap.size ≤ gb844)); have GE844 := ak ((by rw [hg]; exact (below_size (bl HB)) : w.heap.size ≤ gb844)); replace HB := ak (below_step (bl HB) hb); clear hb hbox hg) | ((with_reducible refine gate_dst (N := 2) rfl ?_); refine box_event ?hg (N := 2) ?hd (cs := #[.int .i64 0, .slice none 0 0]) (t := 25) ?hr ?_; (case hd => rfl); (case hg => rfl); (case hr => (go_simp; done)); intro gb845 hg w15 hbox hb; have BK845 := ak (hbox); have GW845 := ak ((by rw [hg]; exact (below_size (bl1 HB GE844)) : w.heap.size ≤ gb845)); have GE845 := ak ((by rw [hg]; exact (below_size (bl1 HB GE844)) : w.heap.size ≤ gb845)); replace HB := ak (below_step (bl1 HB GE844) hb); have NB844_845 := ak ((by rw [hg]; exact Nat.ne_of_lt (blk_lt (bk BK844)) : gb844 ≠ gb845)); have NB845_844 := ak ((by rw [hg]; exact Nat.ne_of_gt (blk_lt (bk BK844)) : gb845 ≠ gb844)); replace BK844 := ak (blk_below (bk BK844) hb); clear hb hbox hg; have hnb16 := NB844_845.out; have hnc16 := NB845_844.out; have hcz17_0 := bc w15 BK844 0 (.int .i64 a0_0) rfl; have hcz17_1 := bc w15 BK844 1 (.slice A0_1 l0_1.length c0_1) rfl; have hcz17_2 := bc w15 BK844 2 (.slice A0_2 l0_2.length c0_2) rfl; have hfz17_0 := fz BK844 0; have hfz17_1 := fz BK844 1; have hfz17_2 := fz BK844 2) | ((with_reducible refine gate_callee (f := 72) rfl ?_); refine goesL_ (some 4) rfl rfl Try.func72 (by kernel_rfl) rfl #[.agg #[.int .i64 a0_0, .slice A0_1 l0_1.length c0_1, .slice A0_2 l0_2.length c0_2]] rfl (by (try simp only [List.map_toArray, List.map_cons, List.map_nil]); rfl) ?_; (with_reducible refine (impl_LiveOk.calls k a0_0 _ _ l0_1 _ _ l0_2 false _ ?side1 ?side2 ?side3 ?side4 A2.out).mono ?_); (case side1 => repeat (exact (Kd.C_below HR0_1.out HB.out))); (case side2 => exact HC0_1.out); (case side3 => repeat (exact (Kd.C_below HR0_2.out HB.out))); (case side4 => exact HC0_2.out); rintro e w18 ⟨rfl, hb⟩; refine ⟨_, rfl, ?_⟩; replace BK844 := ak (blk_below (bk BK844) hb); replace BK845 := ak (blk_below (bk BK845) hb); replace HB := ak (below_step (bl2 HB GE844 GE845) hb); (try clear hb); (try clear hb2); (try clear hk); (try clear hi); have hcz19_0 := bc w18 BK845 0 (.int .i64 0) rfl; have hcz19_1 := bc w18 BK845 1 (.slice none 0 0) rfl; have hfz19_0 := fz BK845 0; have hfz19_1 := fz BK845 1))
  refine bodyPost_ret (results_cell_row rfl _ _ gb845 25 #[.int .i64 0, .slice none 0 0] (0, 0) _ rfl (by refine blk_put (cs := #[.int .i64 0, .slice none 0 0]) ?_ 1 _ rfl; refine blk_put (cs := #[.int .i64 0, .slice none 0 0]) ?_ 0 _ rfl; exact BK845.out) Try.underlying25 rfl (by kernel_rfl)) rfl ?_
  exact ⟨_, by rfl, by exact Kd.R_nil _ _ _ _ _, bl2 HB GE844 GE845⟩
 subst c3
 rw [if_pos rfl] at H
 replace H := Option.bind_eq_some_iff.mp H
 obtain ⟨⟨t847, t848⟩, A40, H⟩ := H
 have A4 := ak A40
 clear A40
 simp only [Option.some.injEq, Prod.mk.injEq] at H
 obtain ⟨rfl, rfl⟩ := H
 go_enter Try.func30, Try.ntmps30
 go_wp2_with (first | ((with_reducible refine gate_dst (N := 1) rfl ?_); refine box_event ?hg (N := 1) ?hd (cs := #[.int .i64 a0_0, .slice A0_1 l0_1.length c0_1, .slice A0_2 l0_2.length c0_2]) (t := 44) ?hr ?_; (case hd => rfl); (case hg => rfl); (case hr => (go_simp; done)); intro gb844 hg w5 hbox hb; have BK844 := ak (hbox); have GW844 := ak ((by rw [hg]; exact (below_size (bl HB)) : w.heap.size ≤ gb844)); have GE844 := ak ((by rw [hg]; exact (below_size (bl HB)) : w.heap.size ≤ gb844)); replace HB := ak (below_step (bl HB) hb); clear hb hbox hg) | ((with_reducible refine gate_dst (N := 2) rfl ?_); refine box_event ?hg (N := 2) ?hd (cs := #[.int .i64 0, .slice none 0 0]) (t := 25) ?hr ?_; (case hd => rfl); (case hg => rfl); (case hr => (go_simp; done)); intro gb845 hg w6 hbox hb; have BK845 := ak (hbox); have GW845 := ak ((by rw [hg]; exact (below_size (bl1 HB GE844)) : w.heap.size ≤ gb845)); have GE845 := ak ((by rw [hg]; exact (below_size (bl1 HB GE844)) : w.heap.size ≤ gb845)); replace HB := ak (below_step (bl1 HB GE844) hb); have NB844_845 := ak ((by rw [hg]; exact Nat.ne_of_lt (blk_lt (bk BK844)) : gb844 ≠ gb845)); have NB845_844 := ak ((by rw [hg]; exact Nat.ne_of_gt (blk_lt (bk BK844)) : gb845 ≠ gb844)); replace BK844 := ak (blk_below (bk BK844) hb); clear hb hbox hg; have hnb7 := NB844_845.out; have hnc7 := NB845_844.out; have hcz8_0 := bc w6 BK844 0 (.int .i64 a0_0) rfl; have hcz8_1 := bc w6 BK844 1 (.slice A0_1 l0_1.length c0_1) rfl; have hcz8_2 := bc w6 BK844 2 (.slice A0_2 l0_2.length c0_2) rfl; have hfz8_0 := fz BK844 0; have hfz8_1 := fz BK844 1; have hfz8_2 := fz BK844 2) | ((with_reducible refine gate_callee (f := 72) rfl ?_); refine goesL_ (some 4) rfl rfl Try.func72 (by kernel_rfl) rfl #[.agg #[.int .i64 a0_0, .slice A0_1 l0_1.length c0_1, .slice A0_2 l0_2.length c0_2]] rfl (by (try simp only [List.map_toArray, List.map_cons, List.map_nil]); rfl) ?_; (with_reducible refine (impl_LiveOk.calls k a0_0 _ _ l0_1 _ _ l0_2 true _ ?side1 ?side2 ?side3 ?side4 A2.out).mono ?_); (case side1 => repeat (exact (Kd.C_below HR0_1.out HB.out))); (case side2 => exact HC0_1.out); (case side3 => repeat (exact (Kd.C_below HR0_2.out HB.out))); (case side4 => exact HC0_2.out); rintro e w9 ⟨rfl, hb⟩; refine ⟨_, rfl, ?_⟩; replace BK844 := ak (blk_below (bk BK844) hb); replace BK845 := ak (blk_below (bk BK845) hb); replace HB := ak (below_step (bl2 HB GE844 GE845) hb); (try clear hb); (try clear hb2); (try clear hk); (try clear hi); have hcz10_0 := bc w9 BK844 0 (.int .i64 a0_0) rfl; have hcz10_1 := bc w9 BK844 1 (.slice A0_1 l0_1.length c0_1) rfl; have hcz10_2 := bc w9 BK844 2 (.slice A0_2 l0_2.length c0_2) rfl; have hfz10_0 := fz BK844 0; have hfz10_1 := fz BK844 1; have hfz10_2 := fz BK844 2) | ((with_reducible refine gate_callee (f := 74) rfl ?_); refine goesL_ (some 8) rfl rfl Try.func74 (by kernel_rfl) rfl #[.agg #[.int .i64 a0_0, .slice A0_1 l0_1.length c0_1, .slice A0_2 l0_2.length c0_2]] rfl (by (try simp only [List.map_toArray, List.map_cons, List.map_nil]); rfl) ?_; (with_reducible refine (impl_Live_now.calls k a0_0 _ _ l0_1 _ _ l0_2 t847 t848 _ ?side1 ?side2 ?side3 ?side4 A4.out).mono ?_); (case side1 => repeat (exact (Kd.C_below HR0_1.out HB.out))); (case side2 => exact HC0_1.out); (case side3 => repeat (exact (Kd.C_below HR0_2.out HB.out))); (case side4 => exact HC0_2.out); rintro e w11 ⟨v849, rfl, ho0, hb⟩; refine ⟨_, rfl, ?_⟩; have HO850 := ak (Kd.R_lower ho0 (below_size (bl2 HB GE844 GE845))); replace BK844 := ak (blk_below (bk BK844) hb); replace BK845 := ak (blk_below (bk BK845) hb); replace HB := ak (below_step (bl2 HB GE844 GE845) hb); (try clear hb); (try clear hb2); (try clear hk); (try clear hi); (try clear ho0); have hcz12_0 := bc w11 BK845 0 (.int .i64 0) rfl; have hcz12_1 := bc w11 BK845 1 (.slice none 0 0) rfl; have hfz12_0 := fz BK845 0; have hfz12_1 := fz BK845 1; obtain ⟨Ao13, co13, eo13⟩ := Kd.R_slice HO850.out; subst eo13))
 refine bodyPost_ret (results_cell_row rfl _ _ gb845 25 #[.int .i64 t847, .slice Ao13 t848.length co13] (0, 0) _ rfl (by refine blk_put (cs := #[.int .i64 t847, .slice none 0 0]) ?_ 1 _ rfl; refine blk_put (cs := #[.int .i64 0, .slice none 0 0]) ?_ 0 _ rfl; exact BK845.out) Try.underlying25 rfl (by kernel_rfl)) rfl ?_
 exact ⟨_, by rfl, by exact Kd.R_mono (Kd.R_far (p := ⟨gb845, 1, none⟩) (Kd.R_far (p := ⟨gb845, 0, none⟩) (Kd.R_types HO850.out BK845.out (by decide)) (fun _ hk => hk.2) (.int .i64 t847)) (fun _ hk => hk.2) (.slice Ao13 t848.length co13)) (fun _ hk => trivial), bl2 HB GE844 GE845⟩

end Go.Proofs.Ytgickejeakmenaa.F
