-- Printed by wip/px/px.py of this claim's repository (the kit's printer, extended there). Lean checks it.
import Derived.Test.YtddkaiegnohkcaaFKinds
import Derived.Test.YtddkaiegnohkcaaFimplPairAll
import Derived.Test.YtddkaiegnohkcaaFlawsNet
import Derived.Test.YtddkaiegnohkcaaFlawsNet
import Derived.Test.YtddkaiegnohkcaaFlawsNet
import Derived.Test.YtddkaiegnohkcaaFspecPairAll
import Derived.Test.YtddkaiegnohkcaaFlawseqPairS
import Derived.Test.YtddkaiegnohkcaaFlawsMarkInt
import Derived.Test.YtddkaiegnohkcaaFlawsmarkPairS
import Derived.Test.YtddkaiegnohkcaaFlawsheldPairS
namespace Go.Proofs.Ytddkaiegnohkcaa.F
open Go.RowKit Go.Proofs.YtddkaiegnohkcaaW.PrintWords Go.Proofs.YtddkaiegnohkcaaW.PrintLast Go.Proofs.YtddkaiegnohkcaaW.PrintMore
attribute [local go_sem] max2_int min2_int max_two min_two max_three min_three max_four min_four   -- for this text's walks alone
set_option linter.unusedVariables false
set_option linter.unusedSimpArgs false

/-! ### laws_FnExactPairAll: function 5 -/
def laws_FnExactPairAll.j0 : Nat → Int → Int → List (S35) → List (S35) → Bool → Int → List (S95) → Option (Bool)
 | 0, _, _, _, _, _, _, _ => none
 | k + 1, x1, x2, x8, x10, x50, x451000, x451001 => if x50 = true then (some false) else ((laws_markPairS.f k x10 1).bind fun bt476 => ((laws_heldPairS.f k bt476.2 1).bind fun t478 => (if t478 < 0 then (some false) else (if t478 = bt476.1 then ((laws_toNet.f k x451000 x451001).bind fun bt479 => ((impl_PairAll.f k bt479.1 bt479.2 x1 x2).bind fun t483 => ((laws_eqPairS.f k t483 x8).bind fun t486 => (if t486 = true then ((laws_heldPairS.f k bt476.2 1).bind fun t487 => (if t487 < 0 then (some false) else (if t487 = bt476.1 then (some true) else (some false)))) else (some false))))) else (some false)))))
def laws_FnExactPairAll.f (k : Nat) (a0_0 : Int) (l0_1 : List (S95)) (a1 : Int) (a2 : Int) : Option (Bool) := (laws_szNet.f a0_0 l0_1 1048576).bind fun t451 => (if t451 < 0 then (some true) else ((laws_toNet.f k a0_0 l0_1).bind fun bt452 => ((spec_PairAll.f k bt452.1 bt452.2 a1 a2).bind fun t456 => ((laws_toNet.f k a0_0 l0_1).bind fun bt459 => ((impl_PairAll.f k bt459.1 bt459.2 a1 a2).bind fun t464 => ((laws_eqPairS.f k t464 t456).bind fun t467 => (if t467 = true then ((laws_toNet.f k a0_0 l0_1).bind fun bt468 => ((laws_eqNet.f k bt459.1 bt459.2 bt468.1 bt468.2).bind fun t472 => (if t472 = true then ((laws_markNet.f k bt459.1 bt459.2 1).bind fun bt473 => (if bt473.1 < 0 then (laws_FnExactPairAll.j0 k a1 a2 t456 t464 true a0_0 l0_1) else ((laws_eqPairS.f k t464 t456).bind fun t475 => (laws_FnExactPairAll.j0 k a1 a2 t456 t464 (!t475) a0_0 l0_1)))) else (some false)))) else (some false))))))))
theorem laws_FnExactPairAll.mono_l : ∀ k, (∀ y0 y1 y2 y3 y4 y5 y6, LeO (laws_FnExactPairAll.j0 k y0 y1 y2 y3 y4 y5 y6) (laws_FnExactPairAll.j0 (k + 1) y0 y1 y2 y3 y4 y5 y6))
 | 0 => fun _ _ _ _ _ _ _ r h => by simp [laws_FnExactPairAll.j0] at h
 | k + 1 => by
  have ih0 := laws_FnExactPairAll.mono_l k
  ·intro y0 y1 y2 y3 y4 y5 y6
   unfold laws_FnExactPairAll.j0
   repeat' first | (with_reducible exact impl_PairAll.mono _ _ _ _ _) | (with_reducible exact laws_eqPairS.mono _ _ _) | (with_reducible exact laws_heldPairS.mono _ _ _) | (with_reducible exact laws_markPairS.mono _ _ _) | (with_reducible exact laws_toNet.mono _ _ _) | (with_reducible exact LeO.refl _) | (with_reducible refine LeO.ite ?_ ?_) | (with_reducible refine LeO.bind ?_ (fun _ => ?_))
theorem laws_FnExactPairAll.mono : ∀ a0 a1 a2 a3 k, LeO (laws_FnExactPairAll.f k a0 a1 a2 a3) (laws_FnExactPairAll.f (k + 1) a0 a1 a2 a3) := by
 intro a0 a1 a2 a3 k
 have ih0 := laws_FnExactPairAll.mono_l k
 unfold laws_FnExactPairAll.f
 repeat' first | (with_reducible exact ih0 _ _ _ _ _ _ _) | (with_reducible exact impl_PairAll.mono _ _ _ _ _) | (with_reducible exact laws_eqNet.mono _ _ _ _ _) | (with_reducible exact laws_eqPairS.mono _ _ _) | (with_reducible exact laws_markNet.mono _ _ _ _) | (with_reducible exact laws_toNet.mono _ _ _) | (with_reducible exact spec_PairAll.mono _ _ _ _ _) | (with_reducible exact LeO.refl _) | (with_reducible refine LeO.ite ?_ ?_) | (with_reducible refine LeO.bind ?_ (fun _ => ?_))
set_option maxHeartbeats 8000000 in
set_option maxRecDepth 100000 in
theorem laws_FnExactPairAll.calls (k : Nat) (a0_0 : Int) (A0_1 : Option Addr) (c0_1 : Nat) (l0_1 : List (S95)) (a1 : Int) (a2 : Int) (r : Bool) (w : World) (hr0_1 : Kd.C k95 w A0_1 l0_1.length l0_1) (hc0_1 : l0_1.length ≤ c0_1) (h : laws_FnExactPairAll.f k a0_0 l0_1 a1 a2 = some r) (hr_ : r = true) :
  Calls Try.prog 5 #[.agg #[.int .i64 a0_0, .slice A0_1 l0_1.length c0_1], .int .i64 a1, .int .i64 a2] w fun e w' => e = .returned (.bool r) ∧ Below w.heap.size w w' := by
 have hu40 := Try.underlying40
 have hu25 := Try.underlying25
 have HR0_1 := ak hr0_1
 have HC0_1 := ak hc0_1
 clear hr0_1 hc0_1
 have HB := ak (Below.refl w.heap.size w)
 have H : ((laws_szNet.f a0_0 l0_1 1048576).bind fun t451 => (if t451 < 0 then (some true) else ((laws_toNet.f k a0_0 l0_1).bind fun bt452 => ((spec_PairAll.f k bt452.1 bt452.2 a1 a2).bind fun t456 => ((laws_toNet.f k a0_0 l0_1).bind fun bt459 => ((impl_PairAll.f k bt459.1 bt459.2 a1 a2).bind fun t464 => ((laws_eqPairS.f k t464 t456).bind fun t467 => (if t467 = true then ((laws_toNet.f k a0_0 l0_1).bind fun bt468 => ((laws_eqNet.f k bt459.1 bt459.2 bt468.1 bt468.2).bind fun t472 => (if t472 = true then ((laws_markNet.f k bt459.1 bt459.2 1).bind fun bt473 => (if bt473.1 < 0 then (laws_FnExactPairAll.j0 k a1 a2 t456 t464 true a0_0 l0_1) else ((laws_eqPairS.f k t464 t456).bind fun t475 => (laws_FnExactPairAll.j0 k a1 a2 t456 t464 (!t475) a0_0 l0_1)))) else (some false)))) else (some false))))))))) = some r := h
 clear h
 replace H := Option.bind_eq_some_iff.mp H
 obtain ⟨t451, A40, H⟩ := H
 have A4 := ak A40
 clear A40
 by_cases c5 : t451 < 0
 ·rw [if_pos c5] at H
  have c5b0 : decide (t451 < 0) = true := decide_eq_true c5
  clear c5
  obtain rfl := Option.some.inj H
  go_enter Try.func5, Try.ntmps5
  go_wp2_with (first | ((with_reducible refine gate_dst (N := 3) rfl ?_); refine box_event ?hg (N := 3) ?hd (cs := #[.int .i64 a0_0, .slice A0_1 l0_1.length c0_1]) (t := 40) ?hr ?_; (case hd => rfl); (case hg => rfl); (case hr => (go_simp; done)); intro gb450 hg w6 hbox hb; have BK450 := ak (hbox); have GW450 := ak ((by rw [hg]; exact (below_size (bl HB)) : w.heap.size ≤ gb450)); have GE450 := ak ((by rw [hg]; exact (below_size (bl HB)) : w.heap.size ≤ gb450)); replace HB := ak (below_step (bl HB) hb); clear hb hbox hg; have hcz7_0 := bc w6 BK450 0 (.int .i64 a0_0) rfl; have hcz7_1 := bc w6 BK450 1 (.slice A0_1 l0_1.length c0_1) rfl; have hfz7_0 := fz BK450 0; have hfz7_1 := fz BK450 1) | ((with_reducible refine gate_callee (f := 17) rfl ?_); refine goesL_ (some 17) rfl rfl Try.func17 (by kernel_rfl) rfl #[.agg #[.int .i64 a0_0, .slice A0_1 l0_1.length c0_1], .int .i64 1048576] rfl (by (try simp only [List.map_toArray, List.map_cons, List.map_nil]); rfl) ?_; (with_reducible refine (laws_szNet.calls a0_0 _ _ l0_1 1048576 t451 _ ?side1 ?side2 A4.out).mono ?_); (case side1 => repeat (exact (Kd.C_below HR0_1.out HB.out))); (case side2 => exact HC0_1.out); rintro e w8 ⟨rfl, hb⟩; refine ⟨_, rfl, ?_⟩; replace BK450 := ak (blk_below (bk BK450) hb); replace HB := ak (below_step (bl1 HB GE450) hb); (try clear hb); (try clear hb2); (try clear hk); (try clear hi)))
  go_ret
  exact ⟨by rfl, bl1 HB GE450⟩
 rw [if_neg c5] at H
 have c5b0 : decide (t451 < 0) = false := decide_eq_false c5
 clear c5
 replace H := Option.bind_eq_some_iff.mp H
 obtain ⟨⟨t452, t453⟩, A90, H⟩ := H
 have A9 := ak A90
 clear A90
 replace H := Option.bind_eq_some_iff.mp H
 obtain ⟨t456, A100, H⟩ := H
 have A10 := ak A100
 clear A100
 replace H := Option.bind_eq_some_iff.mp H
 obtain ⟨⟨t459, t460⟩, A110, H⟩ := H
 have A11 := ak A110
 clear A110
 replace H := Option.bind_eq_some_iff.mp H
 obtain ⟨t464, A120, H⟩ := H
 have A12 := ak A120
 clear A120
 replace H := Option.bind_eq_some_iff.mp H
 obtain ⟨t467, A130, H⟩ := H
 have A13 := ak A130
 clear A130
 by_cases c14 : t467 = true
 rotate_left
 ·replace c14 := Bool.eq_false_iff.mpr c14
  subst c14
  rw [if_neg (show ¬ (false = true) by decide)] at H
  exact absurd ((Option.some.inj H).trans hr_) Bool.false_ne_true
 subst c14
 rw [if_pos rfl] at H
 replace H := Option.bind_eq_some_iff.mp H
 obtain ⟨⟨t468, t469⟩, A150, H⟩ := H
 have A15 := ak A150
 clear A150
 replace H := Option.bind_eq_some_iff.mp H
 obtain ⟨t472, A160, H⟩ := H
 have A16 := ak A160
 clear A160
 by_cases c17 : t472 = true
 rotate_left
 ·replace c17 := Bool.eq_false_iff.mpr c17
  subst c17
  rw [if_neg (show ¬ (false = true) by decide)] at H
  exact absurd ((Option.some.inj H).trans hr_) Bool.false_ne_true
 subst c17
 rw [if_pos rfl] at H
 replace H := Option.bind_eq_some_iff.mp H
 obtain ⟨⟨t473, t474⟩, A180, H⟩ := H
 have A18 := ak A180
 clear A180
 have HC19 := ak H
 clear H
 go_enter Try.func5, Try.ntmps5
 try go_wp2_with (first | ((with_reducible refine gate_dst (N := 3) rfl ?_); refine box_event ?hg (N := 3) ?hd (cs := #[.int .i64 a0_0, .slice A0_1 l0_1.length c0_1]) (t := 40) ?hr ?_; (case hd => rfl); (case hg => rfl); (case hr => (go_simp; done)); intro gb450 hg w20 hbox hb; have BK450 := ak (hbox); have GW450 := ak ((by rw [hg]; exact (below_size (bl HB)) : w.heap.size ≤ gb450)); have GE450 := ak ((by rw [hg]; exact (below_size (bl HB)) : w.heap.size ≤ gb450)); replace HB := ak (below_step (bl HB) hb); clear hb hbox hg; have hcz21_0 := bc w20 BK450 0 (.int .i64 a0_0) rfl; have hcz21_1 := bc w20 BK450 1 (.slice A0_1 l0_1.length c0_1) rfl; have hfz21_0 := fz BK450 0; have hfz21_1 := fz BK450 1) | ((with_reducible refine gate_callee (f := 17) rfl ?_); refine goesL_ (some 17) rfl rfl Try.func17 (by kernel_rfl) rfl #[.agg #[.int .i64 a0_0, .slice A0_1 l0_1.length c0_1], .int .i64 1048576] rfl (by (try simp only [List.map_toArray, List.map_cons, List.map_nil]); rfl) ?_; (with_reducible refine (laws_szNet.calls a0_0 _ _ l0_1 1048576 t451 _ ?side1 ?side2 A4.out).mono ?_); (case side1 => repeat (exact (Kd.C_below HR0_1.out HB.out))); (case side2 => exact HC0_1.out); rintro e w22 ⟨rfl, hb⟩; refine ⟨_, rfl, ?_⟩; replace BK450 := ak (blk_below (bk BK450) hb); replace HB := ak (below_step (bl1 HB GE450) hb); (try clear hb); (try clear hb2); (try clear hk); (try clear hi); have hcz23_0 := bc w22 BK450 0 (.int .i64 a0_0) rfl; have hcz23_1 := bc w22 BK450 1 (.slice A0_1 l0_1.length c0_1) rfl; have hfz23_0 := fz BK450 0; have hfz23_1 := fz BK450 1) | ((with_reducible refine gate_callee (f := 19) rfl ?_); refine goesL_ (some 21) rfl rfl Try.func19 (by kernel_rfl) rfl #[.agg #[.int .i64 a0_0, .slice A0_1 l0_1.length c0_1]] rfl (by (try simp only [List.map_toArray, List.map_cons, List.map_nil]); rfl) ?_; (with_reducible refine (laws_toNet.calls k a0_0 _ _ l0_1 t452 t453 _ ?side1 ?side2 A9.out).mono ?_); (case side1 => repeat (exact (Kd.C_below HR0_1.out HB.out))); (case side2 => exact HC0_1.out); rintro e w24 ⟨v454, rfl, ho0, hb⟩; refine ⟨_, rfl, ?_⟩; have HO455 := ak (Kd.R_lower ho0 (below_size (bl1 HB GE450))); replace BK450 := ak (blk_below (bk BK450) hb); replace HB := ak (below_step (bl1 HB GE450) hb); (try clear hb); (try clear hb2); (try clear hk); (try clear hi); (try clear ho0); obtain ⟨Ao25, co25, eo25⟩ := Kd.R_slice HO455.out; subst eo25) | ((with_reducible refine gate_callee (f := 22) rfl ?_); refine goesL_ (some 24) rfl rfl Try.func22 (by kernel_rfl) rfl #[.agg #[.int .i64 t452, .slice Ao25 t453.length co25], .int .i64 a1, .int .i64 a2] rfl (by (try simp only [List.map_toArray, List.map_cons, List.map_nil]); rfl) ?_; (with_reducible refine (spec_PairAll.calls k t452 _ _ t453 a1 a2 t456 _ ?side1 ?side2 A10.out).mono ?_); (case side1 => repeat (exact (Kd.R_reads' HO455.out).2.2)); (case side2 => exact (Kd.R_reads' HO455.out).2.1); rintro e w26 ⟨v457, rfl, ho0, hb⟩; refine ⟨_, rfl, ?_⟩; replace HO455 := ak (Kd.R_below (rk HO455) hb); have HO458 := ak (Kd.R_lower ho0 (below_size (bl1 HB GE450))); replace BK450 := ak (blk_below (bk BK450) hb); replace HB := ak (below_step (bl1 HB GE450) hb); (try clear hb); (try clear hb2); (try clear hk); (try clear hi); (try clear ho0); have hcz27_0 := bc w26 BK450 0 (.int .i64 a0_0) rfl; have hcz27_1 := bc w26 BK450 1 (.slice A0_1 l0_1.length c0_1) rfl; have hfz27_0 := fz BK450 0; have hfz27_1 := fz BK450 1) | ((with_reducible refine gate_callee (f := 19) rfl ?_); refine goesL_ (some 26) rfl rfl Try.func19 (by kernel_rfl) rfl #[.agg #[.int .i64 a0_0, .slice A0_1 l0_1.length c0_1]] rfl (by (try simp only [List.map_toArray, List.map_cons, List.map_nil]); rfl) ?_; (with_reducible refine (laws_toNet.calls k a0_0 _ _ l0_1 t459 t460 _ ?side1 ?side2 A11.out).mono ?_); (case side1 => repeat (exact (Kd.C_below HR0_1.out HB.out))); (case side2 => exact HC0_1.out); rintro e w28 ⟨v461, rfl, ho0, hb⟩; refine ⟨_, rfl, ?_⟩; replace HO458 := ak (Kd.R_below (rk HO458) hb); have HO462 := ak (Kd.R_lower (Kd.R_new' ho0 (Kd.R_lt (rk HO455))) (below_size (bl1 HB GE450))); replace HO455 := ak (Kd.R_elder' (rk HO455) (Kd.R_base ho0) hb); replace BK450 := ak (blk_below (bk BK450) hb); replace HB := ak (below_step (bl1 HB GE450) hb); (try clear hb); (try clear hb2); (try clear hk); (try clear hi); (try clear ho0)) | ((with_reducible refine gate_dst (N := 9) rfl ?_); refine box_event ?hg (N := 9) ?hd (cs := #[.int .i64 0, .slice none 0 0]) (t := 25) ?hr ?_; (case hd => rfl); (case hg => rfl); (case hr => (go_simp; done)); intro gb463 hg w29 hbox hb; replace HO455 := ak (Kd.R_below (rk HO455) hb); replace HO458 := ak (Kd.R_below (rk HO458) hb); replace HO462 := ak (Kd.R_below (rk HO462) hb); have BK463 := ak (hbox); have GW463 := ak ((by rw [hg]; exact (below_size (bl1 HB GE450)) : w.heap.size ≤ gb463)); have GE463 := ak ((by rw [hg]; exact (below_size (bl1 HB GE450)) : w.heap.size ≤ gb463)); replace HB := ak (below_step (bl1 HB GE450) hb); have NB450_463 := ak ((by rw [hg]; exact Nat.ne_of_lt (blk_lt (bk BK450)) : gb450 ≠ gb463)); have NB463_450 := ak ((by rw [hg]; exact Nat.ne_of_gt (blk_lt (bk BK450)) : gb463 ≠ gb450)); replace BK450 := ak (blk_below (bk BK450) hb); clear hb hbox hg; have hnb30 := NB463_450.out; have hnc30 := NB450_463.out; have hcz31_0 := bc w29 BK463 0 (.int .i64 0) rfl; have hcz31_1 := bc w29 BK463 1 (.slice none 0 0) rfl; have hfz31_0 := fz BK463 0; have hfz31_1 := fz BK463 1; obtain ⟨Ao32, co32, eo32⟩ := Kd.R_slice HO462.out; subst eo32) | ((with_reducible refine gate_callee (f := 14) rfl ?_); refine goesL_ (some 30) rfl rfl Try.func14 (by kernel_rfl) rfl #[.agg #[.int .i64 t459, .slice Ao32 t460.length co32], .int .i64 a1, .int .i64 a2] rfl (by (try simp only [List.map_toArray, List.map_cons, List.map_nil]); rfl) ?_; (with_reducible refine (impl_PairAll.calls k t459 _ _ t460 a1 a2 t464 _ ?side1 ?side2 A12.out).mono ?_); (case side1 => refine (Kd.R_reads' (e := 33) (base := w.heap.size) (ok := fun k_ => (True ∧ some k_ ≠ (.slice Ao25 t453.length co25 : Value).ownBlock)) (n := t460.length) (c := co32) ?_).2.2; exact (by exact (Kd.R_mono (Kd.R_far (p := ⟨gb463, 1, none⟩) (Kd.R_far (p := ⟨gb463, 0, none⟩) (Kd.R_types HO462.out BK463.out (by decide)) (fun _ hk => hk.2) (.int .i64 t459)) (fun _ hk => hk.2) (.slice Ao32 t460.length co32)) (fun _ h_ => h_.1)))); (case side2 => exact (Kd.R_reads' HO462.out).2.1); rintro e w33 ⟨v465, rfl, ho0, hb⟩; refine ⟨_, rfl, ?_⟩; replace HO455 := ak (Kd.R_below (by exact (Kd.R_mono (Kd.R_far (p := ⟨gb463, 1, none⟩) (Kd.R_far (p := ⟨gb463, 0, none⟩) (Kd.R_types HO455.out BK463.out (by decide)) (fun _ hk => hk.2) (.int .i64 t459)) (fun _ hk => hk.2) (.slice Ao32 t460.length co32)) (fun _ h_ => h_.1))) hb); replace HO462 := ak (Kd.R_below (by exact (Kd.R_mono (Kd.R_far (p := ⟨gb463, 1, none⟩) (Kd.R_far (p := ⟨gb463, 0, none⟩) (Kd.R_types HO462.out BK463.out (by decide)) (fun _ hk => hk.2) (.int .i64 t459)) (fun _ hk => hk.2) (.slice Ao32 t460.length co32)) (fun _ h_ => h_.1))) hb); have HO466 := ak (Kd.R_lower (Kd.R_new' ho0 (Kd.R_lt (by exact (Kd.R_mono (Kd.R_far (p := ⟨gb463, 1, none⟩) (Kd.R_far (p := ⟨gb463, 0, none⟩) (Kd.R_types HO458.out BK463.out (by decide)) (fun _ hk => hk.2) (.int .i64 t459)) (fun _ hk => hk.2) (.slice Ao32 t460.length co32)) (fun _ h_ => h_.1))))) (below_size (bl2 HB GE450 GE463))); replace HO458 := ak (Kd.R_elder' (by exact (Kd.R_mono (Kd.R_far (p := ⟨gb463, 1, none⟩) (Kd.R_far (p := ⟨gb463, 0, none⟩) (Kd.R_types HO458.out BK463.out (by decide)) (fun _ hk => hk.2) (.int .i64 t459)) (fun _ hk => hk.2) (.slice Ao32 t460.length co32)) (fun _ h_ => h_.1))) (Kd.R_base ho0) hb); replace BK450 := ak (blk_below (g := gb450) (o := .cells #[.int .i64 a0_0, .slice A0_1 l0_1.length c0_1] 40 (0, 0)) (by refine blk_far ?_ NB450_463.out _; refine blk_far ?_ NB450_463.out _; exact BK450.out) hb); replace BK463 := ak (blk_below (g := gb463) (o := .cells #[.int .i64 t459, .slice Ao32 t460.length co32] 25 (0, 0)) (by refine blk_put (cs := #[.int .i64 t459, .slice none 0 0]) ?_ 1 _ rfl; refine blk_put (cs := #[.int .i64 0, .slice none 0 0]) ?_ 0 _ rfl; exact BK463.out) hb); replace HB := ak (below_step (bl2 HB GE450 GE463) hb); (try clear hb); (try clear hb2); (try clear hk); (try clear hi); (try clear ho0); obtain ⟨Ao34, co34, eo34⟩ := Kd.R_slice HO466.out; subst eo34; obtain ⟨Ao35, co35, eo35⟩ := Kd.R_slice HO458.out; subst eo35) | ((with_reducible refine gate_callee (f := 23) rfl ?_); refine goesL_ (some 33) rfl rfl Try.func23 (by kernel_rfl) rfl #[.slice Ao34 t464.length co34, .slice Ao35 t456.length co35] rfl (by (try simp only [List.map_toArray, List.map_cons, List.map_nil]); rfl) ?_; (with_reducible refine (laws_eqPairS.calls k _ _ t464 _ _ t456 true _ ?side1 ?side2 ?side3 ?side4 A13.out).mono ?_); (case side1 => repeat (exact (Kd.R_reads' HO466.out).2.2)); (case side2 => exact (Kd.R_reads' HO466.out).2.1); (case side3 => repeat (exact (Kd.R_reads' HO458.out).2.2)); (case side4 => exact (Kd.R_reads' HO458.out).2.1); rintro e w36 ⟨rfl, hb⟩; refine ⟨_, rfl, ?_⟩; replace HO455 := ak (Kd.R_below (rk HO455) hb); replace HO458 := ak (Kd.R_below (rk HO458) hb); replace HO462 := ak (Kd.R_below (rk HO462) hb); replace HO466 := ak (Kd.R_below (rk HO466) hb); replace BK450 := ak (blk_below (bk BK450) hb); replace BK463 := ak (blk_below (bk BK463) hb); replace HB := ak (below_step (bl2 HB GE450 GE463) hb); (try clear hb); (try clear hb2); (try clear hk); (try clear hi)))
 replace HO455 := ak (Kd.R_drew HO455.out)
 replace HO458 := ak (Kd.R_drew HO458.out)
 replace HO462 := ak (Kd.R_drew HO462.out)
 replace HO466 := ak (Kd.R_drew HO466.out)
 replace BK450 := ak (blk_drew BK450.out)
 replace BK463 := ak (blk_drew BK463.out)
 replace HB := ak (below_drew1 HB.out)
 refine start_ (n := 5) (S := fun w' => w'.cell? ⟨gb463, 0, none⟩ = some (.int .i64 t459) ∧ w'.cell? ⟨gb463, 1, none⟩ = some (.slice Ao32 t460.length co32) ∧ w'.cell? ⟨gb450, 0, none⟩ = some (.int .i64 a0_0) ∧ w'.cell? ⟨gb450, 1, none⟩ = some (.slice A0_1 l0_1.length c0_1)) (ds := []) (ms 5 0) (by kernel_rfl) rfl (by kernel_rfl) ⟨(blk_cell BK463.out 0).trans rfl, (blk_cell BK463.out 1).trans rfl, (blk_cell BK450.out 0).trans rfl, (blk_cell BK450.out 1).trans rfl⟩ (fun hHeld => ?_)
 generalize w36.drew = w37 at HO455 HO458 HO462 HO466 BK450 BK463 HB hHeld ⊢
 refine take_ (i := 0) (N := some 35) (v := ?_) (a' := ?_) (ms 5 1) rfl rfl (by kernel_rfl) (fun _ _ _ h => h) (Or.inl ⟨by rfl, ?_⟩) hHeld ?_ ?_
 rotate_left
 ·rintro w' ⟨s0, s1, s2, s3⟩
  go_simp
  with_reducible rfl
 rotate_left
 ·simp only [SX]
  rfl
 refine take_ (i := 1) (N := some 36) (v := ?_) (a' := ?_) (ms 5 3) rfl rfl (by kernel_rfl) (fun _ _ _ h => h) (Or.inl ⟨by rfl, ?_⟩) hHeld ?_ ?_
 rotate_left
 ·rintro w' ⟨s0, s1, s2, s3⟩
  go_simp
  with_reducible rfl
 rotate_left
 ·simp only [SX]
  rfl
 refine one_ (i := 2) (N := some 37) (ms 5 7) rfl rfl (by kernel_rfl) (by decide) (fun K hK => ?_)
 refine goes_ Try.func19 (by kernel_rfl) rfl #[.agg #[.int .i64 a0_0, .slice A0_1 l0_1.length c0_1]] (by rfl) rfl rfl (by (try simp only [List.map_toArray, List.map_cons, List.map_nil]); rfl) ?_
 with_reducible refine (laws_toNet.calls k a0_0 _ _ l0_1 t468 t469 _ ?side1 ?side2 A15.out).mono ?_
 (case side1 => repeat (exact (Kd.C_below HR0_1.out HB.out)))
 (case side2 => exact HC0_1.out)
 rintro e w38 ⟨v470, rfl, ho0, hb⟩
 refine ⟨_, rfl, ?_⟩
 replace HO458 := ak (Kd.R_below (rk HO458) hb)
 replace HO466 := ak (Kd.R_below (rk HO466) hb)
 have HO471 := ak (Kd.R_lower (Kd.R_new' (Kd.R_new' ho0 (Kd.R_lt (rk HO455))) (Kd.R_lt (rk HO462))) (below_size (bl2 HB GE450 GE463)))
 replace HO455 := ak (Kd.R_elder' (rk HO455) (Kd.R_base ho0) hb)
 replace HO462 := ak (Kd.R_elder' (rk HO462) (Kd.R_base ho0) hb)
 replace BK450 := ak (blk_below (bk BK450) hb)
 replace BK463 := ak (blk_below (bk BK463) hb)
 replace HB := ak (below_step (bl2 HB GE450 GE463) hb)
 (try clear hb)
 (try clear hb2)
 (try clear hk)
 (try clear hi)
 (try clear ho0)
 obtain ⟨Ao39, co39, eo39⟩ := Kd.R_slice HO471.out
 (subst eo39)
 refine hK.out _ _ ⟨(blk_cell BK463.out 0).trans rfl, (blk_cell BK463.out 1).trans rfl, (blk_cell BK450.out 0).trans rfl, (blk_cell BK450.out 1).trans rfl⟩ (fun hHeld => ?_)
 clear hK K
 refine norm_ (a' := ?_) ?_ ?_
 rotate_left
 ·show Act.put _ (some 37) _ = _
  simp only [SX]
  rfl
 refine one_ (i := 3) (N := some 38) (ms 5 15) rfl rfl (by kernel_rfl) (by decide) (fun K hK => ?_)
 refine goes_ Try.func21 (by kernel_rfl) rfl #[.agg #[.int .i64 t459, .slice Ao32 t460.length co32], .agg #[.int .i64 t468, .slice Ao39 t469.length co39]] (by rfl) rfl rfl (by (try simp only [List.map_toArray, List.map_cons, List.map_nil]); rfl) ?_
 with_reducible refine (laws_eqNet.calls k t459 _ _ t460 t468 _ _ t469 true _ ?side1 ?side2 ?side3 ?side4 A16.out).mono ?_
 (case side1 => repeat (exact (Kd.R_reads' HO462.out).2.2))
 (case side2 => exact (Kd.R_reads' HO462.out).2.1)
 (case side3 => repeat (exact (Kd.R_reads' HO471.out).2.2))
 (case side4 => exact (Kd.R_reads' HO471.out).2.1)
 rintro e w40 ⟨rfl, hb⟩
 refine ⟨_, rfl, ?_⟩
 replace HO455 := ak (Kd.R_below (rk HO455) hb)
 replace HO458 := ak (Kd.R_below (rk HO458) hb)
 replace HO462 := ak (Kd.R_below (rk HO462) hb)
 replace HO466 := ak (Kd.R_below (rk HO466) hb)
 replace HO471 := ak (Kd.R_below (rk HO471) hb)
 replace BK450 := ak (blk_below (bk BK450) hb)
 replace BK463 := ak (blk_below (bk BK463) hb)
 replace HB := ak (below_step (bl2 HB GE450 GE463) hb)
 (try clear hb)
 (try clear hb2)
 (try clear hk)
 (try clear hi)
 refine hK.out _ _ ⟨(blk_cell BK463.out 0).trans rfl, (blk_cell BK463.out 1).trans rfl, (blk_cell BK450.out 0).trans rfl, (blk_cell BK450.out 1).trans rfl⟩ (fun hHeld => ?_)
 clear hK K
 refine norm_ (a' := ?_) ?_ ?_
 rotate_left
 ·show Act.put _ (some 38) _ = _
  simp only [SX]
  rfl
 refine pure_ (i := 4) (N := some 39) (v := ?_) (a' := ?_) (ms 5 31) rfl rfl (by kernel_rfl) (fun _ _ _ h => h) (Or.inl ⟨by rfl, ?_⟩) ?_ ?_
 rotate_left
 ·intro w'
  go_simp
  with_reducible rfl
 rotate_left
 ·simp only [SX]
  rfl
 refine done_ (by kernel_rfl) ?_
 have hcz41_0 := bc w40 BK463 0 (.int .i64 t459) rfl
 have hcz41_1 := bc w40 BK463 1 (.slice Ao32 t460.length co32) rfl
 have hfz41_0 := fz BK463 0
 have hfz41_1 := fz BK463 1
 go_upto_region 14 with (((with_reducible refine gate_callee (f := 24) rfl ?_); refine goesL_ (some 42) rfl rfl Try.func24 (by kernel_rfl) rfl #[.agg #[.int .i64 t459, .slice Ao32 t460.length co32], .int .i64 1] rfl (by (try simp only [List.map_toArray, List.map_cons, List.map_nil]); rfl) ?_; (with_reducible refine (laws_markNet.calls k t459 (fun k_ => some k_ = (.slice Ao32 t460.length co32 : Value).ownBlock) (.slice Ao32 t460.length co32) t460 1 t473 t474 w _ ?side1 ?side2 A18.out).mono ?_); (case side1 => repeat ((with_reducible exact HB.out))); (case side2 => exact Kd.R_tight rfl HO462.out); rintro e w42 ⟨rfl, hy0, hb, hkp⟩; refine ⟨_, rfl, ?_⟩; replace BK450 := ak (blk_kept (bk BK450) hkp (fun hs_ => (fun e_ => (Kd.R_ne HO462.out BK450.out (by decide)) e_) hs_)); replace HO455 := ak (Kd.R_mono (ok' := fun k_ => some k_ ≠ (.slice Ao32 t460.length co32 : Value).ownBlock ∧ some k_ ≠ (.slice Ao39 t469.length co39 : Value).ownBlock) (Kd.R_keptB (HO455.out) hkp (fun k_ hk_ hs_ => (hk_.1.2) hs_)) (fun k_ hk_ => ⟨hk_.1.1.2, hk_.1.2⟩)); replace HO458 := ak (Kd.R_mono (ok' := fun k_ => some k_ ≠ (.slice Ao34 t464.length co34 : Value).ownBlock) (Kd.R_keptB ((Kd.R_apart' HO458.out (Kd.R_typed HO462.out) (by decide))) hkp (fun k_ hk_ hs_ => (hk_.2) hs_)) (fun k_ hk_ => hk_.1.1.2)); replace BK463 := ak (blk_kept (bk BK463) hkp (fun hs_ => (fun e_ => (Kd.R_ne HO462.out BK463.out (by decide)) e_) hs_)); replace HO466 := ak (Kd.R_mono (ok' := fun k_ => some k_ ≠ (.slice Ao35 t456.length co35 : Value).ownBlock) (Kd.R_keptB ((Kd.R_apart' HO466.out (Kd.R_typed HO462.out) (by decide))) hkp (fun k_ hk_ hs_ => (hk_.2) hs_)) (fun k_ hk_ => hk_.1.1.2)); replace HO462 := ak (Kd.R_reok rfl hy0 (fun k_ e_ => HO462.out.1 k_ e_)); replace HO471 := ak (Kd.R_mono (ok' := fun k_ => some k_ ≠ (.slice Ao25 t453.length co25 : Value).ownBlock ∧ some k_ ≠ (.slice Ao32 t460.length co32 : Value).ownBlock) (Kd.R_keptB (HO471.out) hkp (fun k_ hk_ hs_ => (hk_.2) hs_)) (fun k_ hk_ => ⟨hk_.1.1.2, hk_.1.2⟩)); replace HB := ak (hb); (try clear hb); (try clear hkp); (try clear hy0)))
 (try simp only [Act.put, List.setIfInBounds_toArray, List.set_cons_zero, List.set_cons_succ])
 go_cut [50] (fun v50 wc => ∃ (kq : Nat) (x50_18 : Bool), v50 = .bool x50_18 ∧ Aside0 (laws_FnExactPairAll.j0 kq a1 a2 t456 t464 x50_18 a0_0 l0_1 = some r) ∧ Aside0 (kq ≤ k) ∧ Aside0 (Kd.R k35 35 wc w.heap.size (fun k_ => some k_ ≠ ((.slice Ao34 t464.length co34) : Value).ownBlock) (.slice Ao35 t456.length co35) t456) ∧ Aside0 (Kd.R k35 35 wc w.heap.size (fun k_ => some k_ ≠ ((.slice Ao35 t456.length co35) : Value).ownBlock) (.slice Ao34 t464.length co34) t464) ∧ Aside0 (Kd.R k33 33 wc w.heap.size (fun _ => True) (.slice Ao32 t460.length co32) t474) ∧ Aside0 (wc.heap[gb450]? = some (.cells #[.int .i64 a0_0, (.slice A0_1 l0_1.length c0_1)] 40 (0, 0))) ∧ Aside0 (wc.heap[gb463]? = some (.cells #[.int .i64 t459, (.slice Ao32 t460.length co32)] 25 (0, 0))) ∧ Aside0 (Below w.heap.size w wc))
 case first =>
  have H := HC19.out
  clear HC19
  by_cases c43 : t473 < 0
  ·rw [if_pos c43] at H
   have c43b0 : decide (t473 < 0) = true := decide_eq_true c43
   clear c43
   (skip)
   have H' := ak H
   clear H
   go_wp2
   go_meet
   case rel => exact ⟨_, (true), (by rfl), H', ⟨by omega⟩, ⟨rk HO458⟩, ⟨rk HO466⟩, ⟨by exact Kd.R_mono HO462.out (fun _ hk => trivial)⟩, ⟨bk BK450⟩, ⟨bk BK463⟩, ⟨bl2 HB GE450 GE463⟩⟩
  rw [if_neg c43] at H
  have c43b0 : decide (t473 < 0) = false := decide_eq_false c43
  clear c43
  (skip)
  replace H := Option.bind_eq_some_iff.mp H
  obtain ⟨t475, A440, H⟩ := H
  have A44 := ak A440
  clear A440
  have H' := ak H
  clear H
  go_wp2_with ((go_at_call 23; (with_reducible refine (laws_eqPairS.calls k _ _ t464 _ _ t456 t475 _ ?side1 ?side2 ?side3 ?side4 A44.out).mono ?_); (case side1 => repeat (exact (Kd.R_reads' HO466.out).2.2)); (case side2 => exact (Kd.R_reads' HO466.out).2.1); (case side3 => repeat (exact (Kd.R_reads' HO458.out).2.2)); (case side4 => exact (Kd.R_reads' HO458.out).2.1); rintro e w45 ⟨rfl, hb⟩; have n0_ := ak (Kd.R_below (rk HO455) hb); have n1_ := ak (Kd.R_below (rk HO458) hb); have n2_ := ak (Kd.R_below (rk HO462) hb); have n3_ := ak (Kd.R_below (rk HO466) hb); have n4_ := ak (Kd.R_below (rk HO471) hb); have n5_ := ak (blk_below (bk BK450) hb); have n6_ := ak (blk_below (bk BK463) hb); have n7_ := ak (below_step (bl2 HB GE450 GE463) hb); clear HO455; clear HO458; clear HO462; clear HO466; clear HO471; clear BK450; clear BK463; clear HB; have HO455 := n0_; have HO458 := n1_; have HO462 := n2_; have HO466 := n3_; have HO471 := n4_; have BK450 := n5_; have BK463 := n6_; have HB := n7_; clear n0_ n1_ n2_ n3_ n4_ n5_ n6_ n7_; (try clear hb); (try clear hb2); (try clear hk); (try clear hi)))
  go_meet
  case rel => exact ⟨_, (!t475), (by rfl), H', ⟨by omega⟩, ⟨rk HO458⟩, ⟨rk HO466⟩, ⟨by exact Kd.R_mono HO462.out (fun _ hk => trivial)⟩, ⟨bk BK450⟩, ⟨bk BK463⟩, ⟨bl2 HB GE450 GE463⟩⟩
 clear HC19
 try clear c1
 try clear c2
 try clear p2
 try clear c3
 try clear c4
 try clear c5
 try clear c5b0
 try clear c14
 try clear c17
 try clear c19
 try clear c21
 try clear c22
 try clear c23
 try clear c24
 try clear c30
 try clear c43
 try clear c43b0
 try clear hcz21_0
 try clear hcz21_1
 try clear hcz23_0
 try clear hcz23_1
 try clear hcz27_0
 try clear hcz27_1
 try clear hcz31_0
 try clear hcz31_1
 try clear hcz41_0
 try clear hcz41_1
 try clear hcz7_0
 try clear hcz7_1
 try clear hfz21_0
 try clear hfz21_1
 try clear hfz23_0
 try clear hfz23_1
 try clear hfz27_0
 try clear hfz27_1
 try clear hfz31_0
 try clear hfz31_1
 try clear hfz41_0
 try clear hfz41_1
 try clear hfz7_0
 try clear hfz7_1
 obtain ⟨kq, x50_18, rfl, HA, HJ18, HO_8, HO_10, HO_464001, BK450, BK463, HB⟩ := hcut
 have hl464001_18 := (Kd.R_reads' HO_464001.out).1
 rw [hl464001_18] at HO_464001
 (try simp only [hl464001_18])
 (try simp only [hl464001_18] at BK450)
 (try simp only [hl464001_18] at BK463)
 (try simp only [hl464001_18] at HO_8)
 (try simp only [hl464001_18] at HO_10)
 cases kq with
 | zero => exact absurd HA.out (by simp [laws_FnExactPairAll.j0])
 | succ kj18 =>
  have H := HA.out
  clear HA
  simp only [laws_FnExactPairAll.j0] at H
  by_cases c46 : x50_18 = true
  ·subst c46
   rw [if_pos rfl] at H
   exact absurd ((Option.some.inj H).trans hr_) Bool.false_ne_true
  replace c46 := Bool.eq_false_iff.mpr c46
  subst c46
  rw [if_neg (show ¬ (false = true) by decide)] at H
  replace H := Option.bind_eq_some_iff.mp H
  obtain ⟨⟨t476, t477⟩, A470, H⟩ := H
  have A47 := ak A470
  clear A470
  replace H := Option.bind_eq_some_iff.mp H
  obtain ⟨t478, A480, H⟩ := H
  have A48 := ak A480
  clear A480
  by_cases c49 : t478 < 0
  ·rw [if_pos c49] at H
   have c49b0 : decide (t478 < 0) = true := decide_eq_true c49
   clear c49
   exact absurd ((Option.some.inj H).trans hr_) Bool.false_ne_true
  rw [if_neg c49] at H
  have c49b0 : decide (t478 < 0) = false := decide_eq_false c49
  clear c49
  by_cases c50 : t478 = t476
  rotate_left
  ·rw [if_neg c50] at H
   have c50b0 : (t478 == t476) = false := beq_eq_false_iff_ne.mpr c50
   have c50b1 : (t478 != t476) = true := bne_iff_ne.mpr c50
   exact absurd ((Option.some.inj H).trans hr_) Bool.false_ne_true
  rw [if_pos c50] at H
  have c50b0 : (t478 == t476) = true := beq_iff_eq.mpr c50
  have c50b1 : (t478 != t476) = false := bne_eq_false_iff_eq.mpr c50
  clear c50
  replace H := Option.bind_eq_some_iff.mp H
  obtain ⟨⟨t479, t480⟩, A510, H⟩ := H
  have A51 := ak A510
  clear A510
  replace H := Option.bind_eq_some_iff.mp H
  obtain ⟨t483, A520, H⟩ := H
  have A52 := ak A520
  clear A520
  replace H := Option.bind_eq_some_iff.mp H
  obtain ⟨t486, A530, H⟩ := H
  have A53 := ak A530
  clear A530
  by_cases c54 : t486 = true
  rotate_left
  ·replace c54 := Bool.eq_false_iff.mpr c54
   subst c54
   rw [if_neg (show ¬ (false = true) by decide)] at H
   exact absurd ((Option.some.inj H).trans hr_) Bool.false_ne_true
  subst c54
  rw [if_pos rfl] at H
  replace H := Option.bind_eq_some_iff.mp H
  obtain ⟨t487, A550, H⟩ := H
  have A55 := ak A550
  clear A550
  by_cases c56 : t487 < 0
  ·rw [if_pos c56] at H
   have c56b0 : decide (t487 < 0) = true := decide_eq_true c56
   clear c56
   exact absurd ((Option.some.inj H).trans hr_) Bool.false_ne_true
  rw [if_neg c56] at H
  have c56b0 : decide (t487 < 0) = false := decide_eq_false c56
  clear c56
  by_cases c57 : t487 = t476
  rotate_left
  ·rw [if_neg c57] at H
   have c57b0 : (t487 == t476) = false := beq_eq_false_iff_ne.mpr c57
   have c57b1 : (t487 != t476) = true := bne_iff_ne.mpr c57
   exact absurd ((Option.some.inj H).trans hr_) Bool.false_ne_true
  rw [if_pos c57] at H
  have c57b0 : (t487 == t476) = true := beq_iff_eq.mpr c57
  have c57b1 : (t487 != t476) = false := bne_eq_false_iff_eq.mpr c57
  clear c57
  obtain rfl := Option.some.inj H
  go_wp2_with (first | ((with_reducible refine gate_callee (f := 25) rfl ?_); refine goesL_ (some 53) rfl rfl Try.func25 (by kernel_rfl) rfl #[.slice Ao34 t464.length co34, .int .i64 1] rfl (by (try simp only [List.map_toArray, List.map_cons, List.map_nil]); rfl) ?_; (with_reducible refine (laws_markPairS.calls kj18 (fun k_ => some k_ = (.slice Ao34 t464.length co34 : Value).ownBlock) (.slice Ao34 t464.length co34) t464 1 t476 t477 w _ ?side1 ?side2 A47.out).mono ?_); (case side1 => repeat ((with_reducible exact HB.out))); (case side2 => exact Kd.R_tight rfl HO_10.out); rintro e w58 ⟨rfl, hy0, hb, hkp⟩; refine ⟨_, rfl, ?_⟩; replace HO_8 := ak (Kd.R_mono (ok' := fun k_ => some k_ ≠ (.slice Ao34 t464.length co34 : Value).ownBlock) (Kd.R_keptB (HO_8.out) hkp (fun k_ hk_ hs_ => (hk_) hs_)) (fun k_ hk_ => hk_.1)); replace HO_464001 := ak (Kd.R_mono (ok' := fun k_ => True) (Kd.R_keptB ((Kd.R_apart' HO_464001.out (Kd.R_typed HO_10.out) (by decide))) hkp (fun k_ hk_ hs_ => (hk_.2) hs_)) (fun k_ hk_ => trivial)); replace BK450 := ak (blk_kept (bk BK450) hkp (fun hs_ => (fun e_ => (Kd.R_ne HO_10.out BK450.out (by decide)) e_) hs_)); replace BK463 := ak (blk_kept (bk BK463) hkp (fun hs_ => (fun e_ => (Kd.R_ne HO_10.out BK463.out (by decide)) e_) hs_)); replace HO_10 := ak (Kd.R_reok rfl hy0 (fun k_ e_ => HO_10.out.1 k_ e_)); replace HB := ak (hb); (try clear hb); (try clear hkp); (try clear hy0)) | ((with_reducible refine gate_callee (f := 26) rfl ?_); refine goesL_ (some 56) rfl rfl Try.func26 (by kernel_rfl) rfl #[.slice Ao34 t477.length co34, .int .i64 1] rfl (by (try simp only [List.map_toArray, List.map_cons, List.map_nil]); (rw [show t477.length = t464.length from (Kd.R_reads' HO_10.out).1.symm] <;> rfl)) ?_; (with_reducible refine (laws_heldPairS.calls kj18 _ _ t477 1 t478 _ ?side1 ?side2 A48.out).mono ?_); (case side1 => repeat (exact (Kd.R_reads' HO_10.out).2.2)); (case side2 => rw [show t477.length = t464.length from (Kd.R_reads' HO_10.out).1.symm]; exact (Kd.R_reads' HO_10.out).2.1); rintro e w' ⟨rfl, ⟨nd, rfl⟩⟩; refine ⟨_, rfl, ?_⟩; have hnb59 := NB450_463.out; have hnc59 := NB463_450.out; have hcz60_0 := bc w58 BK450 0 (.int .i64 a0_0) rfl; have hcz60_1 := bc w58 BK450 1 (.slice A0_1 l0_1.length c0_1) rfl; have hfz60_0 := fz BK450 0; have hfz60_1 := fz BK450 1) | ((with_reducible refine gate_callee (f := 19) rfl ?_); refine goesL_ (some 63) rfl rfl Try.func19 (by kernel_rfl) rfl #[.agg #[.int .i64 a0_0, .slice A0_1 l0_1.length c0_1]] rfl (by (try simp only [List.map_toArray, List.map_cons, List.map_nil]); rfl) ?_; (with_reducible refine (laws_toNet.calls kj18 a0_0 _ _ l0_1 t479 t480 _ ?side1 ?side2 A51.out).mono ?_); (case side1 => repeat (exact (Kd.C_below HR0_1.out (bl2 HB GE450 GE463)))); (case side2 => exact HC0_1.out); rintro e w61 ⟨v481, rfl, ho0, hb⟩; refine ⟨_, rfl, ?_⟩; replace HO_8 := ak (Kd.R_below (rk HO_8) hb); replace HO_10 := ak (Kd.R_below (rk HO_10) hb); have HO482 := ak (Kd.R_lower (Kd.R_new' ho0 (Kd.R_lt (rk HO_464001))) (below_size (bl2 HB GE450 GE463))); replace HO_464001 := ak (Kd.R_elder' (rk HO_464001) (Kd.R_base ho0) hb); replace BK450 := ak (blk_below (bk BK450) hb); replace BK463 := ak (blk_below (bk BK463) hb); replace HB := ak (below_step (bl2 HB GE450 GE463) hb); (try clear hb); (try clear hb2); (try clear hk); (try clear hi); (try clear ho0); obtain ⟨Ao62, co62, eo62⟩ := Kd.R_slice HO482.out; subst eo62) | ((with_reducible refine gate_callee (f := 14) rfl ?_); refine goesL_ (some 66) rfl rfl Try.func14 (by kernel_rfl) rfl #[.agg #[.int .i64 t479, .slice Ao62 t480.length co62], .int .i64 a1, .int .i64 a2] rfl (by (try simp only [List.map_toArray, List.map_cons, List.map_nil]); rfl) ?_; (with_reducible refine (impl_PairAll.calls kj18 t479 _ _ t480 a1 a2 t483 _ ?side1 ?side2 A52.out).mono ?_); (case side1 => repeat (exact (Kd.R_reads' HO482.out).2.2)); (case side2 => exact (Kd.R_reads' HO482.out).2.1); rintro e w63 ⟨v484, rfl, ho0, hb⟩; refine ⟨_, rfl, ?_⟩; replace HO_464001 := ak (Kd.R_below (rk HO_464001) hb); replace HO482 := ak (Kd.R_below (rk HO482) hb); have HO485 := ak (Kd.R_lower (Kd.R_new' (Kd.R_new' ho0 (Kd.R_lt (rk HO_8))) (Kd.R_lt (rk HO_10))) (below_size (bl2 HB GE450 GE463))); replace HO_8 := ak (Kd.R_elder' (rk HO_8) (Kd.R_base ho0) hb); replace HO_10 := ak (Kd.R_elder' (rk HO_10) (Kd.R_base ho0) hb); replace BK450 := ak (blk_below (bk BK450) hb); replace BK463 := ak (blk_below (bk BK463) hb); replace HB := ak (below_step (bl2 HB GE450 GE463) hb); (try clear hb); (try clear hb2); (try clear hk); (try clear hi); (try clear ho0); obtain ⟨Ao64, co64, eo64⟩ := Kd.R_slice HO485.out; subst eo64) | ((with_reducible refine gate_callee (f := 23) rfl ?_); refine goesL_ (some 69) rfl rfl Try.func23 (by kernel_rfl) rfl #[.slice Ao64 t483.length co64, .slice Ao35 t456.length co35] rfl (by (try simp only [List.map_toArray, List.map_cons, List.map_nil]); rfl) ?_; (with_reducible refine (laws_eqPairS.calls kj18 _ _ t483 _ _ t456 true _ ?side1 ?side2 ?side3 ?side4 A53.out).mono ?_); (case side1 => repeat (exact (Kd.R_reads' HO485.out).2.2)); (case side2 => exact (Kd.R_reads' HO485.out).2.1); (case side3 => repeat (exact (Kd.R_reads' HO_8.out).2.2)); (case side4 => exact (Kd.R_reads' HO_8.out).2.1); rintro e w65 ⟨rfl, hb⟩; refine ⟨_, rfl, ?_⟩; replace HO_8 := ak (Kd.R_below (rk HO_8) hb); replace HO_10 := ak (Kd.R_below (rk HO_10) hb); replace HO_464001 := ak (Kd.R_below (rk HO_464001) hb); replace HO482 := ak (Kd.R_below (rk HO482) hb); replace HO485 := ak (Kd.R_below (rk HO485) hb); replace BK450 := ak (blk_below (bk BK450) hb); replace BK463 := ak (blk_below (bk BK463) hb); replace HB := ak (below_step (bl2 HB GE450 GE463) hb); (try clear hb); (try clear hb2); (try clear hk); (try clear hi)) | ((with_reducible refine gate_callee (f := 26) rfl ?_); refine goesL_ (some 73) rfl rfl Try.func26 (by kernel_rfl) rfl #[.slice Ao34 t477.length co34, .int .i64 1] rfl (by (try simp only [List.map_toArray, List.map_cons, List.map_nil]); (rw [show t477.length = t464.length from (Kd.R_reads' HO_10.out).1.symm] <;> rfl)) ?_; (with_reducible refine (laws_heldPairS.calls kj18 _ _ t477 1 t487 _ ?side1 ?side2 A55.out).mono ?_); (case side1 => repeat (exact (Kd.R_reads' HO_10.out).2.2)); (case side2 => rw [show t477.length = t464.length from (Kd.R_reads' HO_10.out).1.symm]; exact (Kd.R_reads' HO_10.out).2.1); rintro e w' ⟨rfl, ⟨nd, rfl⟩⟩; refine ⟨_, rfl, ?_⟩))
  go_ret
  exact ⟨by rfl, bl2 HB GE450 GE463⟩
/-- THE ONE PURE STATEMENT of laws_FnExactPairAll. -/
def laws_FnExactPairAll.Pure : Prop := ∀ (a0_0 : Int) (l0_1 : List (S95)) (a1 : Int) (a2 : Int), (Lit.int .i64 a0_0).wf = true → (l0_1.length ≤ 9223372036854775807 ∧ ∀ y_ ∈ l0_1, ((Lit.int .i64 y_.f0).wf = true ∧ ((Lit.int .i64 y_.f1).wf = true ∧ ((Lit.int .i64 y_.f2).wf = true ∧ ((Lit.int .i64 y_.f3).wf = true ∧ ((Lit.int .i64 y_.f4).wf = true)))))) → (Lit.int .i64 a1).wf = true → (Lit.int .i64 a2).wf = true → ∃ k, laws_FnExactPairAll.f k a0_0 l0_1 a1 a2 = some true

end Go.Proofs.Ytddkaiegnohkcaa.F
