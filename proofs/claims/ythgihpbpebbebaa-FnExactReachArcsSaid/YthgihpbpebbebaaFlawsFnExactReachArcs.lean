-- Printed by wip/px/px.py of this claim's repository (the kit's printer, extended there). Lean checks it.
import Derived.Test.YthgihpbpebbebaaFKinds
import Derived.Test.YthgihpbpebbebaaFlawsszNet
import Derived.Test.YthgihpbpebbebaaFlawstoNet
import Derived.Test.YthgihpbpebbebaaFlawseqNet
import Derived.Test.YthgihpbpebbebaaFlawsmarkNet
import Derived.Test.YthgihpbpebbebaaFlawseqIntS
import Derived.Test.YthgihpbpebbebaaFlawsmarkIntS
import Derived.Test.YthgihpbpebbebaaFlawsheldIntS
import Derived.Test.YthgihpbpebbebaaFimplReachArcs
import Derived.Test.YthgihpbpebbebaaFspecReachArcs
namespace Go.Proofs.Ythgihpbpebbebaa.F
open Go.RowKit Go.Proofs.YthgihpbpebbebaaW.PrintWords Go.Proofs.YthgihpbpebbebaaW.PrintLast Go.Proofs.YthgihpbpebbebaaW.PrintMore
attribute [local go_sem] max2_int min2_int max_two min_two max_three min_three max_four min_four   -- for this text's walks alone
set_option linter.unusedVariables false
set_option linter.unusedSimpArgs false

/-! ### laws_FnExactReachArcs: function 14 -/
def laws_FnExactReachArcs.j0 : Nat → Int → Int → List Int → List Int → Bool → Int → List (S118) → Option (Bool)
 | 0, _, _, _, _, _, _, _ => none
 | k + 1, x1, x2, x8, x10, x50, x745000, x745001 => if x50 = true then (some false) else ((laws_markIntS.f k x10 1).bind fun bt770 => ((laws_heldIntS.f k bt770.2 1).bind fun t772 => (if t772 < 0 then (some false) else (if t772 = bt770.1 then ((laws_toNet.f k x745000 x745001).bind fun bt773 => ((impl_ReachArcs.f k bt773.1 bt773.2 x1 x2).bind fun t777 => ((laws_eqIntS.f k t777 x8).bind fun t780 => (if t780 = true then ((laws_heldIntS.f k bt770.2 1).bind fun t781 => (if t781 < 0 then (some false) else (if t781 = bt770.1 then (some true) else (some false)))) else (some false))))) else (some false)))))
def laws_FnExactReachArcs.f (k : Nat) (a0_0 : Int) (l0_1 : List (S118)) (a1 : Int) (a2 : Int) : Option (Bool) := (laws_szNet.f a0_0 l0_1 1048576).bind fun t745 => (if t745 < 0 then (some true) else ((laws_toNet.f k a0_0 l0_1).bind fun bt746 => ((spec_ReachArcs.f k bt746.1 bt746.2 a1 a2).bind fun t750 => ((laws_toNet.f k a0_0 l0_1).bind fun bt753 => ((impl_ReachArcs.f k bt753.1 bt753.2 a1 a2).bind fun t758 => ((laws_eqIntS.f k t758 t750).bind fun t761 => (if t761 = true then ((laws_toNet.f k a0_0 l0_1).bind fun bt762 => ((laws_eqNet.f k bt753.1 bt753.2 bt762.1 bt762.2).bind fun t766 => (if t766 = true then ((laws_markNet.f k bt753.1 bt753.2 1).bind fun bt767 => (if bt767.1 < 0 then (laws_FnExactReachArcs.j0 k a1 a2 t750 t758 true a0_0 l0_1) else ((laws_eqIntS.f k t758 t750).bind fun t769 => (laws_FnExactReachArcs.j0 k a1 a2 t750 t758 (!t769) a0_0 l0_1)))) else (some false)))) else (some false))))))))
theorem laws_FnExactReachArcs.mono_l : ∀ k, (∀ y0 y1 y2 y3 y4 y5 y6, LeO (laws_FnExactReachArcs.j0 k y0 y1 y2 y3 y4 y5 y6) (laws_FnExactReachArcs.j0 (k + 1) y0 y1 y2 y3 y4 y5 y6))
 | 0 => fun _ _ _ _ _ _ _ r h => by simp [laws_FnExactReachArcs.j0] at h
 | k + 1 => by
  have ih0 := laws_FnExactReachArcs.mono_l k
  ·intro y0 y1 y2 y3 y4 y5 y6
   unfold laws_FnExactReachArcs.j0
   repeat' first
   | (with_reducible exact ih0 _ _ _ _ _ _ _)
   | (with_reducible exact impl_ReachArcs.mono _ _ _ _ _)
   | (with_reducible exact laws_eqIntS.mono _ _ _)
   | (with_reducible exact laws_eqNet.mono _ _ _ _ _)
   | (with_reducible exact laws_heldIntS.mono _ _ _)
   | (with_reducible exact laws_markIntS.mono _ _ _)
   | (with_reducible exact laws_markNet.mono _ _ _ _)
   | (with_reducible exact laws_toNet.mono _ _ _)
   | (with_reducible exact spec_ReachArcs.mono _ _ _ _ _)
   | (with_reducible exact LeO.refl _)
   | (with_reducible exact LeO.none _)
   | (with_reducible refine LeO.ite ?_ ?_)
   | (with_reducible refine LeO.bind ?_ (fun _ => ?_))
   | exact ih0 _ _ _ _ _ _ _
   | exact impl_ReachArcs.mono _ _ _ _ _
   | exact laws_eqIntS.mono _ _ _
   | exact laws_eqNet.mono _ _ _ _ _
   | exact laws_heldIntS.mono _ _ _
   | exact laws_markIntS.mono _ _ _
   | exact laws_markNet.mono _ _ _ _
   | exact laws_toNet.mono _ _ _
   | exact spec_ReachArcs.mono _ _ _ _ _
   | exact LeO.none _
   | refine LeO.ite ?_ ?_
   | refine LeO.bind ?_ (fun _ => ?_)
theorem laws_FnExactReachArcs.mono : ∀ a0 a1 a2 a3 k, LeO (laws_FnExactReachArcs.f k a0 a1 a2 a3) (laws_FnExactReachArcs.f (k + 1) a0 a1 a2 a3) := by
 intro a0 a1 a2 a3 k
 have ih0 := laws_FnExactReachArcs.mono_l k
 unfold laws_FnExactReachArcs.f
 repeat' first
   | (with_reducible exact ih0 _ _ _ _ _ _ _)
   | (with_reducible exact impl_ReachArcs.mono _ _ _ _ _)
   | (with_reducible exact laws_eqIntS.mono _ _ _)
   | (with_reducible exact laws_eqNet.mono _ _ _ _ _)
   | (with_reducible exact laws_heldIntS.mono _ _ _)
   | (with_reducible exact laws_markIntS.mono _ _ _)
   | (with_reducible exact laws_markNet.mono _ _ _ _)
   | (with_reducible exact laws_toNet.mono _ _ _)
   | (with_reducible exact spec_ReachArcs.mono _ _ _ _ _)
   | (with_reducible exact LeO.refl _)
   | (with_reducible exact LeO.none _)
   | (with_reducible refine LeO.ite ?_ ?_)
   | (with_reducible refine LeO.bind ?_ (fun _ => ?_))
   | exact ih0 _ _ _ _ _ _ _
   | exact impl_ReachArcs.mono _ _ _ _ _
   | exact laws_eqIntS.mono _ _ _
   | exact laws_eqNet.mono _ _ _ _ _
   | exact laws_heldIntS.mono _ _ _
   | exact laws_markIntS.mono _ _ _
   | exact laws_markNet.mono _ _ _ _
   | exact laws_toNet.mono _ _ _
   | exact spec_ReachArcs.mono _ _ _ _ _
   | exact LeO.none _
   | refine LeO.ite ?_ ?_
   | refine LeO.bind ?_ (fun _ => ?_)
set_option maxHeartbeats 8000000 in
set_option maxRecDepth 100000 in
theorem laws_FnExactReachArcs.calls (k : Nat) (a0_0 : Int) (A0_1 : Option Addr) (c0_1 : Nat) (l0_1 : List (S118)) (a1 : Int) (a2 : Int) (r : Bool) (w : World) (hr0_1 : Kd.C k118 w A0_1 l0_1.length l0_1) (hc0_1 : l0_1.length ≤ c0_1) (h : laws_FnExactReachArcs.f k a0_0 l0_1 a1 a2 = some r) (hr_ : r = true) :
  Calls Try.prog 14 #[.agg #[.int .i64 a0_0, .slice A0_1 l0_1.length c0_1], .int .i64 a1, .int .i64 a2] w fun e w' => e = .returned (.bool r) ∧ Below w.heap.size w w' := by
 have hu36 := Try.underlying36
 have hu25 := Try.underlying25
 have HR0_1 := Aside0.mk hr0_1
 have HC0_1 := Aside0.mk hc0_1
 clear hr0_1 hc0_1
 have HB := Aside0.mk (Below.refl w.heap.size w)
 have H : ((laws_szNet.f a0_0 l0_1 1048576).bind fun t745 => (if t745 < 0 then (some true) else ((laws_toNet.f k a0_0 l0_1).bind fun bt746 => ((spec_ReachArcs.f k bt746.1 bt746.2 a1 a2).bind fun t750 => ((laws_toNet.f k a0_0 l0_1).bind fun bt753 => ((impl_ReachArcs.f k bt753.1 bt753.2 a1 a2).bind fun t758 => ((laws_eqIntS.f k t758 t750).bind fun t761 => (if t761 = true then ((laws_toNet.f k a0_0 l0_1).bind fun bt762 => ((laws_eqNet.f k bt753.1 bt753.2 bt762.1 bt762.2).bind fun t766 => (if t766 = true then ((laws_markNet.f k bt753.1 bt753.2 1).bind fun bt767 => (if bt767.1 < 0 then (laws_FnExactReachArcs.j0 k a1 a2 t750 t758 true a0_0 l0_1) else ((laws_eqIntS.f k t758 t750).bind fun t769 => (laws_FnExactReachArcs.j0 k a1 a2 t750 t758 (!t769) a0_0 l0_1)))) else (some false)))) else (some false))))))))) = some r := h
 clear h
 replace H := Option.bind_eq_some_iff.mp H
 obtain ⟨t745, A40, H⟩ := H
 have A4 := Aside0.mk A40
 clear A40
 by_cases c5 : t745 < 0
 ·rw [if_pos c5] at H
  have c5b0 : decide (t745 < 0) = true := decide_eq_true c5
  clear c5
  obtain rfl := Option.some.inj H
  go_enter Try.func14, Try.ntmps14
  go_wp2_with (first | ((with_reducible refine gate_dst (N := 3) rfl ?_); refine box_event ?hg (N := 3) ?hd (cs := #[.int .i64 a0_0, .slice A0_1 l0_1.length c0_1]) (t := 36) ?hr ?_; (case hd => rfl); (case hg => rfl); (case hr => first | (go_simp; done) | (go_simp; rfl)); intro gb744 hg w6 hbox hb; have n0_ := Aside0.mk (below_step (bl HB) hb); have n1_ := Aside0.mk (hbox); have n2_ := Aside0.mk ((by rw [hg]; exact (below_size (bl HB)) : w.heap.size ≤ gb744)); have n3_ := Aside0.mk ((by rw [hg]; exact (below_size (bl HB)) : w.heap.size ≤ gb744)); clear HB; have HB := n0_; have BK744 := n1_; have GW744 := n2_; have GE744 := n3_; clear n0_ n1_ n2_ n3_; clear hb hbox hg; have hcz7_0 : w6.cell? ⟨gb744, 0, none⟩ = some (.int .i64 a0_0) := (blk_cell BK744.out 0).trans rfl; have hcz7_1 : w6.cell? ⟨gb744, 1, none⟩ = some (.slice A0_1 l0_1.length c0_1) := (blk_cell BK744.out 1).trans rfl; have hfz7_0 := blk_frozen BK744.out 0; have hfz7_1 := blk_frozen BK744.out 1) | ((with_reducible refine gate_callee (f := 20) rfl ?_); refine goesL_ (some 17) rfl rfl Try.func20 (by kernel_rfl) rfl #[.agg #[.int .i64 a0_0, .slice A0_1 l0_1.length c0_1], .int .i64 1048576] rfl (by (try simp only [List.map_toArray, List.map_cons, List.map_nil]); first | done | rfl | (simp only [List.length_drop, List.length_take]; rfl)) ?_; (with_reducible refine (laws_szNet.calls a0_0 _ _ l0_1 1048576 t745 _ ?side1 ?side2 A4.out).mono ?_); (case side1 => repeat (first | exact (Kd.C_below HR0_1.out HB.out) | (with_reducible refine Kd.C_alloc ?_ _) | (with_reducible refine Kd.C_drewN ?_ _) | (with_reducible refine Kd.C_drew ?_))); (case side2 => exact HC0_1.out); rintro e w8 ⟨rfl, hb⟩; refine ⟨_, rfl, ?_⟩; have n0_ := Aside0.mk (blk_below (bk BK744) hb); have n1_ := Aside0.mk (below_step (bl1 HB GE744) hb); clear BK744; clear HB; have BK744 := n0_; have HB := n1_; clear n0_ n1_; (try clear hb); (try clear hb2); (try clear hk); (try clear hi)))
  go_ret
  exact ⟨by first | rfl | (simp [errW_none, errW_some] <;> rfl) | (simp [*, errW_none, errW_some] <;> rfl), bl1 HB GE744⟩
 ·rw [if_neg c5] at H
  have c5b0 : decide (t745 < 0) = false := decide_eq_false c5
  clear c5
  replace H := Option.bind_eq_some_iff.mp H
  obtain ⟨⟨t746, t747⟩, A90, H⟩ := H
  have A9 := Aside0.mk A90
  clear A90
  replace H := Option.bind_eq_some_iff.mp H
  obtain ⟨t750, A100, H⟩ := H
  have A10 := Aside0.mk A100
  clear A100
  replace H := Option.bind_eq_some_iff.mp H
  obtain ⟨⟨t753, t754⟩, A110, H⟩ := H
  have A11 := Aside0.mk A110
  clear A110
  replace H := Option.bind_eq_some_iff.mp H
  obtain ⟨t758, A120, H⟩ := H
  have A12 := Aside0.mk A120
  clear A120
  replace H := Option.bind_eq_some_iff.mp H
  obtain ⟨t761, A130, H⟩ := H
  have A13 := Aside0.mk A130
  clear A130
  by_cases c14 : t761 = true
  ·subst c14
   rw [if_pos rfl] at H
   replace H := Option.bind_eq_some_iff.mp H
   obtain ⟨⟨t762, t763⟩, A150, H⟩ := H
   have A15 := Aside0.mk A150
   clear A150
   replace H := Option.bind_eq_some_iff.mp H
   obtain ⟨t766, A160, H⟩ := H
   have A16 := Aside0.mk A160
   clear A160
   by_cases c17 : t766 = true
   ·subst c17
    rw [if_pos rfl] at H
    replace H := Option.bind_eq_some_iff.mp H
    obtain ⟨⟨t767, t768⟩, A180, H⟩ := H
    have A18 := Aside0.mk A180
    clear A180
    have HC19 := Aside0.mk H
    clear H
    go_enter Try.func14, Try.ntmps14
    try go_wp2_with (first | ((with_reducible refine gate_dst (N := 3) rfl ?_); refine box_event ?hg (N := 3) ?hd (cs := #[.int .i64 a0_0, .slice A0_1 l0_1.length c0_1]) (t := 36) ?hr ?_; (case hd => rfl); (case hg => rfl); (case hr => first | (go_simp; done) | (go_simp; rfl)); intro gb744 hg w20 hbox hb; have n0_ := Aside0.mk (below_step (bl HB) hb); have n1_ := Aside0.mk (hbox); have n2_ := Aside0.mk ((by rw [hg]; exact (below_size (bl HB)) : w.heap.size ≤ gb744)); have n3_ := Aside0.mk ((by rw [hg]; exact (below_size (bl HB)) : w.heap.size ≤ gb744)); clear HB; have HB := n0_; have BK744 := n1_; have GW744 := n2_; have GE744 := n3_; clear n0_ n1_ n2_ n3_; clear hb hbox hg; have hcz21_0 : w20.cell? ⟨gb744, 0, none⟩ = some (.int .i64 a0_0) := (blk_cell BK744.out 0).trans rfl; have hcz21_1 : w20.cell? ⟨gb744, 1, none⟩ = some (.slice A0_1 l0_1.length c0_1) := (blk_cell BK744.out 1).trans rfl; have hfz21_0 := blk_frozen BK744.out 0; have hfz21_1 := blk_frozen BK744.out 1) | ((with_reducible refine gate_callee (f := 20) rfl ?_); refine goesL_ (some 17) rfl rfl Try.func20 (by kernel_rfl) rfl #[.agg #[.int .i64 a0_0, .slice A0_1 l0_1.length c0_1], .int .i64 1048576] rfl (by (try simp only [List.map_toArray, List.map_cons, List.map_nil]); first | done | rfl | (simp only [List.length_drop, List.length_take]; rfl)) ?_; (with_reducible refine (laws_szNet.calls a0_0 _ _ l0_1 1048576 t745 _ ?side1 ?side2 A4.out).mono ?_); (case side1 => repeat (first | exact (Kd.C_below HR0_1.out HB.out) | (with_reducible refine Kd.C_alloc ?_ _) | (with_reducible refine Kd.C_drewN ?_ _) | (with_reducible refine Kd.C_drew ?_))); (case side2 => exact HC0_1.out); rintro e w22 ⟨rfl, hb⟩; refine ⟨_, rfl, ?_⟩; have n0_ := Aside0.mk (blk_below (bk BK744) hb); have n1_ := Aside0.mk (below_step (bl1 HB GE744) hb); clear BK744; clear HB; have BK744 := n0_; have HB := n1_; clear n0_ n1_; (try clear hb); (try clear hb2); (try clear hk); (try clear hi); have hcz23_0 : w22.cell? ⟨gb744, 0, none⟩ = some (.int .i64 a0_0) := (blk_cell BK744.out 0).trans rfl; have hcz23_1 : w22.cell? ⟨gb744, 1, none⟩ = some (.slice A0_1 l0_1.length c0_1) := (blk_cell BK744.out 1).trans rfl; have hfz23_0 := blk_frozen BK744.out 0; have hfz23_1 := blk_frozen BK744.out 1) | ((with_reducible refine gate_callee (f := 21) rfl ?_); refine goesL_ (some 21) rfl rfl Try.func21 (by kernel_rfl) rfl #[.agg #[.int .i64 a0_0, .slice A0_1 l0_1.length c0_1]] rfl (by (try simp only [List.map_toArray, List.map_cons, List.map_nil]); first | done | rfl | (simp only [List.length_drop, List.length_take]; rfl)) ?_; (with_reducible refine (laws_toNet.calls k a0_0 _ _ l0_1 t746 t747 _ ?side1 ?side2 A9.out).mono ?_); (case side1 => repeat (first | exact (Kd.C_below HR0_1.out HB.out) | (with_reducible refine Kd.C_alloc ?_ _) | (with_reducible refine Kd.C_drewN ?_ _) | (with_reducible refine Kd.C_drew ?_))); (case side2 => exact HC0_1.out); rintro e w24 ⟨v748, rfl, ho0, hb⟩; refine ⟨_, rfl, ?_⟩; have n0_ := Aside0.mk (Kd.R_lower ho0 (below_size (bl1 HB GE744))); have n1_ := Aside0.mk (blk_below (bk BK744) hb); have n2_ := Aside0.mk (below_step (bl1 HB GE744) hb); clear BK744; clear HB; have HO749 := n0_; have BK744 := n1_; have HB := n2_; clear n0_ n1_ n2_; (try clear hb); (try clear hb2); (try clear hk); (try clear hi); (try clear ho0); obtain ⟨Ao25, co25, eo25⟩ := Kd.R_slice HO749.out; subst eo25) | ((with_reducible refine gate_callee (f := 51) rfl ?_); refine goesL_ (some 24) rfl rfl Try.func51 (by kernel_rfl) rfl #[.agg #[.int .i64 t746, .slice Ao25 t747.length co25], .int .i64 a1, .int .i64 a2] rfl (by (try simp only [List.map_toArray, List.map_cons, List.map_nil]); first | done | rfl | (simp only [List.length_drop, List.length_take]; rfl)) ?_; (with_reducible refine (spec_ReachArcs.calls k t746 _ _ t747 a1 a2 t750 _ ?side1 ?side2 A10.out).mono ?_); (case side1 => repeat (first | exact (Kd.R_reads' HO749.out).2.2 | (with_reducible refine Kd.C_alloc ?_ _) | (with_reducible refine Kd.C_drewN ?_ _) | (with_reducible refine Kd.C_drew ?_))); (case side2 => exact (Kd.R_reads' HO749.out).2.1); rintro e w26 ⟨v751, rfl, ho0, hb⟩; refine ⟨_, rfl, ?_⟩; have n0_ := Aside0.mk (Kd.R_below (rk HO749) hb); have n1_ := Aside0.mk (Kd.R_lower ho0 (below_size (bl1 HB GE744))); have n2_ := Aside0.mk (blk_below (bk BK744) hb); have n3_ := Aside0.mk (below_step (bl1 HB GE744) hb); clear HO749; clear BK744; clear HB; have HO749 := n0_; have HO752 := n1_; have BK744 := n2_; have HB := n3_; clear n0_ n1_ n2_ n3_; (try clear hb); (try clear hb2); (try clear hk); (try clear hi); (try clear ho0); have hcz27_0 : w26.cell? ⟨gb744, 0, none⟩ = some (.int .i64 a0_0) := (blk_cell BK744.out 0).trans rfl; have hcz27_1 : w26.cell? ⟨gb744, 1, none⟩ = some (.slice A0_1 l0_1.length c0_1) := (blk_cell BK744.out 1).trans rfl; have hfz27_0 := blk_frozen BK744.out 0; have hfz27_1 := blk_frozen BK744.out 1) | ((with_reducible refine gate_callee (f := 21) rfl ?_); refine goesL_ (some 26) rfl rfl Try.func21 (by kernel_rfl) rfl #[.agg #[.int .i64 a0_0, .slice A0_1 l0_1.length c0_1]] rfl (by (try simp only [List.map_toArray, List.map_cons, List.map_nil]); first | done | rfl | (simp only [List.length_drop, List.length_take]; rfl)) ?_; (with_reducible refine (laws_toNet.calls k a0_0 _ _ l0_1 t753 t754 _ ?side1 ?side2 A11.out).mono ?_); (case side1 => repeat (first | exact (Kd.C_below HR0_1.out HB.out) | (with_reducible refine Kd.C_alloc ?_ _) | (with_reducible refine Kd.C_drewN ?_ _) | (with_reducible refine Kd.C_drew ?_))); (case side2 => exact HC0_1.out); rintro e w28 ⟨v755, rfl, ho0, hb⟩; refine ⟨_, rfl, ?_⟩; have n0_ := Aside0.mk (Kd.R_elder' (rk HO749) (Kd.R_base ho0) hb); have n1_ := Aside0.mk (Kd.R_below (rk HO752) hb); have n2_ := Aside0.mk (Kd.R_lower (Kd.R_new' ho0 (Kd.R_lt (rk HO749))) (below_size (bl1 HB GE744))); have n3_ := Aside0.mk (blk_below (bk BK744) hb); have n4_ := Aside0.mk (below_step (bl1 HB GE744) hb); clear HO749; clear HO752; clear BK744; clear HB; have HO749 := n0_; have HO752 := n1_; have HO756 := n2_; have BK744 := n3_; have HB := n4_; clear n0_ n1_ n2_ n3_ n4_; (try clear hb); (try clear hb2); (try clear hk); (try clear hi); (try clear ho0)) | ((with_reducible refine gate_dst (N := 9) rfl ?_); refine box_event ?hg (N := 9) ?hd (cs := #[.int .i64 0, .slice none 0 0]) (t := 25) ?hr ?_; (case hd => rfl); (case hg => rfl); (case hr => first | (go_simp; done) | (go_simp; rfl)); intro gb757 hg w29 hbox hb; have n0_ := Aside0.mk (Kd.R_below (rk HO749) hb); have n1_ := Aside0.mk (Kd.R_below (rk HO752) hb); have n2_ := Aside0.mk (Kd.R_below (rk HO756) hb); have n3_ := Aside0.mk (blk_below (bk BK744) hb); have n4_ := Aside0.mk (below_step (bl1 HB GE744) hb); have n5_ := Aside0.mk (hbox); have n6_ := Aside0.mk ((by rw [hg]; exact (below_size (bl1 HB GE744)) : w.heap.size ≤ gb757)); have n7_ := Aside0.mk ((by rw [hg]; exact (below_size (bl1 HB GE744)) : w.heap.size ≤ gb757)); have n8_ := Aside0.mk ((by rw [hg]; exact Nat.ne_of_lt (blk_lt (bk BK744)) : gb744 ≠ gb757)); have n9_ := Aside0.mk ((by rw [hg]; exact Nat.ne_of_gt (blk_lt (bk BK744)) : gb757 ≠ gb744)); clear HO749; clear HO752; clear HO756; clear BK744; clear HB; have HO749 := n0_; have HO752 := n1_; have HO756 := n2_; have BK744 := n3_; have HB := n4_; have BK757 := n5_; have GW757 := n6_; have GE757 := n7_; have NB744_757 := n8_; have NB757_744 := n9_; clear n0_ n1_ n2_ n3_ n4_ n5_ n6_ n7_ n8_ n9_; clear hb hbox hg; have hnb30 := NB757_744.out; have hnc30 := NB744_757.out; have hcz31_0 : w29.cell? ⟨gb757, 0, none⟩ = some (.int .i64 0) := (blk_cell BK757.out 0).trans rfl; have hcz31_1 : w29.cell? ⟨gb757, 1, none⟩ = some (.slice none 0 0) := (blk_cell BK757.out 1).trans rfl; have hfz31_0 := blk_frozen BK757.out 0; have hfz31_1 := blk_frozen BK757.out 1; obtain ⟨Ao32, co32, eo32⟩ := Kd.R_slice HO756.out; subst eo32) | ((with_reducible refine gate_callee (f := 50) rfl ?_); refine goesL_ (some 30) rfl rfl Try.func50 (by kernel_rfl) rfl #[.agg #[.int .i64 t753, .slice Ao32 t754.length co32], .int .i64 a1, .int .i64 a2] rfl (by (try simp only [List.map_toArray, List.map_cons, List.map_nil]); first | done | rfl | (simp only [List.length_drop, List.length_take]; rfl)) ?_; (with_reducible refine (impl_ReachArcs.calls k t753 _ _ t754 a1 a2 t758 _ ?side1 ?side2 A12.out).mono ?_); (case side1 => refine (Kd.R_reads' (e := 31) (base := w.heap.size) (ok := fun k_ => (True ∧ some k_ ≠ (.slice Ao25 t747.length co25 : Value).ownBlock)) (n := t754.length) (c := co32) ?_).2.2; exact (by (with_reducible repeat (first | apply Kd.R_alloc | apply Kd.R_drewN | apply Kd.R_drew)); exact (Kd.R_mono (Kd.R_far (p := ⟨gb757, 1, none⟩) (Kd.R_far (p := ⟨gb757, 0, none⟩) (Kd.R_types HO756.out BK757.out (by decide)) (fun _ hk => hk.2) (.int .i64 t753)) (fun _ hk => hk.2) (.slice Ao32 t754.length co32)) (fun _ h_ => h_.1)))); (case side2 => exact (Kd.R_reads' HO756.out).2.1); rintro e w33 ⟨v759, rfl, ho0, hb⟩; refine ⟨_, rfl, ?_⟩; have n0_ := Aside0.mk (Kd.R_below (by (with_reducible repeat (first | apply Kd.R_alloc | apply Kd.R_drewN | apply Kd.R_drew)); exact (Kd.R_mono (Kd.R_far (p := ⟨gb757, 1, none⟩) (Kd.R_far (p := ⟨gb757, 0, none⟩) (Kd.R_types HO749.out BK757.out (by decide)) (fun _ hk => hk.2) (.int .i64 t753)) (fun _ hk => hk.2) (.slice Ao32 t754.length co32)) (fun _ h_ => h_.1))) hb); have n1_ := Aside0.mk (Kd.R_elder' (by (with_reducible repeat (first | apply Kd.R_alloc | apply Kd.R_drewN | apply Kd.R_drew)); exact (Kd.R_mono (Kd.R_far (p := ⟨gb757, 1, none⟩) (Kd.R_far (p := ⟨gb757, 0, none⟩) (Kd.R_types HO752.out BK757.out (by decide)) (fun _ hk => hk.2) (.int .i64 t753)) (fun _ hk => hk.2) (.slice Ao32 t754.length co32)) (fun _ h_ => h_.1))) (Kd.R_base ho0) hb); have n2_ := Aside0.mk (Kd.R_below (by (with_reducible repeat (first | apply Kd.R_alloc | apply Kd.R_drewN | apply Kd.R_drew)); exact (Kd.R_mono (Kd.R_far (p := ⟨gb757, 1, none⟩) (Kd.R_far (p := ⟨gb757, 0, none⟩) (Kd.R_types HO756.out BK757.out (by decide)) (fun _ hk => hk.2) (.int .i64 t753)) (fun _ hk => hk.2) (.slice Ao32 t754.length co32)) (fun _ h_ => h_.1))) hb); have n3_ := Aside0.mk (Kd.R_lower (Kd.R_new' ho0 (Kd.R_lt (by (with_reducible repeat (first | apply Kd.R_alloc | apply Kd.R_drewN | apply Kd.R_drew)); exact (Kd.R_mono (Kd.R_far (p := ⟨gb757, 1, none⟩) (Kd.R_far (p := ⟨gb757, 0, none⟩) (Kd.R_types HO752.out BK757.out (by decide)) (fun _ hk => hk.2) (.int .i64 t753)) (fun _ hk => hk.2) (.slice Ao32 t754.length co32)) (fun _ h_ => h_.1))))) (below_size (bl2 HB GE744 GE757))); have n4_ := Aside0.mk (blk_below (g := gb744) (o := .cells #[.int .i64 a0_0, .slice A0_1 l0_1.length c0_1] 36 (0, 0)) (by (with_reducible repeat (first | refine blk_drewN ?_ _ | refine blk_drew ?_ | refine blk_alloc ?_ _)); refine blk_far ?_ NB744_757.out _; (with_reducible repeat (first | refine blk_drewN ?_ _ | refine blk_drew ?_ | refine blk_alloc ?_ _)); refine blk_far ?_ NB744_757.out _; (with_reducible repeat (first | refine blk_drewN ?_ _ | refine blk_drew ?_ | refine blk_alloc ?_ _)); exact BK744.out) hb); have n5_ := Aside0.mk (blk_below (g := gb757) (o := .cells #[.int .i64 t753, .slice Ao32 t754.length co32] 25 (0, 0)) (by (with_reducible repeat (first | refine blk_drewN ?_ _ | refine blk_drew ?_ | refine blk_alloc ?_ _)); refine blk_put (cs := #[.int .i64 t753, .slice none 0 0]) ?_ 1 _ rfl; (with_reducible repeat (first | refine blk_drewN ?_ _ | refine blk_drew ?_ | refine blk_alloc ?_ _)); refine blk_put (cs := #[.int .i64 0, .slice none 0 0]) ?_ 0 _ rfl; (with_reducible repeat (first | refine blk_drewN ?_ _ | refine blk_drew ?_ | refine blk_alloc ?_ _)); exact BK757.out) hb); have n6_ := Aside0.mk (below_step (bl2 HB GE744 GE757) hb); clear HO749; clear HO752; clear HO756; clear BK744; clear BK757; clear HB; have HO749 := n0_; have HO752 := n1_; have HO756 := n2_; have HO760 := n3_; have BK744 := n4_; have BK757 := n5_; have HB := n6_; clear n0_ n1_ n2_ n3_ n4_ n5_ n6_; (try clear hb); (try clear hb2); (try clear hk); (try clear hi); (try clear ho0); obtain ⟨Ao34, co34, eo34⟩ := Kd.R_slice HO760.out; subst eo34; obtain ⟨Ao35, co35, eo35⟩ := Kd.R_slice HO752.out; subst eo35) | ((with_reducible refine gate_callee (f := 28) rfl ?_); refine goesL_ (some 33) rfl rfl Try.func28 (by kernel_rfl) rfl #[.slice Ao34 t758.length co34, .slice Ao35 t750.length co35] rfl (by (try simp only [List.map_toArray, List.map_cons, List.map_nil]); first | done | rfl | (simp only [List.length_drop, List.length_take]; rfl)) ?_; (with_reducible refine (laws_eqIntS.calls k _ _ t758 _ _ t750 true _ ?side1 ?side2 ?side3 ?side4 A13.out).mono ?_); (case side1 => repeat (first | exact (Kd.R_reads' HO760.out).2.2 | (with_reducible refine Kd.C_alloc ?_ _) | (with_reducible refine Kd.C_drewN ?_ _) | (with_reducible refine Kd.C_drew ?_))); (case side2 => exact (Kd.R_reads' HO760.out).2.1); (case side3 => repeat (first | exact (Kd.R_reads' HO752.out).2.2 | (with_reducible refine Kd.C_alloc ?_ _) | (with_reducible refine Kd.C_drewN ?_ _) | (with_reducible refine Kd.C_drew ?_))); (case side4 => exact (Kd.R_reads' HO752.out).2.1); rintro e w' ⟨rfl, ⟨nd, rfl⟩⟩; refine ⟨_, rfl, ?_⟩))
    (try (rw [drewN_self w33]; generalize hq_ : World.drewN w33 _ = w33; have n0_ := Aside0.mk (Kd.R_at hq_ HO749.out); have n1_ := Aside0.mk (Kd.R_at hq_ HO752.out); have n2_ := Aside0.mk (Kd.R_at hq_ HO756.out); have n3_ := Aside0.mk (Kd.R_at hq_ HO760.out); have n4_ := Aside0.mk (blk_at hq_ BK744.out); have n5_ := Aside0.mk (blk_at hq_ BK757.out); have n6_ := Aside0.mk (below_at hq_ HB.out); clear hq_ HO749 HO752 HO756 HO760 BK744 BK757 HB; have HO749 := n0_; have HO752 := n1_; have HO756 := n2_; have HO760 := n3_; have BK744 := n4_; have BK757 := n5_; have HB := n6_; clear n0_ n1_ n2_ n3_ n4_ n5_ n6_))
    have n0_ := Aside0.mk (Kd.R_drew HO749.out)
    have n1_ := Aside0.mk (Kd.R_drew HO752.out)
    have n2_ := Aside0.mk (Kd.R_drew HO756.out)
    have n3_ := Aside0.mk (Kd.R_drew HO760.out)
    have n4_ := Aside0.mk (blk_drew BK744.out)
    have n5_ := Aside0.mk (blk_drew BK757.out)
    have n6_ := Aside0.mk (below_drew1 HB.out)
    clear HO749
    clear HO752
    clear HO756
    clear HO760
    clear BK744
    clear BK757
    clear HB
    have HO749 := n0_
    have HO752 := n1_
    have HO756 := n2_
    have HO760 := n3_
    have BK744 := n4_
    have BK757 := n5_
    have HB := n6_
    clear n0_ n1_ n2_ n3_ n4_ n5_ n6_
    refine start_ (n := 5) (S := fun w' => w'.cell? ⟨gb757, 0, none⟩ = some (.int .i64 t753) ∧ w'.cell? ⟨gb757, 1, none⟩ = some (.slice Ao32 t754.length co32) ∧ w'.cell? ⟨gb744, 0, none⟩ = some (.int .i64 a0_0) ∧ w'.cell? ⟨gb744, 1, none⟩ = some (.slice A0_1 l0_1.length c0_1)) (ds := []) (ms 5 0) (by kernel_rfl) rfl (by kernel_rfl) ⟨(blk_cell BK757.out 0).trans rfl, (blk_cell BK757.out 1).trans rfl, (blk_cell BK744.out 0).trans rfl, (blk_cell BK744.out 1).trans rfl⟩ (fun hHeld => ?_)
    generalize w33.drew = w36 at HO749 HO752 HO756 HO760 BK744 BK757 HB hHeld ⊢
    refine take_ (i := 0) (N := some 35) (v := ?_) (a' := ?_) (ms 5 1) rfl rfl (by kernel_rfl) (fun _ _ _ h => h) (Or.inl ⟨by rfl, ?_⟩) hHeld ?_ ?_
    rotate_left
    ·rintro w' ⟨s0, s1, s2, s3⟩
     go_simp
     with_reducible rfl
    rotate_left
    ·simp only [Act.put, sA, sB, sC, i64_w, i32_w]
     rfl
    refine take_ (i := 1) (N := some 36) (v := ?_) (a' := ?_) (ms 5 3) rfl rfl (by kernel_rfl) (fun _ _ _ h => h) (Or.inl ⟨by rfl, ?_⟩) hHeld ?_ ?_
    rotate_left
    ·rintro w' ⟨s0, s1, s2, s3⟩
     go_simp
     with_reducible rfl
    rotate_left
    ·simp only [Act.put, sA, sB, sC, i64_w, i32_w]
     rfl
    refine one_ (i := 2) (N := some 37) (ms 5 7) rfl rfl (by kernel_rfl) (by decide) (fun K hK => ?_)
    refine goes_ Try.func21 (by kernel_rfl) rfl #[.agg #[.int .i64 a0_0, .slice A0_1 l0_1.length c0_1]] (by rfl) rfl rfl (by (try simp only [List.map_toArray, List.map_cons, List.map_nil]); first | done | rfl | (simp only [List.length_drop, List.length_take]; rfl)) ?_
    with_reducible refine (laws_toNet.calls k a0_0 _ _ l0_1 t762 t763 _ ?side1 ?side2 A15.out).mono ?_
    (case side1 => repeat (first | exact (Kd.C_below HR0_1.out HB.out) | (with_reducible refine Kd.C_alloc ?_ _) | (with_reducible refine Kd.C_drewN ?_ _) | (with_reducible refine Kd.C_drew ?_)))
    (case side2 => exact HC0_1.out)
    rintro e w37 ⟨v764, rfl, ho0, hb⟩
    refine ⟨_, rfl, ?_⟩
    have n0_ := Aside0.mk (Kd.R_elder' (rk HO749) (Kd.R_base ho0) hb)
    have n1_ := Aside0.mk (Kd.R_below (rk HO752) hb)
    have n2_ := Aside0.mk (Kd.R_elder' (rk HO756) (Kd.R_base ho0) hb)
    have n3_ := Aside0.mk (Kd.R_below (rk HO760) hb)
    have n4_ := Aside0.mk (Kd.R_lower (Kd.R_new' (Kd.R_new' ho0 (Kd.R_lt (rk HO749))) (Kd.R_lt (rk HO756))) (below_size (bl2 HB GE744 GE757)))
    have n5_ := Aside0.mk (blk_below (bk BK744) hb)
    have n6_ := Aside0.mk (blk_below (bk BK757) hb)
    have n7_ := Aside0.mk (below_step (bl2 HB GE744 GE757) hb)
    clear HO749
    clear HO752
    clear HO756
    clear HO760
    clear BK744
    clear BK757
    clear HB
    have HO749 := n0_
    have HO752 := n1_
    have HO756 := n2_
    have HO760 := n3_
    have HO765 := n4_
    have BK744 := n5_
    have BK757 := n6_
    have HB := n7_
    clear n0_ n1_ n2_ n3_ n4_ n5_ n6_ n7_
    (try clear hb)
    (try clear hb2)
    (try clear hk)
    (try clear hi)
    (try clear ho0)
    obtain ⟨Ao38, co38, eo38⟩ := Kd.R_slice HO765.out
    (first | subst eo38 | (injection eo38 with f1_ f2_ f3_; have f4_ := f1_.symm; have f5_ := f3_.symm; clear f1_ f2_ f3_; subst f4_; subst f5_))
    refine hK.out _ _ ⟨(blk_cell BK757.out 0).trans rfl, (blk_cell BK757.out 1).trans rfl, (blk_cell BK744.out 0).trans rfl, (blk_cell BK744.out 1).trans rfl⟩ (fun hHeld => ?_)
    clear hK K
    refine norm_ (a' := ?_) ?_ ?_
    rotate_left
    ·show Act.put _ (some 37) _ = _
     simp only [Act.put, sA, sB, sC, i64_w, i32_w]
     rfl
    refine one_ (i := 3) (N := some 38) (ms 5 15) rfl rfl (by kernel_rfl) (by decide) (fun K hK => ?_)
    refine goes_ Try.func22 (by kernel_rfl) rfl #[.agg #[.int .i64 t753, .slice Ao32 t754.length co32], .agg #[.int .i64 t762, .slice Ao38 t763.length co38]] (by rfl) rfl rfl (by (try simp only [List.map_toArray, List.map_cons, List.map_nil]); first | done | rfl | (simp only [List.length_drop, List.length_take]; rfl)) ?_
    with_reducible refine (laws_eqNet.calls k t753 _ _ t754 t762 _ _ t763 true _ ?side1 ?side2 ?side3 ?side4 A16.out).mono ?_
    (case side1 => repeat (first | exact (Kd.R_reads' HO756.out).2.2 | (with_reducible refine Kd.C_alloc ?_ _) | (with_reducible refine Kd.C_drewN ?_ _) | (with_reducible refine Kd.C_drew ?_)))
    (case side2 => exact (Kd.R_reads' HO756.out).2.1)
    (case side3 => repeat (first | exact (Kd.R_reads' HO765.out).2.2 | (with_reducible refine Kd.C_alloc ?_ _) | (with_reducible refine Kd.C_drewN ?_ _) | (with_reducible refine Kd.C_drew ?_)))
    (case side4 => exact (Kd.R_reads' HO765.out).2.1)
    rintro e w39 ⟨rfl, hb⟩
    refine ⟨_, rfl, ?_⟩
    have n0_ := Aside0.mk (Kd.R_below (rk HO749) hb)
    have n1_ := Aside0.mk (Kd.R_below (rk HO752) hb)
    have n2_ := Aside0.mk (Kd.R_below (rk HO756) hb)
    have n3_ := Aside0.mk (Kd.R_below (rk HO760) hb)
    have n4_ := Aside0.mk (Kd.R_below (rk HO765) hb)
    have n5_ := Aside0.mk (blk_below (bk BK744) hb)
    have n6_ := Aside0.mk (blk_below (bk BK757) hb)
    have n7_ := Aside0.mk (below_step (bl2 HB GE744 GE757) hb)
    clear HO749
    clear HO752
    clear HO756
    clear HO760
    clear HO765
    clear BK744
    clear BK757
    clear HB
    have HO749 := n0_
    have HO752 := n1_
    have HO756 := n2_
    have HO760 := n3_
    have HO765 := n4_
    have BK744 := n5_
    have BK757 := n6_
    have HB := n7_
    clear n0_ n1_ n2_ n3_ n4_ n5_ n6_ n7_
    (try clear hb)
    (try clear hb2)
    (try clear hk)
    (try clear hi)
    refine hK.out _ _ ⟨(blk_cell BK757.out 0).trans rfl, (blk_cell BK757.out 1).trans rfl, (blk_cell BK744.out 0).trans rfl, (blk_cell BK744.out 1).trans rfl⟩ (fun hHeld => ?_)
    clear hK K
    refine norm_ (a' := ?_) ?_ ?_
    rotate_left
    ·show Act.put _ (some 38) _ = _
     simp only [Act.put, sA, sB, sC, i64_w, i32_w]
     rfl
    refine pure_ (i := 4) (N := some 39) (v := ?_) (a' := ?_) (ms 5 31) rfl rfl (by kernel_rfl) (fun _ _ _ h => h) (Or.inl ⟨by rfl, ?_⟩) ?_ ?_
    rotate_left
    ·intro w'
     go_simp
     with_reducible rfl
    rotate_left
    ·simp only [Act.put, sA, sB, sC, i64_w, i32_w]
     rfl
    refine done_ (by kernel_rfl) ?_
    have hcz40_0 : w39.cell? ⟨gb757, 0, none⟩ = some (.int .i64 t753) := (blk_cell BK757.out 0).trans rfl
    have hcz40_1 : w39.cell? ⟨gb757, 1, none⟩ = some (.slice Ao32 t754.length co32) := (blk_cell BK757.out 1).trans rfl
    have hfz40_0 := blk_frozen BK757.out 0
    have hfz40_1 := blk_frozen BK757.out 1
    go_upto_region 14 with (first | ((with_reducible refine gate_callee (f := 23) rfl ?_); refine goesL_ (some 42) rfl rfl Try.func23 (by kernel_rfl) rfl #[.agg #[.int .i64 t753, .slice Ao32 t754.length co32], .int .i64 1] rfl (by (try simp only [List.map_toArray, List.map_cons, List.map_nil]); first | done | rfl | (simp only [List.length_drop, List.length_take]; rfl)) ?_; (with_reducible refine (laws_markNet.calls k t753 (fun k_ => some k_ = (.slice Ao32 t754.length co32 : Value).ownBlock) (.slice Ao32 t754.length co32) t754 1 t767 t768 w _ ?side1 ?side2 A18.out).mono ?_); (case side1 => repeat (first | (with_reducible first | exact HB.out | apply below_alloc | apply pw_below_drewN | apply below_drew1 | refine below_set ?_ GE744.out | refine below_set ?_ GE757.out) | exact HB.out)); (case side2 => exact Kd.R_tight rfl HO756.out); rintro e w41 ⟨rfl, hy0, hb, hkp⟩; refine ⟨_, rfl, ?_⟩; have n0_ := Aside0.mk (blk_kept (bk BK744) hkp (fun hs_ => (fun e_ => (Kd.R_ne HO756.out BK744.out (by decide)) e_) hs_)); have n1_ := Aside0.mk (Kd.R_mono (ok' := fun k_ => some k_ ≠ (.slice Ao32 t754.length co32 : Value).ownBlock ∧ some k_ ≠ (.slice Ao38 t763.length co38 : Value).ownBlock) (Kd.R_keptB (HO749.out) hkp (fun k_ hk_ hs_ => (hk_.1.2) hs_)) (fun k_ hk_ => ⟨hk_.1.1.2, hk_.1.2⟩)); have n2_ := Aside0.mk (Kd.R_mono (ok' := fun k_ => some k_ ≠ (.slice Ao34 t758.length co34 : Value).ownBlock) (Kd.R_keptB ((Kd.R_apart' HO752.out (Kd.R_typed HO756.out) (by decide))) hkp (fun k_ hk_ hs_ => (hk_.2) hs_)) (fun k_ hk_ => hk_.1.1.2)); have n3_ := Aside0.mk (Kd.R_reok rfl hy0 (fun k_ e_ => HO756.out.1 k_ e_)); have n4_ := Aside0.mk (blk_kept (bk BK757) hkp (fun hs_ => (fun e_ => (Kd.R_ne HO756.out BK757.out (by decide)) e_) hs_)); have n5_ := Aside0.mk (Kd.R_mono (ok' := fun k_ => some k_ ≠ (.slice Ao35 t750.length co35 : Value).ownBlock) (Kd.R_keptB ((Kd.R_apart' HO760.out (Kd.R_typed HO756.out) (by decide))) hkp (fun k_ hk_ hs_ => (hk_.2) hs_)) (fun k_ hk_ => hk_.1.1.2)); have n6_ := Aside0.mk (Kd.R_mono (ok' := fun k_ => some k_ ≠ (.slice Ao25 t747.length co25 : Value).ownBlock ∧ some k_ ≠ (.slice Ao32 t754.length co32 : Value).ownBlock) (Kd.R_keptB (HO765.out) hkp (fun k_ hk_ hs_ => (hk_.2) hs_)) (fun k_ hk_ => ⟨hk_.1.1.2, hk_.1.2⟩)); have n7_ := Aside0.mk (hb); clear BK744; clear HO749; clear HO752; clear HO756; clear BK757; clear HO760; clear HO765; clear HB; have BK744 := n0_; have HO749 := n1_; have HO752 := n2_; have HO756 := n3_; have BK757 := n4_; have HO760 := n5_; have HO765 := n6_; have HB := n7_; clear n0_ n1_ n2_ n3_ n4_ n5_ n6_ n7_; (try clear hb); (try clear hkp); (try clear hy0)))
    (try simp only [Act.put, List.setIfInBounds_toArray, List.set_cons_zero, List.set_cons_succ])
    go_cut [50] (fun v50 wc => ∃ (kq : Nat) (x50_18 : Bool), v50 = .bool x50_18 ∧ Aside0 (laws_FnExactReachArcs.j0 kq a1 a2 t750 t758 x50_18 a0_0 l0_1 = some r) ∧ Aside0 (kq ≤ k) ∧ Aside0 (Kd.R (Kd.int .i64) 3 wc w.heap.size (fun k_ => some k_ ≠ ((.slice Ao34 t758.length co34) : Value).ownBlock) (.slice Ao35 t750.length co35) t750) ∧ Aside0 (Kd.R (Kd.int .i64) 3 wc w.heap.size (fun k_ => some k_ ≠ ((.slice Ao35 t750.length co35) : Value).ownBlock) (.slice Ao34 t758.length co34) t758) ∧ Aside0 (Kd.R k31 31 wc w.heap.size (fun _ => True) (.slice Ao32 t754.length co32) t768) ∧ Aside0 (wc.heap[gb744]? = some (.cells #[.int .i64 a0_0, (.slice A0_1 l0_1.length c0_1)] 36 (0, 0))) ∧ Aside0 (wc.heap[gb757]? = some (.cells #[.int .i64 t753, (.slice Ao32 t754.length co32)] 25 (0, 0))) ∧ Aside0 (Below w.heap.size w wc))
    case first =>
     have H := HC19.out
     clear HC19
     by_cases c42 : t767 < 0
     ·rw [if_pos c42] at H
      have c42b0 : decide (t767 < 0) = true := decide_eq_true c42
      clear c42
      (first | rw [c42b0] | (simp only [i64_w, i32_w]; rw [c42b0]) | skip)
      have H' := Aside0.mk H
      clear H
      go_wp2
      go_meet
      case rel => exact ⟨_, (true), (by first | rfl | (simp; done) | (simp [*]; done)), H', ⟨by first | omega | exact Nat.le_refl _⟩, ⟨rk HO752⟩, ⟨rk HO760⟩, ⟨by (with_reducible repeat (first | apply Kd.R_alloc | apply Kd.R_drewN | apply Kd.R_drew)); exact Kd.R_mono HO756.out (fun _ hk => trivial)⟩, ⟨bk BK744⟩, ⟨bk BK757⟩, ⟨bl2 HB GE744 GE757⟩⟩
     ·rw [if_neg c42] at H
      have c42b0 : decide (t767 < 0) = false := decide_eq_false c42
      clear c42
      (first | rw [c42b0] | (simp only [i64_w, i32_w]; rw [c42b0]) | skip)
      replace H := Option.bind_eq_some_iff.mp H
      obtain ⟨t769, A430, H⟩ := H
      have A43 := Aside0.mk A430
      clear A430
      have H' := Aside0.mk H
      clear H
      go_wp2_with (first | (go_at_call 28; (with_reducible refine (laws_eqIntS.calls k _ _ t758 _ _ t750 t769 _ ?side1 ?side2 ?side3 ?side4 A43.out).mono ?_); (case side1 => repeat (first | exact (Kd.R_reads' HO760.out).2.2 | (with_reducible refine Kd.C_alloc ?_ _) | (with_reducible refine Kd.C_drewN ?_ _) | (with_reducible refine Kd.C_drew ?_))); (case side2 => exact (Kd.R_reads' HO760.out).2.1); (case side3 => repeat (first | exact (Kd.R_reads' HO752.out).2.2 | (with_reducible refine Kd.C_alloc ?_ _) | (with_reducible refine Kd.C_drewN ?_ _) | (with_reducible refine Kd.C_drew ?_))); (case side4 => exact (Kd.R_reads' HO752.out).2.1); rintro e w' ⟨rfl, ⟨nd, rfl⟩⟩))
      go_meet
      case rel => exact ⟨_, (!t769), (by first | rfl | (simp; done) | (simp [*]; done)), H', ⟨by first | omega | exact Nat.le_refl _⟩, ⟨rk HO752⟩, ⟨rk HO760⟩, ⟨by (with_reducible repeat (first | apply Kd.R_alloc | apply Kd.R_drewN | apply Kd.R_drew)); exact Kd.R_mono HO756.out (fun _ hk => trivial)⟩, ⟨bk BK744⟩, ⟨bk BK757⟩, ⟨bl2 HB GE744 GE757⟩⟩
    case rest =>
     clear HC19
     try clear c1
     try clear c2
     try clear p2
     try clear c3
     try clear c4
     try clear c5
     try clear c5b0
     try clear c14
     try clear c17
     try clear c20
     try clear c21
     try clear c22
     try clear c23
     try clear c28
     try clear c30
     try clear c42
     try clear c42b0
     try clear hcz21_0
     try clear hcz21_1
     try clear hcz23_0
     try clear hcz23_1
     try clear hcz27_0
     try clear hcz27_1
     try clear hcz31_0
     try clear hcz31_1
     try clear hcz40_0
     try clear hcz40_1
     try clear hcz7_0
     try clear hcz7_1
     try clear hfz21_0
     try clear hfz21_1
     try clear hfz23_0
     try clear hfz23_1
     try clear hfz27_0
     try clear hfz27_1
     try clear hfz31_0
     try clear hfz31_1
     try clear hfz40_0
     try clear hfz40_1
     try clear hfz7_0
     try clear hfz7_1
     obtain ⟨kq, x50_18, rfl, HA, HJ18, HO_8, HO_10, HO_758001, BK744, BK757, HB⟩ := hcut
     have hl758001_18 := (Kd.R_reads' HO_758001.out).1
     rw [hl758001_18] at HO_758001
     (try simp only [hl758001_18])
     (try simp only [hl758001_18] at BK744)
     (try simp only [hl758001_18] at BK757)
     (try simp only [hl758001_18] at HO_8)
     (try simp only [hl758001_18] at HO_10)
     cases kq with
     | zero => exact absurd HA.out (by simp [laws_FnExactReachArcs.j0])
     | succ kj18 =>
      have H := HA.out
      clear HA
      simp only [laws_FnExactReachArcs.j0] at H
      by_cases c44 : x50_18 = true
      ·subst c44
       rw [if_pos rfl] at H
       exact absurd ((Option.some.inj H).trans hr_) Bool.false_ne_true
      ·replace c44 := Bool.eq_false_iff.mpr c44
       subst c44
       rw [if_neg (show ¬ (false = true) by decide)] at H
       replace H := Option.bind_eq_some_iff.mp H
       obtain ⟨⟨t770, t771⟩, A450, H⟩ := H
       have A45 := Aside0.mk A450
       clear A450
       replace H := Option.bind_eq_some_iff.mp H
       obtain ⟨t772, A460, H⟩ := H
       have A46 := Aside0.mk A460
       clear A460
       by_cases c47 : t772 < 0
       ·rw [if_pos c47] at H
        have c47b0 : decide (t772 < 0) = true := decide_eq_true c47
        clear c47
        exact absurd ((Option.some.inj H).trans hr_) Bool.false_ne_true
       ·rw [if_neg c47] at H
        have c47b0 : decide (t772 < 0) = false := decide_eq_false c47
        clear c47
        by_cases c48 : t772 = t770
        ·rw [if_pos c48] at H
         have c48b0 : (t772 == t770) = true := beq_iff_eq.mpr c48
         have c48b1 : (t772 != t770) = false := bne_eq_false_iff_eq.mpr c48
         clear c48
         replace H := Option.bind_eq_some_iff.mp H
         obtain ⟨⟨t773, t774⟩, A490, H⟩ := H
         have A49 := Aside0.mk A490
         clear A490
         replace H := Option.bind_eq_some_iff.mp H
         obtain ⟨t777, A500, H⟩ := H
         have A50 := Aside0.mk A500
         clear A500
         replace H := Option.bind_eq_some_iff.mp H
         obtain ⟨t780, A510, H⟩ := H
         have A51 := Aside0.mk A510
         clear A510
         by_cases c52 : t780 = true
         ·subst c52
          rw [if_pos rfl] at H
          replace H := Option.bind_eq_some_iff.mp H
          obtain ⟨t781, A530, H⟩ := H
          have A53 := Aside0.mk A530
          clear A530
          by_cases c54 : t781 < 0
          ·rw [if_pos c54] at H
           have c54b0 : decide (t781 < 0) = true := decide_eq_true c54
           clear c54
           exact absurd ((Option.some.inj H).trans hr_) Bool.false_ne_true
          ·rw [if_neg c54] at H
           have c54b0 : decide (t781 < 0) = false := decide_eq_false c54
           clear c54
           by_cases c55 : t781 = t770
           ·rw [if_pos c55] at H
            have c55b0 : (t781 == t770) = true := beq_iff_eq.mpr c55
            have c55b1 : (t781 != t770) = false := bne_eq_false_iff_eq.mpr c55
            clear c55
            obtain rfl := Option.some.inj H
            go_wp2_with (first | ((with_reducible refine gate_callee (f := 55) rfl ?_); refine goesL_ (some 53) rfl rfl Try.func55 (by kernel_rfl) rfl #[.slice Ao34 t758.length co34, .int .i64 1] rfl (by (try simp only [List.map_toArray, List.map_cons, List.map_nil]); first | done | rfl | (simp only [List.length_drop, List.length_take]; rfl)) ?_; (with_reducible refine (laws_markIntS.calls kj18 (fun k_ => some k_ = (.slice Ao34 t758.length co34 : Value).ownBlock) (.slice Ao34 t758.length co34) t758 1 t770 t771 w _ ?side1 ?side2 A45.out).mono ?_); (case side1 => repeat (first | (with_reducible first | exact HB.out | apply below_alloc | apply pw_below_drewN | apply below_drew1 | refine below_set ?_ GE744.out | refine below_set ?_ GE757.out) | exact HB.out)); (case side2 => exact Kd.R_tight rfl HO_10.out); rintro e w56 ⟨rfl, hy0, hb, hkp⟩; refine ⟨_, rfl, ?_⟩; have n0_ := Aside0.mk (Kd.R_mono (ok' := fun k_ => some k_ ≠ (.slice Ao34 t758.length co34 : Value).ownBlock) (Kd.R_keptB (HO_8.out) hkp (fun k_ hk_ hs_ => (hk_) hs_)) (fun k_ hk_ => hk_.1)); have n1_ := Aside0.mk (Kd.R_reok rfl hy0 (fun k_ e_ => HO_10.out.1 k_ e_)); have n2_ := Aside0.mk (Kd.R_mono (ok' := fun k_ => True) (Kd.R_keptB ((Kd.R_apart' HO_758001.out (Kd.R_typed HO_10.out) (by decide))) hkp (fun k_ hk_ hs_ => (hk_.2) hs_)) (fun k_ hk_ => trivial)); have n3_ := Aside0.mk (blk_kept (bk BK744) hkp (fun hs_ => (fun e_ => (Kd.R_ne HO_10.out BK744.out (by decide)) e_) hs_)); have n4_ := Aside0.mk (blk_kept (bk BK757) hkp (fun hs_ => (fun e_ => (Kd.R_ne HO_10.out BK757.out (by decide)) e_) hs_)); have n5_ := Aside0.mk (hb); clear HO_8; clear HO_10; clear HO_758001; clear BK744; clear BK757; clear HB; have HO_8 := n0_; have HO_10 := n1_; have HO_758001 := n2_; have BK744 := n3_; have BK757 := n4_; have HB := n5_; clear n0_ n1_ n2_ n3_ n4_ n5_; (try clear hb); (try clear hkp); (try clear hy0)) | ((with_reducible refine gate_callee (f := 56) rfl ?_); refine goesL_ (some 56) rfl rfl Try.func56 (by kernel_rfl) rfl #[.slice Ao34 t771.length co34, .int .i64 1] rfl (by (try simp only [List.map_toArray, List.map_cons, List.map_nil]); first | done | (rw [show t771.length = t758.length from (Kd.R_reads' HO_10.out).1.symm] <;> rfl) | rfl | (simp only [List.length_drop, List.length_take]; rfl)) ?_; (with_reducible refine (laws_heldIntS.calls kj18 _ _ t771 1 t772 _ ?side1 ?side2 A46.out).mono ?_); (case side1 => repeat (first | exact (Kd.R_reads' HO_10.out).2.2 | (with_reducible refine Kd.C_alloc ?_ _) | (with_reducible refine Kd.C_drewN ?_ _) | (with_reducible refine Kd.C_drew ?_))); (case side2 => rw [show t771.length = t758.length from (Kd.R_reads' HO_10.out).1.symm]; exact (Kd.R_reads' HO_10.out).2.1); rintro e w' ⟨rfl, ⟨nd, rfl⟩⟩; refine ⟨_, rfl, ?_⟩; have hnb57 := NB744_757.out; have hnc57 := NB757_744.out; have hcz58_0 : w56.cell? ⟨gb744, 0, none⟩ = some (.int .i64 a0_0) := (blk_cell BK744.out 0).trans rfl; have hcz58_1 : w56.cell? ⟨gb744, 1, none⟩ = some (.slice A0_1 l0_1.length c0_1) := (blk_cell BK744.out 1).trans rfl; have hfz58_0 := blk_frozen BK744.out 0; have hfz58_1 := blk_frozen BK744.out 1) | ((with_reducible refine gate_callee (f := 21) rfl ?_); refine goesL_ (some 63) rfl rfl Try.func21 (by kernel_rfl) rfl #[.agg #[.int .i64 a0_0, .slice A0_1 l0_1.length c0_1]] rfl (by (try simp only [List.map_toArray, List.map_cons, List.map_nil]); first | done | rfl | (simp only [List.length_drop, List.length_take]; rfl)) ?_; (with_reducible refine (laws_toNet.calls kj18 a0_0 _ _ l0_1 t773 t774 _ ?side1 ?side2 A49.out).mono ?_); (case side1 => repeat (first | exact (Kd.C_below HR0_1.out (bl2 HB GE744 GE757)) | (with_reducible refine Kd.C_alloc ?_ _) | (with_reducible refine Kd.C_drewN ?_ _) | (with_reducible refine Kd.C_drew ?_))); (case side2 => exact HC0_1.out); rintro e w59 ⟨v775, rfl, ho0, hb⟩; refine ⟨_, rfl, ?_⟩; have n0_ := Aside0.mk (Kd.R_below (rk HO_8) hb); have n1_ := Aside0.mk (Kd.R_below (rk HO_10) hb); have n2_ := Aside0.mk (Kd.R_elder' (rk HO_758001) (Kd.R_base ho0) hb); have n3_ := Aside0.mk (Kd.R_lower (Kd.R_new' ho0 (Kd.R_lt (rk HO_758001))) (below_size (bl2 HB GE744 GE757))); have n4_ := Aside0.mk (blk_below (bk BK744) hb); have n5_ := Aside0.mk (blk_below (bk BK757) hb); have n6_ := Aside0.mk (below_step (bl2 HB GE744 GE757) hb); clear HO_8; clear HO_10; clear HO_758001; clear BK744; clear BK757; clear HB; have HO_8 := n0_; have HO_10 := n1_; have HO_758001 := n2_; have HO776 := n3_; have BK744 := n4_; have BK757 := n5_; have HB := n6_; clear n0_ n1_ n2_ n3_ n4_ n5_ n6_; (try clear hb); (try clear hb2); (try clear hk); (try clear hi); (try clear ho0); obtain ⟨Ao60, co60, eo60⟩ := Kd.R_slice HO776.out; subst eo60) | ((with_reducible refine gate_callee (f := 50) rfl ?_); refine goesL_ (some 66) rfl rfl Try.func50 (by kernel_rfl) rfl #[.agg #[.int .i64 t773, .slice Ao60 t774.length co60], .int .i64 a1, .int .i64 a2] rfl (by (try simp only [List.map_toArray, List.map_cons, List.map_nil]); first | done | rfl | (simp only [List.length_drop, List.length_take]; rfl)) ?_; (with_reducible refine (impl_ReachArcs.calls kj18 t773 _ _ t774 a1 a2 t777 _ ?side1 ?side2 A50.out).mono ?_); (case side1 => repeat (first | exact (Kd.R_reads' HO776.out).2.2 | (with_reducible refine Kd.C_alloc ?_ _) | (with_reducible refine Kd.C_drewN ?_ _) | (with_reducible refine Kd.C_drew ?_))); (case side2 => exact (Kd.R_reads' HO776.out).2.1); rintro e w61 ⟨v778, rfl, ho0, hb⟩; refine ⟨_, rfl, ?_⟩; have n0_ := Aside0.mk (Kd.R_elder' (rk HO_8) (Kd.R_base ho0) hb); have n1_ := Aside0.mk (Kd.R_elder' (rk HO_10) (Kd.R_base ho0) hb); have n2_ := Aside0.mk (Kd.R_below (rk HO_758001) hb); have n3_ := Aside0.mk (Kd.R_below (rk HO776) hb); have n4_ := Aside0.mk (Kd.R_lower (Kd.R_new' (Kd.R_new' ho0 (Kd.R_lt (rk HO_8))) (Kd.R_lt (rk HO_10))) (below_size (bl2 HB GE744 GE757))); have n5_ := Aside0.mk (blk_below (bk BK744) hb); have n6_ := Aside0.mk (blk_below (bk BK757) hb); have n7_ := Aside0.mk (below_step (bl2 HB GE744 GE757) hb); clear HO_8; clear HO_10; clear HO_758001; clear HO776; clear BK744; clear BK757; clear HB; have HO_8 := n0_; have HO_10 := n1_; have HO_758001 := n2_; have HO776 := n3_; have HO779 := n4_; have BK744 := n5_; have BK757 := n6_; have HB := n7_; clear n0_ n1_ n2_ n3_ n4_ n5_ n6_ n7_; (try clear hb); (try clear hb2); (try clear hk); (try clear hi); (try clear ho0); obtain ⟨Ao62, co62, eo62⟩ := Kd.R_slice HO779.out; subst eo62) | ((with_reducible refine gate_callee (f := 28) rfl ?_); refine goesL_ (some 69) rfl rfl Try.func28 (by kernel_rfl) rfl #[.slice Ao62 t777.length co62, .slice Ao35 t750.length co35] rfl (by (try simp only [List.map_toArray, List.map_cons, List.map_nil]); first | done | rfl | (simp only [List.length_drop, List.length_take]; rfl)) ?_; (with_reducible refine (laws_eqIntS.calls kj18 _ _ t777 _ _ t750 true _ ?side1 ?side2 ?side3 ?side4 A51.out).mono ?_); (case side1 => repeat (first | exact (Kd.R_reads' HO779.out).2.2 | (with_reducible refine Kd.C_alloc ?_ _) | (with_reducible refine Kd.C_drewN ?_ _) | (with_reducible refine Kd.C_drew ?_))); (case side2 => exact (Kd.R_reads' HO779.out).2.1); (case side3 => repeat (first | exact (Kd.R_reads' HO_8.out).2.2 | (with_reducible refine Kd.C_alloc ?_ _) | (with_reducible refine Kd.C_drewN ?_ _) | (with_reducible refine Kd.C_drew ?_))); (case side4 => exact (Kd.R_reads' HO_8.out).2.1); rintro e w' ⟨rfl, ⟨nd, rfl⟩⟩; refine ⟨_, rfl, ?_⟩) | ((with_reducible refine gate_callee (f := 56) rfl ?_); refine goesL_ (some 73) rfl rfl Try.func56 (by kernel_rfl) rfl #[.slice Ao34 t771.length co34, .int .i64 1] rfl (by (try simp only [List.map_toArray, List.map_cons, List.map_nil]); first | done | (rw [show t771.length = t758.length from (Kd.R_reads' HO_10.out).1.symm] <;> rfl) | rfl | (simp only [List.length_drop, List.length_take]; rfl)) ?_; (with_reducible refine (laws_heldIntS.calls kj18 _ _ t771 1 t781 _ ?side1 ?side2 A53.out).mono ?_); (case side1 => repeat (first | exact (Kd.R_reads' HO_10.out).2.2 | (with_reducible refine Kd.C_alloc ?_ _) | (with_reducible refine Kd.C_drewN ?_ _) | (with_reducible refine Kd.C_drew ?_))); (case side2 => rw [show t771.length = t758.length from (Kd.R_reads' HO_10.out).1.symm]; exact (Kd.R_reads' HO_10.out).2.1); rintro e w' ⟨rfl, ⟨nd, rfl⟩⟩; refine ⟨_, rfl, ?_⟩))
            go_ret
            exact ⟨by first | rfl | (simp [errW_none, errW_some] <;> rfl) | (simp [*, errW_none, errW_some] <;> rfl), bl2 HB GE744 GE757⟩
           ·rw [if_neg c55] at H
            have c55b0 : (t781 == t770) = false := beq_eq_false_iff_ne.mpr c55
            have c55b1 : (t781 != t770) = true := bne_iff_ne.mpr c55
            exact absurd ((Option.some.inj H).trans hr_) Bool.false_ne_true
         ·replace c52 := Bool.eq_false_iff.mpr c52
          subst c52
          rw [if_neg (show ¬ (false = true) by decide)] at H
          exact absurd ((Option.some.inj H).trans hr_) Bool.false_ne_true
        ·rw [if_neg c48] at H
         have c48b0 : (t772 == t770) = false := beq_eq_false_iff_ne.mpr c48
         have c48b1 : (t772 != t770) = true := bne_iff_ne.mpr c48
         exact absurd ((Option.some.inj H).trans hr_) Bool.false_ne_true
   ·replace c17 := Bool.eq_false_iff.mpr c17
    subst c17
    rw [if_neg (show ¬ (false = true) by decide)] at H
    exact absurd ((Option.some.inj H).trans hr_) Bool.false_ne_true
  ·replace c14 := Bool.eq_false_iff.mpr c14
   subst c14
   rw [if_neg (show ¬ (false = true) by decide)] at H
   exact absurd ((Option.some.inj H).trans hr_) Bool.false_ne_true
/-- THE ONE PURE STATEMENT of laws_FnExactReachArcs. -/
def laws_FnExactReachArcs.Pure : Prop := ∀ (a0_0 : Int) (l0_1 : List (S118)) (a1 : Int) (a2 : Int), (Lit.int .i64 a0_0).wf = true → (l0_1.length ≤ 9223372036854775807 ∧ ∀ y_ ∈ l0_1, ((Lit.int .i64 y_.f0).wf = true ∧ ((Lit.int .i64 y_.f1).wf = true ∧ ((Lit.int .i64 y_.f2).wf = true ∧ ((Lit.int .i64 y_.f3).wf = true ∧ ((Lit.int .i64 y_.f4).wf = true)))))) → (Lit.int .i64 a1).wf = true → (Lit.int .i64 a2).wf = true → ∃ k, laws_FnExactReachArcs.f k a0_0 l0_1 a1 a2 = some true

end Go.Proofs.Ythgihpbpebbebaa.F
