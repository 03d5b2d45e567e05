-- Printed by wip/px/px.py of this claim's repository (the kit's printer, extended there). Lean checks it.
import Derived.Test.YtbappbbljncdeaaFKinds
import Derived.Test.YtbappbbljncdeaaFlawsNet
import Derived.Test.YtbappbbljncdeaaFlawsNet
import Derived.Test.YtbappbbljncdeaaFlawsNet
import Derived.Test.YtbappbbljncdeaaFlawsInt
import Derived.Test.YtbappbbljncdeaaFlawsMarkInt
import Derived.Test.YtbappbbljncdeaaFlawsMarkInt
import Derived.Test.YtbappbbljncdeaaFlawsMarkInt
import Derived.Test.YtbappbbljncdeaaFspecLoadWalk
import Derived.Test.YtbappbbljncdeaaFimplLoadWalk
namespace Go.Proofs.Ytbappbbljncdeaa.F
open Go.RowKit Go.Proofs.YtbappbbljncdeaaW.PrintWords Go.Proofs.YtbappbbljncdeaaW.PrintLast Go.Proofs.YtbappbbljncdeaaW.PrintMore
attribute [local go_sem] max2_int min2_int max_two min_two max_three min_three max_four min_four   -- for this text's walks alone
set_option linter.unusedVariables false
set_option linter.unusedSimpArgs false

/-! ### laws_FnExactLoadWalk: function 8 -/
mutual
def laws_FnExactLoadWalk.j0 : Nat → Int → Int → Int → List Int → Bool → List Int → Bool → Bool → Int → List (S132) → Int → List (S100) → Option (Bool)
 | 0, _, _, _, _, _, _, _, _, _, _, _, _ => none
 | k + 1, x1, x2, x3, x10, x11, x13, x14, x52, x635000, x635001, x649000, x649001 => if x52 = true then (some false) else ((laws_toNet.f k x635000 x635001).bind fun bt654 => ((laws_eqNet.f k x649000 x649001 bt654.1 bt654.2).bind fun t658 => (if t658 = true then ((laws_markNet.f k x649000 x649001 1).bind fun bt659 => (if bt659.1 < 0 then (laws_FnExactLoadWalk.j1 k x1 x2 x3 x10 x11 x13 true x635000 x635001) else ((laws_eqIntS.f k x13 x10).bind fun t661 => (if t661 = true then (laws_FnExactLoadWalk.j1 k x1 x2 x3 x10 x11 x13 (x14 != x11) x635000 x635001) else (laws_FnExactLoadWalk.j1 k x1 x2 x3 x10 x11 x13 true x635000 x635001))))) else (some false))))
def laws_FnExactLoadWalk.j1 : Nat → Int → Int → Int → List Int → Bool → List Int → Bool → Int → List (S132) → Option (Bool)
 | 0, _, _, _, _, _, _, _, _, _ => none
 | k + 1, x1, x2, x3, x10, x11, x13, x73, x635000, x635001 => if x73 = true then (some false) else ((laws_markIntS.f k x13 1).bind fun bt662 => ((laws_heldIntS.f k bt662.2 1).bind fun t664 => (if t664 < 0 then (some false) else (if t664 = bt662.1 then ((laws_toNet.f k x635000 x635001).bind fun bt665 => ((impl_LoadWalk.f k bt665.1 bt665.2 x1 x2 x3).bind fun bt669 => ((laws_eqIntS.f k bt669.1 x10).bind fun t673 => (if t673 = true then (laws_FnExactLoadWalk.j2 k bt662.2 bt662.1 (bt669.2 != x11)) else (laws_FnExactLoadWalk.j2 k bt662.2 bt662.1 true))))) else (some false)))))
def laws_FnExactLoadWalk.j2 : Nat → List Int → Int → Bool → Option (Bool)
 | 0, _, _, _ => none
 | k + 1, x13, x16, x102 => if x102 = true then (some false) else ((laws_heldIntS.f k x13 1).bind fun t674 => (if t674 < 0 then (some false) else (if t674 = x16 then (some true) else (some false))))
end
def laws_FnExactLoadWalk.f (k : Nat) (a0_0 : Int) (l0_1 : List (S132)) (a1 : Int) (a2 : Int) (a3 : Int) : Option (Bool) := (laws_szNet.f a0_0 l0_1 1048576).bind fun t635 => (if t635 < 0 then (some true) else ((laws_toNet.f k a0_0 l0_1).bind fun bt636 => ((spec_LoadWalk.f k bt636.1 bt636.2 a1 a2 a3).bind fun bt640 => ((laws_toNet.f k a0_0 l0_1).bind fun bt644 => ((impl_LoadWalk.f k bt644.1 bt644.2 a1 a2 a3).bind fun bt649 => ((laws_eqIntS.f k bt649.1 bt640.1).bind fun t653 => (if t653 = true then (laws_FnExactLoadWalk.j0 k a1 a2 a3 bt640.1 bt640.2 bt649.1 bt649.2 (bt649.2 != bt640.2) a0_0 l0_1 bt644.1 bt644.2) else (laws_FnExactLoadWalk.j0 k a1 a2 a3 bt640.1 bt640.2 bt649.1 bt649.2 true a0_0 l0_1 bt644.1 bt644.2))))))))
theorem laws_FnExactLoadWalk.mono_l : ∀ k, (∀ y0 y1 y2 y3 y4 y5 y6 y7 y8 y9 y10 y11, LeO (laws_FnExactLoadWalk.j0 k y0 y1 y2 y3 y4 y5 y6 y7 y8 y9 y10 y11) (laws_FnExactLoadWalk.j0 (k + 1) y0 y1 y2 y3 y4 y5 y6 y7 y8 y9 y10 y11)) ∧ (∀ y0 y1 y2 y3 y4 y5 y6 y7 y8, LeO (laws_FnExactLoadWalk.j1 k y0 y1 y2 y3 y4 y5 y6 y7 y8) (laws_FnExactLoadWalk.j1 (k + 1) y0 y1 y2 y3 y4 y5 y6 y7 y8)) ∧ (∀ y0 y1 y2, LeO (laws_FnExactLoadWalk.j2 k y0 y1 y2) (laws_FnExactLoadWalk.j2 (k + 1) y0 y1 y2))
 | 0 => ⟨fun _ _ _ _ _ _ _ _ _ _ _ _ r h => by simp [laws_FnExactLoadWalk.j0] at h, fun _ _ _ _ _ _ _ _ _ r h => by simp [laws_FnExactLoadWalk.j1] at h, fun _ _ _ r h => by simp [laws_FnExactLoadWalk.j2] at h⟩
 | k + 1 => by
  obtain ⟨ih0, ih1, ih2⟩ := laws_FnExactLoadWalk.mono_l k
  refine ⟨?_, ?_, ?_⟩
  ·intro y0 y1 y2 y3 y4 y5 y6 y7 y8 y9 y10 y11
   unfold laws_FnExactLoadWalk.j0
   repeat' first
   | (with_reducible exact ih0 _ _ _ _ _ _ _ _ _ _ _ _)
   | (with_reducible exact ih1 _ _ _ _ _ _ _ _ _)
   | (with_reducible exact ih2 _ _ _)
   | (with_reducible exact impl_LoadWalk.mono _ _ _ _ _ _)
   | (with_reducible exact laws_eqIntS.mono _ _ _)
   | (with_reducible exact laws_eqNet.mono _ _ _ _ _)
   | (with_reducible exact laws_heldIntS.mono _ _ _)
   | (with_reducible exact laws_markIntS.mono _ _ _)
   | (with_reducible exact laws_markNet.mono _ _ _ _)
   | (with_reducible exact laws_toNet.mono _ _ _)
   | (with_reducible exact spec_LoadWalk.mono _ _ _ _ _ _)
   | (with_reducible exact LeO.refl _)
   | (with_reducible exact LeO.none _)
   | (with_reducible refine LeO.ite ?_ ?_)
   | (with_reducible refine LeO.bind ?_ (fun _ => ?_))
   | exact ih0 _ _ _ _ _ _ _ _ _ _ _ _
   | exact ih1 _ _ _ _ _ _ _ _ _
   | exact ih2 _ _ _
   | exact impl_LoadWalk.mono _ _ _ _ _ _
   | exact laws_eqIntS.mono _ _ _
   | exact laws_eqNet.mono _ _ _ _ _
   | exact laws_heldIntS.mono _ _ _
   | exact laws_markIntS.mono _ _ _
   | exact laws_markNet.mono _ _ _ _
   | exact laws_toNet.mono _ _ _
   | exact spec_LoadWalk.mono _ _ _ _ _ _
   | exact LeO.none _
   | refine LeO.ite ?_ ?_
   | refine LeO.bind ?_ (fun _ => ?_)
  ·intro y0 y1 y2 y3 y4 y5 y6 y7 y8
   unfold laws_FnExactLoadWalk.j1
   repeat' first
   | (with_reducible exact ih0 _ _ _ _ _ _ _ _ _ _ _ _)
   | (with_reducible exact ih1 _ _ _ _ _ _ _ _ _)
   | (with_reducible exact ih2 _ _ _)
   | (with_reducible exact impl_LoadWalk.mono _ _ _ _ _ _)
   | (with_reducible exact laws_eqIntS.mono _ _ _)
   | (with_reducible exact laws_eqNet.mono _ _ _ _ _)
   | (with_reducible exact laws_heldIntS.mono _ _ _)
   | (with_reducible exact laws_markIntS.mono _ _ _)
   | (with_reducible exact laws_markNet.mono _ _ _ _)
   | (with_reducible exact laws_toNet.mono _ _ _)
   | (with_reducible exact spec_LoadWalk.mono _ _ _ _ _ _)
   | (with_reducible exact LeO.refl _)
   | (with_reducible exact LeO.none _)
   | (with_reducible refine LeO.ite ?_ ?_)
   | (with_reducible refine LeO.bind ?_ (fun _ => ?_))
   | exact ih0 _ _ _ _ _ _ _ _ _ _ _ _
   | exact ih1 _ _ _ _ _ _ _ _ _
   | exact ih2 _ _ _
   | exact impl_LoadWalk.mono _ _ _ _ _ _
   | exact laws_eqIntS.mono _ _ _
   | exact laws_eqNet.mono _ _ _ _ _
   | exact laws_heldIntS.mono _ _ _
   | exact laws_markIntS.mono _ _ _
   | exact laws_markNet.mono _ _ _ _
   | exact laws_toNet.mono _ _ _
   | exact spec_LoadWalk.mono _ _ _ _ _ _
   | exact LeO.none _
   | refine LeO.ite ?_ ?_
   | refine LeO.bind ?_ (fun _ => ?_)
  ·intro y0 y1 y2
   unfold laws_FnExactLoadWalk.j2
   repeat' first
   | (with_reducible exact ih0 _ _ _ _ _ _ _ _ _ _ _ _)
   | (with_reducible exact ih1 _ _ _ _ _ _ _ _ _)
   | (with_reducible exact ih2 _ _ _)
   | (with_reducible exact impl_LoadWalk.mono _ _ _ _ _ _)
   | (with_reducible exact laws_eqIntS.mono _ _ _)
   | (with_reducible exact laws_eqNet.mono _ _ _ _ _)
   | (with_reducible exact laws_heldIntS.mono _ _ _)
   | (with_reducible exact laws_markIntS.mono _ _ _)
   | (with_reducible exact laws_markNet.mono _ _ _ _)
   | (with_reducible exact laws_toNet.mono _ _ _)
   | (with_reducible exact spec_LoadWalk.mono _ _ _ _ _ _)
   | (with_reducible exact LeO.refl _)
   | (with_reducible exact LeO.none _)
   | (with_reducible refine LeO.ite ?_ ?_)
   | (with_reducible refine LeO.bind ?_ (fun _ => ?_))
   | exact ih0 _ _ _ _ _ _ _ _ _ _ _ _
   | exact ih1 _ _ _ _ _ _ _ _ _
   | exact ih2 _ _ _
   | exact impl_LoadWalk.mono _ _ _ _ _ _
   | exact laws_eqIntS.mono _ _ _
   | exact laws_eqNet.mono _ _ _ _ _
   | exact laws_heldIntS.mono _ _ _
   | exact laws_markIntS.mono _ _ _
   | exact laws_markNet.mono _ _ _ _
   | exact laws_toNet.mono _ _ _
   | exact spec_LoadWalk.mono _ _ _ _ _ _
   | exact LeO.none _
   | refine LeO.ite ?_ ?_
   | refine LeO.bind ?_ (fun _ => ?_)
theorem laws_FnExactLoadWalk.mono : ∀ a0 a1 a2 a3 a4 k, LeO (laws_FnExactLoadWalk.f k a0 a1 a2 a3 a4) (laws_FnExactLoadWalk.f (k + 1) a0 a1 a2 a3 a4) := by
 intro a0 a1 a2 a3 a4 k
 obtain ⟨ih0, ih1, ih2⟩ := laws_FnExactLoadWalk.mono_l k
 unfold laws_FnExactLoadWalk.f
 repeat' first
   | (with_reducible exact ih0 _ _ _ _ _ _ _ _ _ _ _ _)
   | (with_reducible exact ih1 _ _ _ _ _ _ _ _ _)
   | (with_reducible exact ih2 _ _ _)
   | (with_reducible exact impl_LoadWalk.mono _ _ _ _ _ _)
   | (with_reducible exact laws_eqIntS.mono _ _ _)
   | (with_reducible exact laws_eqNet.mono _ _ _ _ _)
   | (with_reducible exact laws_heldIntS.mono _ _ _)
   | (with_reducible exact laws_markIntS.mono _ _ _)
   | (with_reducible exact laws_markNet.mono _ _ _ _)
   | (with_reducible exact laws_toNet.mono _ _ _)
   | (with_reducible exact spec_LoadWalk.mono _ _ _ _ _ _)
   | (with_reducible exact LeO.refl _)
   | (with_reducible exact LeO.none _)
   | (with_reducible refine LeO.ite ?_ ?_)
   | (with_reducible refine LeO.bind ?_ (fun _ => ?_))
   | exact ih0 _ _ _ _ _ _ _ _ _ _ _ _
   | exact ih1 _ _ _ _ _ _ _ _ _
   | exact ih2 _ _ _
   | exact impl_LoadWalk.mono _ _ _ _ _ _
   | exact laws_eqIntS.mono _ _ _
   | exact laws_eqNet.mono _ _ _ _ _
   | exact laws_heldIntS.mono _ _ _
   | exact laws_markIntS.mono _ _ _
   | exact laws_markNet.mono _ _ _ _
   | exact laws_toNet.mono _ _ _
   | exact spec_LoadWalk.mono _ _ _ _ _ _
   | exact LeO.none _
   | refine LeO.ite ?_ ?_
   | refine LeO.bind ?_ (fun _ => ?_)
set_option maxHeartbeats 8000000 in
set_option maxRecDepth 100000 in
theorem laws_FnExactLoadWalk.calls (k : Nat) (a0_0 : Int) (A0_1 : Option Addr) (c0_1 : Nat) (l0_1 : List (S132)) (a1 : Int) (a2 : Int) (a3 : Int) (r : Bool) (w : World) (hr0_1 : Kd.C k132 w A0_1 l0_1.length l0_1) (hc0_1 : l0_1.length ≤ c0_1) (h : laws_FnExactLoadWalk.f k a0_0 l0_1 a1 a2 a3 = some r) (hr_ : r = true) :
  Calls Try.prog 8 #[.agg #[.int .i64 a0_0, .slice A0_1 l0_1.length c0_1], .int .i64 a1, .int .i64 a2, .int .i64 a3] w fun e w' => e = .returned (.bool r) ∧ Below w.heap.size w w' := by
 have hu24 := Try.underlying24
 have hu30 := Try.underlying30
 have HR0_1 := Aside0.mk hr0_1
 have HC0_1 := Aside0.mk hc0_1
 clear hr0_1 hc0_1
 have HB := Aside0.mk (Below.refl w.heap.size w)
 have H : ((laws_szNet.f a0_0 l0_1 1048576).bind fun t635 => (if t635 < 0 then (some true) else ((laws_toNet.f k a0_0 l0_1).bind fun bt636 => ((spec_LoadWalk.f k bt636.1 bt636.2 a1 a2 a3).bind fun bt640 => ((laws_toNet.f k a0_0 l0_1).bind fun bt644 => ((impl_LoadWalk.f k bt644.1 bt644.2 a1 a2 a3).bind fun bt649 => ((laws_eqIntS.f k bt649.1 bt640.1).bind fun t653 => (if t653 = true then (laws_FnExactLoadWalk.j0 k a1 a2 a3 bt640.1 bt640.2 bt649.1 bt649.2 (bt649.2 != bt640.2) a0_0 l0_1 bt644.1 bt644.2) else (laws_FnExactLoadWalk.j0 k a1 a2 a3 bt640.1 bt640.2 bt649.1 bt649.2 true a0_0 l0_1 bt644.1 bt644.2))))))))) = some r := h
 clear h
 replace H := Option.bind_eq_some_iff.mp H
 obtain ⟨t635, A50, H⟩ := H
 have A5 := Aside0.mk A50
 clear A50
 by_cases c6 : t635 < 0
 ·rw [if_pos c6] at H
  have c6b0 : decide (t635 < 0) = true := decide_eq_true c6
  clear c6
  obtain rfl := Option.some.inj H
  go_enter Try.func8, Try.ntmps8
  go_wp2_with (first | ((with_reducible refine gate_dst (N := 4) rfl ?_); refine box_event ?hg (N := 4) ?hd (cs := #[.int .i64 a0_0, .slice A0_1 l0_1.length c0_1]) (t := 24) ?hr ?_; (case hd => rfl); (case hg => rfl); (case hr => first | (go_simp; done) | (go_simp; rfl)); intro gb634 hg w7 hbox hb; have BK634 := Aside0.mk (hbox); have GW634 := Aside0.mk ((by rw [hg]; exact (below_size (bl HB)) : w.heap.size ≤ gb634)); have GE634 := Aside0.mk ((by rw [hg]; exact (below_size (bl HB)) : w.heap.size ≤ gb634)); replace HB := Aside0.mk (below_step (bl HB) hb); clear hb hbox hg; have hcz8_0 : w7.cell? ⟨gb634, 0, none⟩ = some (.int .i64 a0_0) := (blk_cell BK634.out 0).trans rfl; have hcz8_1 : w7.cell? ⟨gb634, 1, none⟩ = some (.slice A0_1 l0_1.length c0_1) := (blk_cell BK634.out 1).trans rfl; have hfz8_0 := blk_frozen BK634.out 0; have hfz8_1 := blk_frozen BK634.out 1) | ((with_reducible refine gate_callee (f := 15) rfl ?_); refine goesL_ (some 22) rfl rfl Try.func15 (by kernel_rfl) rfl #[.agg #[.int .i64 a0_0, .slice A0_1 l0_1.length c0_1], .int .i64 1048576] rfl (by (try simp only [List.map_toArray, List.map_cons, List.map_nil]); first | done | rfl | (simp only [List.length_drop, List.length_take]; rfl)) ?_; (with_reducible refine (laws_szNet.calls a0_0 _ _ l0_1 1048576 t635 _ ?side1 ?side2 A5.out).mono ?_); (case side1 => repeat (first | exact (Kd.C_below HR0_1.out HB.out) | (with_reducible refine Kd.C_alloc ?_ _) | (with_reducible refine Kd.C_drewN ?_ _) | (with_reducible refine Kd.C_drew ?_))); (case side2 => exact HC0_1.out); rintro e w9 ⟨rfl, hb⟩; refine ⟨_, rfl, ?_⟩; replace BK634 := Aside0.mk (blk_below (bk BK634) hb); replace HB := Aside0.mk (below_step (bl1 HB GE634) hb); (try clear hb); (try clear hb2); (try clear hk); (try clear hi)))
  go_ret
  exact ⟨by first | rfl | (simp [errW_none, errW_some] <;> rfl) | (simp [*, errW_none, errW_some] <;> rfl), bl1 HB GE634⟩
 rw [if_neg c6] at H
 have c6b0 : decide (t635 < 0) = false := decide_eq_false c6
 clear c6
 replace H := Option.bind_eq_some_iff.mp H
 obtain ⟨⟨t636, t637⟩, A100, H⟩ := H
 have A10 := Aside0.mk A100
 clear A100
 replace H := Option.bind_eq_some_iff.mp H
 obtain ⟨⟨t640, t643⟩, A110, H⟩ := H
 have A11 := Aside0.mk A110
 clear A110
 replace H := Option.bind_eq_some_iff.mp H
 obtain ⟨⟨t644, t645⟩, A120, H⟩ := H
 have A12 := Aside0.mk A120
 clear A120
 replace H := Option.bind_eq_some_iff.mp H
 obtain ⟨⟨t649, t652⟩, A130, H⟩ := H
 have A13 := Aside0.mk A130
 clear A130
 have HC14 := Aside0.mk H
 clear H
 go_enter Try.func8, Try.ntmps8
 go_upto_region 8 with (first | ((with_reducible refine gate_dst (N := 4) rfl ?_); refine box_event ?hg (N := 4) ?hd (cs := #[.int .i64 a0_0, .slice A0_1 l0_1.length c0_1]) (t := 24) ?hr ?_; (case hd => rfl); (case hg => rfl); (case hr => first | (go_simp; done) | (go_simp; rfl)); intro gb634 hg w15 hbox hb; have BK634 := Aside0.mk (hbox); have GW634 := Aside0.mk ((by rw [hg]; exact (below_size (bl HB)) : w.heap.size ≤ gb634)); have GE634 := Aside0.mk ((by rw [hg]; exact (below_size (bl HB)) : w.heap.size ≤ gb634)); replace HB := Aside0.mk (below_step (bl HB) hb); clear hb hbox hg; have hcz16_0 : w15.cell? ⟨gb634, 0, none⟩ = some (.int .i64 a0_0) := (blk_cell BK634.out 0).trans rfl; have hcz16_1 : w15.cell? ⟨gb634, 1, none⟩ = some (.slice A0_1 l0_1.length c0_1) := (blk_cell BK634.out 1).trans rfl; have hfz16_0 := blk_frozen BK634.out 0; have hfz16_1 := blk_frozen BK634.out 1) | ((with_reducible refine gate_callee (f := 15) rfl ?_); refine goesL_ (some 22) rfl rfl Try.func15 (by kernel_rfl) rfl #[.agg #[.int .i64 a0_0, .slice A0_1 l0_1.length c0_1], .int .i64 1048576] rfl (by (try simp only [List.map_toArray, List.map_cons, List.map_nil]); first | done | rfl | (simp only [List.length_drop, List.length_take]; rfl)) ?_; (with_reducible refine (laws_szNet.calls a0_0 _ _ l0_1 1048576 t635 _ ?side1 ?side2 A5.out).mono ?_); (case side1 => repeat (first | exact (Kd.C_below HR0_1.out HB.out) | (with_reducible refine Kd.C_alloc ?_ _) | (with_reducible refine Kd.C_drewN ?_ _) | (with_reducible refine Kd.C_drew ?_))); (case side2 => exact HC0_1.out); rintro e w17 ⟨rfl, hb⟩; refine ⟨_, rfl, ?_⟩; replace BK634 := Aside0.mk (blk_below (bk BK634) hb); replace HB := Aside0.mk (below_step (bl1 HB GE634) hb); (try clear hb); (try clear hb2); (try clear hk); (try clear hi); have hcz18_0 : w17.cell? ⟨gb634, 0, none⟩ = some (.int .i64 a0_0) := (blk_cell BK634.out 0).trans rfl; have hcz18_1 : w17.cell? ⟨gb634, 1, none⟩ = some (.slice A0_1 l0_1.length c0_1) := (blk_cell BK634.out 1).trans rfl; have hfz18_0 := blk_frozen BK634.out 0; have hfz18_1 := blk_frozen BK634.out 1) | ((with_reducible refine gate_callee (f := 17) rfl ?_); refine goesL_ (some 27) rfl rfl Try.func17 (by kernel_rfl) rfl #[.agg #[.int .i64 a0_0, .slice A0_1 l0_1.length c0_1]] rfl (by (try simp only [List.map_toArray, List.map_cons, List.map_nil]); first | done | rfl | (simp only [List.length_drop, List.length_take]; rfl)) ?_; (with_reducible refine (laws_toNet.calls k a0_0 _ _ l0_1 t636 t637 _ ?side1 ?side2 A10.out).mono ?_); (case side1 => repeat (first | exact (Kd.C_below HR0_1.out HB.out) | (with_reducible refine Kd.C_alloc ?_ _) | (with_reducible refine Kd.C_drewN ?_ _) | (with_reducible refine Kd.C_drew ?_))); (case side2 => exact HC0_1.out); rintro e w19 ⟨v638, rfl, ho0, hb⟩; refine ⟨_, rfl, ?_⟩; have HO639 := Aside0.mk (Kd.R_lower ho0 (below_size (bl1 HB GE634))); replace BK634 := Aside0.mk (blk_below (bk BK634) hb); replace HB := Aside0.mk (below_step (bl1 HB GE634) hb); (try clear hb); (try clear hb2); (try clear hk); (try clear hi); (try clear ho0); obtain ⟨Ao20, co20, eo20⟩ := Kd.R_slice HO639.out; subst eo20) | ((with_reducible refine gate_callee (f := 36) rfl ?_); refine goesL_ (some 31) rfl rfl Try.func36 (by kernel_rfl) rfl #[.agg #[.int .i64 t636, .slice Ao20 t637.length co20], .int .i64 a1, .int .i64 a2, .int .i64 a3] rfl (by (try simp only [List.map_toArray, List.map_cons, List.map_nil]); first | done | rfl | (simp only [List.length_drop, List.length_take]; rfl)) ?_; (with_reducible refine (spec_LoadWalk.calls k t636 _ _ t637 a1 a2 a3 t640 t643 _ ?side1 ?side2 A11.out).mono ?_); (case side1 => repeat (first | exact (Kd.R_reads' HO639.out).2.2 | (with_reducible refine Kd.C_alloc ?_ _) | (with_reducible refine Kd.C_drewN ?_ _) | (with_reducible refine Kd.C_drew ?_))); (case side2 => exact (Kd.R_reads' HO639.out).2.1); rintro e w21 ⟨v641, rfl, ho0, hb⟩; refine ⟨_, rfl, ?_⟩; replace HO639 := Aside0.mk (Kd.R_below (rk HO639) hb); have HO642 := Aside0.mk (Kd.R_lower ho0 (below_size (bl1 HB GE634))); replace BK634 := Aside0.mk (blk_below (bk BK634) hb); replace HB := Aside0.mk (below_step (bl1 HB GE634) hb); (try clear hb); (try clear hb2); (try clear hk); (try clear hi); (try clear ho0); have hcz22_0 : w21.cell? ⟨gb634, 0, none⟩ = some (.int .i64 a0_0) := (blk_cell BK634.out 0).trans rfl; have hcz22_1 : w21.cell? ⟨gb634, 1, none⟩ = some (.slice A0_1 l0_1.length c0_1) := (blk_cell BK634.out 1).trans rfl; have hfz22_0 := blk_frozen BK634.out 0; have hfz22_1 := blk_frozen BK634.out 1) | ((with_reducible refine gate_callee (f := 17) rfl ?_); refine goesL_ (some 35) rfl rfl Try.func17 (by kernel_rfl) rfl #[.agg #[.int .i64 a0_0, .slice A0_1 l0_1.length c0_1]] rfl (by (try simp only [List.map_toArray, List.map_cons, List.map_nil]); first | done | rfl | (simp only [List.length_drop, List.length_take]; rfl)) ?_; (with_reducible refine (laws_toNet.calls k a0_0 _ _ l0_1 t644 t645 _ ?side1 ?side2 A12.out).mono ?_); (case side1 => repeat (first | exact (Kd.C_below HR0_1.out HB.out) | (with_reducible refine Kd.C_alloc ?_ _) | (with_reducible refine Kd.C_drewN ?_ _) | (with_reducible refine Kd.C_drew ?_))); (case side2 => exact HC0_1.out); rintro e w23 ⟨v646, rfl, ho0, hb⟩; refine ⟨_, rfl, ?_⟩; replace HO642 := Aside0.mk (Kd.R_below (rk HO642) hb); have HO647 := Aside0.mk (Kd.R_lower (Kd.R_new' ho0 (Kd.R_lt (rk HO639))) (below_size (bl1 HB GE634))); replace HO639 := Aside0.mk (Kd.R_elder' (rk HO639) (Kd.R_base ho0) hb); replace BK634 := Aside0.mk (blk_below (bk BK634) hb); replace HB := Aside0.mk (below_step (bl1 HB GE634) hb); (try clear hb); (try clear hb2); (try clear hk); (try clear hi); (try clear ho0)) | ((with_reducible refine gate_dst (N := 12) rfl ?_); refine box_event ?hg (N := 12) ?hd (cs := #[.int .i64 0, .slice none 0 0]) (t := 30) ?hr ?_; (case hd => rfl); (case hg => rfl); (case hr => first | (go_simp; done) | (go_simp; rfl)); intro gb648 hg w24 hbox hb; replace HO639 := Aside0.mk (Kd.R_below (rk HO639) hb); replace HO642 := Aside0.mk (Kd.R_below (rk HO642) hb); replace HO647 := Aside0.mk (Kd.R_below (rk HO647) hb); have BK648 := Aside0.mk (hbox); have GW648 := Aside0.mk ((by rw [hg]; exact (below_size (bl1 HB GE634)) : w.heap.size ≤ gb648)); have GE648 := Aside0.mk ((by rw [hg]; exact (below_size (bl1 HB GE634)) : w.heap.size ≤ gb648)); replace HB := Aside0.mk (below_step (bl1 HB GE634) hb); have NB634_648 := Aside0.mk ((by rw [hg]; exact Nat.ne_of_lt (blk_lt (bk BK634)) : gb634 ≠ gb648)); have NB648_634 := Aside0.mk ((by rw [hg]; exact Nat.ne_of_gt (blk_lt (bk BK634)) : gb648 ≠ gb634)); replace BK634 := Aside0.mk (blk_below (bk BK634) hb); clear hb hbox hg; have hnb25 := NB648_634.out; have hnc25 := NB634_648.out; have hcz26_0 : w24.cell? ⟨gb648, 0, none⟩ = some (.int .i64 0) := (blk_cell BK648.out 0).trans rfl; have hcz26_1 : w24.cell? ⟨gb648, 1, none⟩ = some (.slice none 0 0) := (blk_cell BK648.out 1).trans rfl; have hfz26_0 := blk_frozen BK648.out 0; have hfz26_1 := blk_frozen BK648.out 1; obtain ⟨Ao27, co27, eo27⟩ := Kd.R_slice HO647.out; subst eo27) | ((with_reducible refine gate_callee (f := 37) rfl ?_); refine goesL_ (some 41) rfl rfl Try.func37 (by kernel_rfl) rfl #[.agg #[.int .i64 t644, .slice Ao27 t645.length co27], .int .i64 a1, .int .i64 a2, .int .i64 a3] rfl (by (try simp only [List.map_toArray, List.map_cons, List.map_nil]); first | done | rfl | (simp only [List.length_drop, List.length_take]; rfl)) ?_; (with_reducible refine (impl_LoadWalk.calls k t644 _ _ t645 a1 a2 a3 t649 t652 _ ?side1 ?side2 A13.out).mono ?_); (case side1 => refine (Kd.R_reads' (e := 100) (base := w.heap.size) (ok := fun k_ => (True ∧ some k_ ≠ (.slice Ao20 t637.length co20 : Value).ownBlock)) (n := t645.length) (c := co27) ?_).2.2; exact (by (with_reducible repeat (first | apply Kd.R_alloc | apply Kd.R_drewN | apply Kd.R_drew)); exact (Kd.R_mono (Kd.R_far (p := ⟨gb648, 1, none⟩) (Kd.R_far (p := ⟨gb648, 0, none⟩) (Kd.R_types HO647.out BK648.out (by decide)) (fun _ hk => hk.2) (.int .i64 t644)) (fun _ hk => hk.2) (.slice Ao27 t645.length co27)) (fun _ h_ => h_.1)))); (case side2 => exact (Kd.R_reads' HO647.out).2.1); rintro e w28 ⟨v650, rfl, ho0, hb⟩; refine ⟨_, rfl, ?_⟩; replace HO639 := Aside0.mk (Kd.R_below (by (with_reducible repeat (first | apply Kd.R_alloc | apply Kd.R_drewN | apply Kd.R_drew)); exact (Kd.R_mono (Kd.R_far (p := ⟨gb648, 1, none⟩) (Kd.R_far (p := ⟨gb648, 0, none⟩) (Kd.R_types HO639.out BK648.out (by decide)) (fun _ hk => hk.2) (.int .i64 t644)) (fun _ hk => hk.2) (.slice Ao27 t645.length co27)) (fun _ h_ => h_.1))) hb); replace HO647 := Aside0.mk (Kd.R_below (by (with_reducible repeat (first | apply Kd.R_alloc | apply Kd.R_drewN | apply Kd.R_drew)); exact (Kd.R_mono (Kd.R_far (p := ⟨gb648, 1, none⟩) (Kd.R_far (p := ⟨gb648, 0, none⟩) (Kd.R_types HO647.out BK648.out (by decide)) (fun _ hk => hk.2) (.int .i64 t644)) (fun _ hk => hk.2) (.slice Ao27 t645.length co27)) (fun _ h_ => h_.1))) hb); have HO651 := Aside0.mk (Kd.R_lower (Kd.R_new' ho0 (Kd.R_lt (by (with_reducible repeat (first | apply Kd.R_alloc | apply Kd.R_drewN | apply Kd.R_drew)); exact (Kd.R_mono (Kd.R_far (p := ⟨gb648, 1, none⟩) (Kd.R_far (p := ⟨gb648, 0, none⟩) (Kd.R_types HO642.out BK648.out (by decide)) (fun _ hk => hk.2) (.int .i64 t644)) (fun _ hk => hk.2) (.slice Ao27 t645.length co27)) (fun _ h_ => h_.1))))) (below_size (bl2 HB GE634 GE648))); replace HO642 := Aside0.mk (Kd.R_elder' (by (with_reducible repeat (first | apply Kd.R_alloc | apply Kd.R_drewN | apply Kd.R_drew)); exact (Kd.R_mono (Kd.R_far (p := ⟨gb648, 1, none⟩) (Kd.R_far (p := ⟨gb648, 0, none⟩) (Kd.R_types HO642.out BK648.out (by decide)) (fun _ hk => hk.2) (.int .i64 t644)) (fun _ hk => hk.2) (.slice Ao27 t645.length co27)) (fun _ h_ => h_.1))) (Kd.R_base ho0) hb); replace BK634 := Aside0.mk (blk_below (g := gb634) (o := .cells #[.int .i64 a0_0, .slice A0_1 l0_1.length c0_1] 24 (0, 0)) (by (with_reducible repeat (first | refine blk_drewN ?_ _ | refine blk_drew ?_ | refine blk_alloc ?_ _)); refine blk_far ?_ NB634_648.out _; refine blk_far ?_ NB634_648.out _; (with_reducible repeat (first | refine blk_drewN ?_ _ | refine blk_drew ?_ | refine blk_alloc ?_ _)); exact BK634.out) hb); replace BK648 := Aside0.mk (blk_below (g := gb648) (o := .cells #[.int .i64 t644, .slice Ao27 t645.length co27] 30 (0, 0)) (by (with_reducible repeat (first | refine blk_drewN ?_ _ | refine blk_drew ?_ | refine blk_alloc ?_ _)); refine blk_put (cs := #[.int .i64 t644, .slice none 0 0]) ?_ 1 _ rfl; refine blk_put (cs := #[.int .i64 0, .slice none 0 0]) ?_ 0 _ rfl; (with_reducible repeat (first | refine blk_drewN ?_ _ | refine blk_drew ?_ | refine blk_alloc ?_ _)); exact BK648.out) hb); replace HB := Aside0.mk (below_step (bl2 HB GE634 GE648) hb); (try clear hb); (try clear hb2); (try clear hk); (try clear hi); (try clear ho0)))
 (try simp only [Act.put, List.setIfInBounds_toArray, List.set_cons_zero, List.set_cons_succ])
 go_cut [52] (fun v52 wc => ∃ (kq : Nat) (x52_13 : Bool), v52 = .bool x52_13 ∧ Aside0 (laws_FnExactLoadWalk.j0 kq a1 a2 a3 t640 t643 t649 t652 x52_13 a0_0 l0_1 t644 t645 = some r) ∧ Aside0 (kq ≤ k) ∧ Aside0 (Kd.R (Kd.int .i64) 3 wc w.heap.size (fun k_ => some k_ ≠ (v650 : Value).ownBlock) v641 t640) ∧ Aside0 (Kd.R (Kd.int .i64) 3 wc w.heap.size (fun k_ => some k_ ≠ (v641 : Value).ownBlock) v650 t649) ∧ Aside0 (Kd.R k100 100 wc w.heap.size (fun _ => True) (.slice Ao27 t645.length co27) t645) ∧ Aside0 (wc.heap[gb634]? = some (.cells #[.int .i64 a0_0, (.slice A0_1 l0_1.length c0_1)] 24 (0, 0))) ∧ Aside0 (wc.heap[gb648]? = some (.cells #[.int .i64 t644, (.slice Ao27 t645.length co27)] 30 (0, 0))) ∧ Aside0 (Below w.heap.size w wc))
 case first =>
  have H := HC14.out
  clear HC14
  replace H := Option.bind_eq_some_iff.mp H
  obtain ⟨t653, A290, H⟩ := H
  have A29 := Aside0.mk A290
  clear A290
  by_cases c30 : t653 = true
  ·subst c30
   rw [if_pos rfl] at H
   have H' := Aside0.mk H
   clear H
   obtain ⟨Ao31, co31, eo31⟩ := Kd.R_slice HO651.out
   subst eo31
   obtain ⟨Ao32, co32, eo32⟩ := Kd.R_slice HO642.out
   subst eo32
   go_wp2_with (first | ((with_reducible refine gate_callee (f := 19) rfl ?_); refine goesL_ (some 46) rfl rfl Try.func19 (by kernel_rfl) rfl #[.slice Ao31 t649.length co31, .slice Ao32 t640.length co32] rfl (by (try simp only [List.map_toArray, List.map_cons, List.map_nil]); first | done | rfl | (simp only [List.length_drop, List.length_take]; rfl)) ?_; (with_reducible refine (laws_eqIntS.calls k _ _ t649 _ _ t640 true _ ?side1 ?side2 ?side3 ?side4 A29.out).mono ?_); (case side1 => repeat (first | exact (Kd.R_reads' HO651.out).2.2 | (with_reducible refine Kd.C_alloc ?_ _) | (with_reducible refine Kd.C_drewN ?_ _) | (with_reducible refine Kd.C_drew ?_))); (case side2 => exact (Kd.R_reads' HO651.out).2.1); (case side3 => repeat (first | exact (Kd.R_reads' HO642.out).2.2 | (with_reducible refine Kd.C_alloc ?_ _) | (with_reducible refine Kd.C_drewN ?_ _) | (with_reducible refine Kd.C_drew ?_))); (case side4 => exact (Kd.R_reads' HO642.out).2.1); rintro e w' ⟨rfl, ⟨nd, rfl⟩⟩; refine ⟨_, rfl, ?_⟩))
   go_meet
   case rel => exact ⟨_, ((t652 != t643)), (by first | rfl | (simp; done) | (simp [*]; done)), H', ⟨by first | omega | exact Nat.le_refl _⟩, ⟨by (with_reducible repeat (first | apply Kd.R_alloc | apply Kd.R_drewN | apply Kd.R_drew)); exact Kd.R_mono HO642.out (fun _ hk => hk.2)⟩, ⟨by (with_reducible repeat (first | apply Kd.R_alloc | apply Kd.R_drewN | apply Kd.R_drew)); exact Kd.R_mono HO651.out (fun _ hk => hk.2)⟩, ⟨by (with_reducible repeat (first | apply Kd.R_alloc | apply Kd.R_drewN | apply Kd.R_drew)); exact Kd.R_mono HO647.out (fun _ hk => trivial)⟩, ⟨bk BK634⟩, ⟨bk BK648⟩, ⟨bl2 HB GE634 GE648⟩⟩
  replace c30 := Bool.eq_false_iff.mpr c30
  subst c30
  rw [if_neg (show ¬ (false = true) by decide)] at H
  have H' := Aside0.mk H
  clear H
  obtain ⟨Ao33, co33, eo33⟩ := Kd.R_slice HO651.out
  subst eo33
  obtain ⟨Ao34, co34, eo34⟩ := Kd.R_slice HO642.out
  subst eo34
  go_wp2_with (first | ((with_reducible refine gate_callee (f := 19) rfl ?_); refine goesL_ (some 46) rfl rfl Try.func19 (by kernel_rfl) rfl #[.slice Ao33 t649.length co33, .slice Ao34 t640.length co34] rfl (by (try simp only [List.map_toArray, List.map_cons, List.map_nil]); first | done | rfl | (simp only [List.length_drop, List.length_take]; rfl)) ?_; (with_reducible refine (laws_eqIntS.calls k _ _ t649 _ _ t640 false _ ?side1 ?side2 ?side3 ?side4 A29.out).mono ?_); (case side1 => repeat (first | exact (Kd.R_reads' HO651.out).2.2 | (with_reducible refine Kd.C_alloc ?_ _) | (with_reducible refine Kd.C_drewN ?_ _) | (with_reducible refine Kd.C_drew ?_))); (case side2 => exact (Kd.R_reads' HO651.out).2.1); (case side3 => repeat (first | exact (Kd.R_reads' HO642.out).2.2 | (with_reducible refine Kd.C_alloc ?_ _) | (with_reducible refine Kd.C_drewN ?_ _) | (with_reducible refine Kd.C_drew ?_))); (case side4 => exact (Kd.R_reads' HO642.out).2.1); rintro e w' ⟨rfl, ⟨nd, rfl⟩⟩; refine ⟨_, rfl, ?_⟩))
  go_meet
  case rel => exact ⟨_, (true), (by first | rfl | (simp; done) | (simp [*]; done)), H', ⟨by first | omega | exact Nat.le_refl _⟩, ⟨by (with_reducible repeat (first | apply Kd.R_alloc | apply Kd.R_drewN | apply Kd.R_drew)); exact Kd.R_mono HO642.out (fun _ hk => hk.2)⟩, ⟨by (with_reducible repeat (first | apply Kd.R_alloc | apply Kd.R_drewN | apply Kd.R_drew)); exact Kd.R_mono HO651.out (fun _ hk => hk.2)⟩, ⟨by (with_reducible repeat (first | apply Kd.R_alloc | apply Kd.R_drewN | apply Kd.R_drew)); exact Kd.R_mono HO647.out (fun _ hk => trivial)⟩, ⟨bk BK634⟩, ⟨bk BK648⟩, ⟨bl2 HB GE634 GE648⟩⟩
 clear HC14
 try clear c1
 try clear c2
 try clear p2
 try clear c3
 try clear c6
 try clear c6b0
 try clear c8
 try clear c15
 try clear c17
 try clear c19
 try clear c25
 try clear c30
 try clear hcz16_0
 try clear hcz16_1
 try clear hcz18_0
 try clear hcz18_1
 try clear hcz22_0
 try clear hcz22_1
 try clear hcz26_0
 try clear hcz26_1
 try clear hcz8_0
 try clear hcz8_1
 try clear hfz16_0
 try clear hfz16_1
 try clear hfz18_0
 try clear hfz18_1
 try clear hfz22_0
 try clear hfz22_1
 try clear hfz26_0
 try clear hfz26_1
 try clear hfz8_0
 try clear hfz8_1
 obtain ⟨kq, x52_13, rfl, HA, HJ13, HO_10, HO_13, HO_649001, BK634, BK648, HB⟩ := hcut
 cases kq with
 | zero => exact absurd HA.out (by simp [laws_FnExactLoadWalk.j0])
 | succ kj13 =>
  have H := HA.out
  clear HA
  simp only [laws_FnExactLoadWalk.j0] at H
  by_cases c35 : x52_13 = true
  ·subst c35
   rw [if_pos rfl] at H
   exact absurd ((Option.some.inj H).trans hr_) Bool.false_ne_true
  replace c35 := Bool.eq_false_iff.mpr c35
  subst c35
  rw [if_neg (show ¬ (false = true) by decide)] at H
  replace H := Option.bind_eq_some_iff.mp H
  obtain ⟨⟨t654, t655⟩, A360, H⟩ := H
  have A36 := Aside0.mk A360
  clear A360
  replace H := Option.bind_eq_some_iff.mp H
  obtain ⟨t658, A370, H⟩ := H
  have A37 := Aside0.mk A370
  clear A370
  by_cases c38 : t658 = true
  rotate_left
  ·replace c38 := Bool.eq_false_iff.mpr c38
   subst c38
   rw [if_neg (show ¬ (false = true) by decide)] at H
   exact absurd ((Option.some.inj H).trans hr_) Bool.false_ne_true
  subst c38
  rw [if_pos rfl] at H
  replace H := Option.bind_eq_some_iff.mp H
  obtain ⟨⟨t659, t660⟩, A390, H⟩ := H
  have A39 := Aside0.mk A390
  clear A390
  have HC40 := Aside0.mk H
  clear H
  try go_wp2
  replace HO_10 := Aside0.mk (Kd.R_drew HO_10.out)
  replace HO_13 := Aside0.mk (Kd.R_drew HO_13.out)
  replace HO_649001 := Aside0.mk (Kd.R_drew HO_649001.out)
  replace BK634 := Aside0.mk (blk_drew BK634.out)
  replace BK648 := Aside0.mk (blk_drew BK648.out)
  replace HB := Aside0.mk (below_drew1 HB.out)
  refine start_ (n := 5) (S := fun w' => w'.cell? ⟨gb648, 0, none⟩ = some (.int .i64 t644) ∧ w'.cell? ⟨gb648, 1, none⟩ = some (.slice Ao27 t645.length co27) ∧ w'.cell? ⟨gb634, 0, none⟩ = some (.int .i64 a0_0) ∧ w'.cell? ⟨gb634, 1, none⟩ = some (.slice A0_1 l0_1.length c0_1)) (ds := []) (ms 5 0) (by kernel_rfl) rfl (by kernel_rfl) ⟨(blk_cell BK648.out 0).trans rfl, (blk_cell BK648.out 1).trans rfl, (blk_cell BK634.out 0).trans rfl, (blk_cell BK634.out 1).trans rfl⟩ (fun hHeld => ?_)
  generalize wc.drew = w41 at HO_10 HO_13 HO_649001 BK634 BK648 HB hHeld ⊢
  refine take_ (i := 0) (N := some 53) (v := ?_) (a' := ?_) (ms 5 1) rfl rfl (by kernel_rfl) (fun _ _ _ h => h) (Or.inl ⟨by rfl, ?_⟩) hHeld ?_ ?_
  rotate_left
  ·rintro w' ⟨s0, s1, s2, s3⟩
   go_simp
   with_reducible rfl
  rotate_left
  ·simp only [Act.put, sA, sB, sC, i64_w, i32_w]
   rfl
  refine take_ (i := 1) (N := some 54) (v := ?_) (a' := ?_) (ms 5 3) rfl rfl (by kernel_rfl) (fun _ _ _ h => h) (Or.inl ⟨by rfl, ?_⟩) hHeld ?_ ?_
  rotate_left
  ·rintro w' ⟨s0, s1, s2, s3⟩
   go_simp
   with_reducible rfl
  rotate_left
  ·simp only [Act.put, sA, sB, sC, i64_w, i32_w]
   rfl
  refine one_ (i := 2) (N := some 55) (ms 5 7) rfl rfl (by kernel_rfl) (by decide) (fun K hK => ?_)
  refine goes_ Try.func17 (by kernel_rfl) rfl #[.agg #[.int .i64 a0_0, .slice A0_1 l0_1.length c0_1]] (by rfl) rfl rfl (by (try simp only [List.map_toArray, List.map_cons, List.map_nil]); first | done | rfl | (simp only [List.length_drop, List.length_take]; rfl)) ?_
  with_reducible refine (laws_toNet.calls kj13 a0_0 _ _ l0_1 t654 t655 _ ?side1 ?side2 A36.out).mono ?_
  (case side1 => repeat (first | exact (Kd.C_below HR0_1.out HB.out) | (with_reducible refine Kd.C_alloc ?_ _) | (with_reducible refine Kd.C_drewN ?_ _) | (with_reducible refine Kd.C_drew ?_)))
  (case side2 => exact HC0_1.out)
  rintro e w42 ⟨v656, rfl, ho0, hb⟩
  refine ⟨_, rfl, ?_⟩
  replace HO_10 := Aside0.mk (Kd.R_below (rk HO_10) hb)
  replace HO_13 := Aside0.mk (Kd.R_below (rk HO_13) hb)
  have HO657 := Aside0.mk (Kd.R_lower (Kd.R_new' ho0 (Kd.R_lt (rk HO_649001))) (below_size (bl2 HB GE634 GE648)))
  replace HO_649001 := Aside0.mk (Kd.R_elder' (rk HO_649001) (Kd.R_base ho0) hb)
  replace BK634 := Aside0.mk (blk_below (bk BK634) hb)
  replace BK648 := Aside0.mk (blk_below (bk BK648) hb)
  replace HB := Aside0.mk (below_step (bl2 HB GE634 GE648) hb)
  (try clear hb)
  (try clear hb2)
  (try clear hk)
  (try clear hi)
  (try clear ho0)
  obtain ⟨Ao43, co43, eo43⟩ := Kd.R_slice HO657.out
  (first | subst eo43 | (injection eo43 with f1_ f2_ f3_; have f4_ := f1_.symm; have f5_ := f3_.symm; clear f1_ f2_ f3_; subst f4_; subst f5_))
  refine hK.out _ _ ⟨(blk_cell BK648.out 0).trans rfl, (blk_cell BK648.out 1).trans rfl, (blk_cell BK634.out 0).trans rfl, (blk_cell BK634.out 1).trans rfl⟩ (fun hHeld => ?_)
  clear hK K
  refine norm_ (a' := ?_) ?_ ?_
  rotate_left
  ·show Act.put _ (some 55) _ = _
   simp only [Act.put, sA, sB, sC, i64_w, i32_w]
   rfl
  refine one_ (i := 3) (N := some 56) (ms 5 15) rfl rfl (by kernel_rfl) (by decide) (fun K hK => ?_)
  refine goes_ Try.func20 (by kernel_rfl) rfl #[.agg #[.int .i64 t644, .slice Ao27 t645.length co27], .agg #[.int .i64 t654, .slice Ao43 t655.length co43]] (by rfl) rfl rfl (by (try simp only [List.map_toArray, List.map_cons, List.map_nil]); first | done | rfl | (simp only [List.length_drop, List.length_take]; rfl)) ?_
  with_reducible refine (laws_eqNet.calls kj13 t644 _ _ t645 t654 _ _ t655 true _ ?side1 ?side2 ?side3 ?side4 A37.out).mono ?_
  (case side1 => repeat (first | exact (Kd.R_reads' HO_649001.out).2.2 | (with_reducible refine Kd.C_alloc ?_ _) | (with_reducible refine Kd.C_drewN ?_ _) | (with_reducible refine Kd.C_drew ?_)))
  (case side2 => exact (Kd.R_reads' HO_649001.out).2.1)
  (case side3 => repeat (first | exact (Kd.R_reads' HO657.out).2.2 | (with_reducible refine Kd.C_alloc ?_ _) | (with_reducible refine Kd.C_drewN ?_ _) | (with_reducible refine Kd.C_drew ?_)))
  (case side4 => exact (Kd.R_reads' HO657.out).2.1)
  rintro e w44 ⟨rfl, hb⟩
  refine ⟨_, rfl, ?_⟩
  replace HO_10 := Aside0.mk (Kd.R_below (rk HO_10) hb)
  replace HO_13 := Aside0.mk (Kd.R_below (rk HO_13) hb)
  replace HO_649001 := Aside0.mk (Kd.R_below (rk HO_649001) hb)
  replace HO657 := Aside0.mk (Kd.R_below (rk HO657) hb)
  replace BK634 := Aside0.mk (blk_below (bk BK634) hb)
  replace BK648 := Aside0.mk (blk_below (bk BK648) hb)
  replace HB := Aside0.mk (below_step (bl2 HB GE634 GE648) hb)
  (try clear hb)
  (try clear hb2)
  (try clear hk)
  (try clear hi)
  refine hK.out _ _ ⟨(blk_cell BK648.out 0).trans rfl, (blk_cell BK648.out 1).trans rfl, (blk_cell BK634.out 0).trans rfl, (blk_cell BK634.out 1).trans rfl⟩ (fun hHeld => ?_)
  clear hK K
  refine norm_ (a' := ?_) ?_ ?_
  rotate_left
  ·show Act.put _ (some 56) _ = _
   simp only [Act.put, sA, sB, sC, i64_w, i32_w]
   rfl
  refine pure_ (i := 4) (N := some 57) (v := ?_) (a' := ?_) (ms 5 31) rfl rfl (by kernel_rfl) (fun _ _ _ h => h) (Or.inl ⟨by rfl, ?_⟩) ?_ ?_
  rotate_left
  ·intro w'
   go_simp
   with_reducible rfl
  rotate_left
  ·simp only [Act.put, sA, sB, sC, i64_w, i32_w]
   rfl
  refine done_ (by kernel_rfl) ?_
  have hnb45 := NB648_634.out
  have hnc45 := NB634_648.out
  have hcz46_0 : w44.cell? ⟨gb648, 0, none⟩ = some (.int .i64 t644) := (blk_cell BK648.out 0).trans rfl
  have hcz46_1 : w44.cell? ⟨gb648, 1, none⟩ = some (.slice Ao27 t645.length co27) := (blk_cell BK648.out 1).trans rfl
  have hfz46_0 := blk_frozen BK648.out 0
  have hfz46_1 := blk_frozen BK648.out 1
  go_upto_region 14 with (first | ((with_reducible refine gate_callee (f := 21) rfl ?_); refine goesL_ (some 60) rfl rfl Try.func21 (by kernel_rfl) rfl #[.agg #[.int .i64 t644, .slice Ao27 t645.length co27], .int .i64 1] rfl (by (try simp only [List.map_toArray, List.map_cons, List.map_nil]); first | done | rfl | (simp only [List.length_drop, List.length_take]; rfl)) ?_; (with_reducible refine (laws_markNet.calls kj13 t644 (fun k_ => some k_ = (.slice Ao27 t645.length co27 : Value).ownBlock) (.slice Ao27 t645.length co27) t645 1 t659 t660 w _ ?side1 ?side2 A39.out).mono ?_); (case side1 => repeat (first | (with_reducible first | exact HB.out | apply below_alloc | apply pw_below_drewN | apply below_drew1 | refine below_set ?_ GE634.out | refine below_set ?_ GE648.out) | exact HB.out)); (case side2 => exact Kd.R_tight rfl HO_649001.out); rintro e w47 ⟨rfl, hy0, hb, hkp⟩; refine ⟨_, rfl, ?_⟩; replace HO_10 := Aside0.mk (Kd.R_mono (ok' := fun k_ => some k_ ≠ (v650 : Value).ownBlock) (Kd.R_keptB ((Kd.R_apart' HO_10.out (Kd.R_typed HO_649001.out) (by decide))) hkp (fun k_ hk_ hs_ => (hk_.2) hs_)) (fun k_ hk_ => hk_.1.1)); replace HO_13 := Aside0.mk (Kd.R_mono (ok' := fun k_ => some k_ ≠ (v641 : Value).ownBlock) (Kd.R_keptB ((Kd.R_apart' HO_13.out (Kd.R_typed HO_649001.out) (by decide))) hkp (fun k_ hk_ hs_ => (hk_.2) hs_)) (fun k_ hk_ => hk_.1.1)); replace BK634 := Aside0.mk (blk_kept (bk BK634) hkp (fun hs_ => (fun e_ => (Kd.R_ne HO_649001.out BK634.out (by decide)) e_) hs_)); replace BK648 := Aside0.mk (blk_kept (bk BK648) hkp (fun hs_ => (fun e_ => (Kd.R_ne HO_649001.out BK648.out (by decide)) e_) hs_)); replace HO_649001 := Aside0.mk (Kd.R_reok rfl hy0 (fun k_ e_ => HO_649001.out.1 k_ e_)); replace HO657 := Aside0.mk (Kd.R_mono (ok' := fun k_ => some k_ ≠ (.slice Ao27 t645.length co27 : Value).ownBlock) (Kd.R_keptB (HO657.out) hkp (fun k_ hk_ hs_ => (hk_.2) hs_)) (fun k_ hk_ => hk_.1.2)); replace HB := Aside0.mk (hb); (try clear hb); (try clear hkp); (try clear hy0)))
  (try simp only [Act.put, List.setIfInBounds_toArray, List.set_cons_zero, List.set_cons_succ])
  go_cut [73] (fun v73 wc => ∃ (kq : Nat) (x73_39 : Bool), v73 = .bool x73_39 ∧ Aside0 (laws_FnExactLoadWalk.j1 kq a1 a2 a3 t640 t643 t649 x73_39 a0_0 l0_1 = some r) ∧ Aside0 (kq ≤ kj13) ∧ Aside0 (Kd.R (Kd.int .i64) 3 wc w.heap.size (fun k_ => some k_ ≠ (v650 : Value).ownBlock) v641 t640) ∧ Aside0 (Kd.R (Kd.int .i64) 3 wc w.heap.size (fun k_ => some k_ ≠ (v641 : Value).ownBlock) v650 t649) ∧ Aside0 (Kd.R k100 100 wc w.heap.size (fun _ => True) (.slice Ao27 t645.length co27) t660) ∧ Aside0 (wc.heap[gb634]? = some (.cells #[.int .i64 a0_0, (.slice A0_1 l0_1.length c0_1)] 24 (0, 0))) ∧ Aside0 (wc.heap[gb648]? = some (.cells #[.int .i64 t644, (.slice Ao27 t645.length co27)] 30 (0, 0))) ∧ Aside0 (Below w.heap.size w wc))
  case first =>
   have H := HC40.out
   clear HC40
   by_cases c48 : t659 < 0
   ·rw [if_pos c48] at H
    have c48b0 : decide (t659 < 0) = true := decide_eq_true c48
    clear c48
    (first | rw [c48b0] | (simp only [i64_w, i32_w]; rw [c48b0]) | skip)
    have H' := Aside0.mk H
    clear H
    go_wp2
    go_meet
    case rel => exact ⟨_, (true), (by first | rfl | (simp; done) | (simp [*]; done)), H', ⟨by have := HJ13.out; first | omega | exact Nat.le_refl _⟩, ⟨rk HO_10⟩, ⟨rk HO_13⟩, ⟨by (with_reducible repeat (first | apply Kd.R_alloc | apply Kd.R_drewN | apply Kd.R_drew)); exact Kd.R_mono HO_649001.out (fun _ hk => trivial)⟩, ⟨bk BK634⟩, ⟨bk BK648⟩, ⟨bl2 HB GE634 GE648⟩⟩
   rw [if_neg c48] at H
   have c48b0 : decide (t659 < 0) = false := decide_eq_false c48
   clear c48
   (first | rw [c48b0] | (simp only [i64_w, i32_w]; rw [c48b0]) | skip)
   replace H := Option.bind_eq_some_iff.mp H
   obtain ⟨t661, A490, H⟩ := H
   have A49 := Aside0.mk A490
   clear A490
   by_cases c50 : t661 = true
   ·subst c50
    rw [if_pos rfl] at H
    have H' := Aside0.mk H
    clear H
    obtain ⟨Ao51, co51, eo51⟩ := Kd.R_slice HO_13.out
    subst eo51
    obtain ⟨Ao52, co52, eo52⟩ := Kd.R_slice HO_10.out
    subst eo52
    go_wp2_with (first | (go_at_call 19; (with_reducible refine (laws_eqIntS.calls kj13 _ _ t649 _ _ t640 true _ ?side1 ?side2 ?side3 ?side4 A49.out).mono ?_); (case side1 => repeat (first | exact (Kd.R_reads' HO_13.out).2.2 | (with_reducible refine Kd.C_alloc ?_ _) | (with_reducible refine Kd.C_drewN ?_ _) | (with_reducible refine Kd.C_drew ?_))); (case side2 => exact (Kd.R_reads' HO_13.out).2.1); (case side3 => repeat (first | exact (Kd.R_reads' HO_10.out).2.2 | (with_reducible refine Kd.C_alloc ?_ _) | (with_reducible refine Kd.C_drewN ?_ _) | (with_reducible refine Kd.C_drew ?_))); (case side4 => exact (Kd.R_reads' HO_10.out).2.1); rintro e w' ⟨rfl, ⟨nd, rfl⟩⟩))
    go_meet
    case rel => exact ⟨_, ((t652 != t643)), (by first | rfl | (simp; done) | (simp [*]; done)), H', ⟨by have := HJ13.out; first | omega | exact Nat.le_refl _⟩, ⟨rk HO_10⟩, ⟨rk HO_13⟩, ⟨by (with_reducible repeat (first | apply Kd.R_alloc | apply Kd.R_drewN | apply Kd.R_drew)); exact Kd.R_mono HO_649001.out (fun _ hk => trivial)⟩, ⟨bk BK634⟩, ⟨bk BK648⟩, ⟨bl2 HB GE634 GE648⟩⟩
   replace c50 := Bool.eq_false_iff.mpr c50
   subst c50
   rw [if_neg (show ¬ (false = true) by decide)] at H
   have H' := Aside0.mk H
   clear H
   obtain ⟨Ao53, co53, eo53⟩ := Kd.R_slice HO_13.out
   subst eo53
   obtain ⟨Ao54, co54, eo54⟩ := Kd.R_slice HO_10.out
   subst eo54
   go_wp2_with (first | (go_at_call 19; (with_reducible refine (laws_eqIntS.calls kj13 _ _ t649 _ _ t640 false _ ?side1 ?side2 ?side3 ?side4 A49.out).mono ?_); (case side1 => repeat (first | exact (Kd.R_reads' HO_13.out).2.2 | (with_reducible refine Kd.C_alloc ?_ _) | (with_reducible refine Kd.C_drewN ?_ _) | (with_reducible refine Kd.C_drew ?_))); (case side2 => exact (Kd.R_reads' HO_13.out).2.1); (case side3 => repeat (first | exact (Kd.R_reads' HO_10.out).2.2 | (with_reducible refine Kd.C_alloc ?_ _) | (with_reducible refine Kd.C_drewN ?_ _) | (with_reducible refine Kd.C_drew ?_))); (case side4 => exact (Kd.R_reads' HO_10.out).2.1); rintro e w' ⟨rfl, ⟨nd, rfl⟩⟩))
   go_meet
   case rel => exact ⟨_, (true), (by first | rfl | (simp; done) | (simp [*]; done)), H', ⟨by have := HJ13.out; first | omega | exact Nat.le_refl _⟩, ⟨rk HO_10⟩, ⟨rk HO_13⟩, ⟨by (with_reducible repeat (first | apply Kd.R_alloc | apply Kd.R_drewN | apply Kd.R_drew)); exact Kd.R_mono HO_649001.out (fun _ hk => trivial)⟩, ⟨bk BK634⟩, ⟨bk BK648⟩, ⟨bl2 HB GE634 GE648⟩⟩
  clear HC40
  try clear c1
  try clear c2
  try clear p2
  try clear c3
  try clear c4
  try clear c5
  try clear c6
  try clear c6b0
  try clear c8
  try clear c15
  try clear c17
  try clear c19
  try clear c20
  try clear c21
  try clear c25
  try clear c30
  try clear c35
  try clear c36
  try clear c37
  try clear c38
  try clear c45
  try clear c48
  try clear c48b0
  try clear c50
  try clear hcz16_0
  try clear hcz16_1
  try clear hcz18_0
  try clear hcz18_1
  try clear hcz22_0
  try clear hcz22_1
  try clear hcz26_0
  try clear hcz26_1
  try clear hcz46_0
  try clear hcz46_1
  try clear hcz8_0
  try clear hcz8_1
  try clear hfz16_0
  try clear hfz16_1
  try clear hfz18_0
  try clear hfz18_1
  try clear hfz22_0
  try clear hfz22_1
  try clear hfz26_0
  try clear hfz26_1
  try clear hfz46_0
  try clear hfz46_1
  try clear hfz8_0
  try clear hfz8_1
  try clear p2
  obtain ⟨kq, x73_39, rfl, HA, HJ39, HO_10, HO_13, HO_649001, BK634, BK648, HB⟩ := hcut
  have hl649001_39 := (Kd.R_reads' HO_649001.out).1
  rw [hl649001_39] at HO_649001
  (try simp only [hl649001_39])
  (try simp only [hl649001_39] at BK634)
  (try simp only [hl649001_39] at BK648)
  (try simp only [hl649001_39] at HO_10)
  (try simp only [hl649001_39] at HO_13)
  cases kq with
  | zero => exact absurd HA.out (by simp [laws_FnExactLoadWalk.j1])
  | succ kj39 =>
   have H := HA.out
   clear HA
   simp only [laws_FnExactLoadWalk.j1] at H
   by_cases c55 : x73_39 = true
   ·subst c55
    rw [if_pos rfl] at H
    exact absurd ((Option.some.inj H).trans hr_) Bool.false_ne_true
   replace c55 := Bool.eq_false_iff.mpr c55
   subst c55
   rw [if_neg (show ¬ (false = true) by decide)] at H
   replace H := Option.bind_eq_some_iff.mp H
   obtain ⟨⟨t662, t663⟩, A560, H⟩ := H
   have A56 := Aside0.mk A560
   clear A560
   replace H := Option.bind_eq_some_iff.mp H
   obtain ⟨t664, A570, H⟩ := H
   have A57 := Aside0.mk A570
   clear A570
   by_cases c58 : t664 < 0
   ·rw [if_pos c58] at H
    have c58b0 : decide (t664 < 0) = true := decide_eq_true c58
    clear c58
    exact absurd ((Option.some.inj H).trans hr_) Bool.false_ne_true
   rw [if_neg c58] at H
   have c58b0 : decide (t664 < 0) = false := decide_eq_false c58
   clear c58
   by_cases c59 : t664 = t662
   rotate_left
   ·rw [if_neg c59] at H
    have c59b0 : (t664 == t662) = false := beq_eq_false_iff_ne.mpr c59
    have c59b1 : (t664 != t662) = true := bne_iff_ne.mpr c59
    exact absurd ((Option.some.inj H).trans hr_) Bool.false_ne_true
   rw [if_pos c59] at H
   have c59b0 : (t664 == t662) = true := beq_iff_eq.mpr c59
   have c59b1 : (t664 != t662) = false := bne_eq_false_iff_eq.mpr c59
   clear c59
   replace H := Option.bind_eq_some_iff.mp H
   obtain ⟨⟨t665, t666⟩, A600, H⟩ := H
   have A60 := Aside0.mk A600
   clear A600
   replace H := Option.bind_eq_some_iff.mp H
   obtain ⟨⟨t669, t672⟩, A610, H⟩ := H
   have A61 := Aside0.mk A610
   clear A610
   have HC62 := Aside0.mk H
   clear H
   obtain ⟨Ao63, co63, eo63⟩ := Kd.R_slice HO_13.out
   subst eo63
   go_upto_region 25 with (first | ((with_reducible refine gate_callee (f := 22) rfl ?_); refine goesL_ (some 76) rfl rfl Try.func22 (by kernel_rfl) rfl #[.slice Ao63 t649.length co63, .int .i64 1] rfl (by (try simp only [List.map_toArray, List.map_cons, List.map_nil]); first | done | rfl | (simp only [List.length_drop, List.length_take]; rfl)) ?_; (with_reducible refine (laws_markIntS.calls kj39 (fun k_ => some k_ = (.slice Ao63 t649.length co63 : Value).ownBlock) (.slice Ao63 t649.length co63) t649 1 t662 t663 w _ ?side1 ?side2 A56.out).mono ?_); (case side1 => repeat (first | (with_reducible first | exact HB.out | apply below_alloc | apply pw_below_drewN | apply below_drew1 | refine below_set ?_ GE634.out | refine below_set ?_ GE648.out) | exact HB.out)); (case side2 => exact Kd.R_tight rfl HO_13.out); rintro e w64 ⟨rfl, hy0, hb, hkp⟩; refine ⟨_, rfl, ?_⟩; replace HO_10 := Aside0.mk (Kd.R_mono (ok' := fun k_ => some k_ ≠ (.slice Ao63 t649.length co63 : Value).ownBlock) (Kd.R_keptB (HO_10.out) hkp (fun k_ hk_ hs_ => (hk_) hs_)) (fun k_ hk_ => hk_.1)); replace HO_649001 := Aside0.mk (Kd.R_mono (ok' := fun k_ => True) (Kd.R_keptB ((Kd.R_apart' HO_649001.out (Kd.R_typed HO_13.out) (by decide))) hkp (fun k_ hk_ hs_ => (hk_.2) hs_)) (fun k_ hk_ => trivial)); replace BK634 := Aside0.mk (blk_kept (bk BK634) hkp (fun hs_ => (fun e_ => (Kd.R_ne HO_13.out BK634.out (by decide)) e_) hs_)); replace BK648 := Aside0.mk (blk_kept (bk BK648) hkp (fun hs_ => (fun e_ => (Kd.R_ne HO_13.out BK648.out (by decide)) e_) hs_)); replace HO_13 := Aside0.mk (Kd.R_reok rfl hy0 (fun k_ e_ => HO_13.out.1 k_ e_)); replace HB := Aside0.mk (hb); (try clear hb); (try clear hkp); (try clear hy0)) | ((with_reducible refine gate_callee (f := 23) rfl ?_); refine goesL_ (some 79) rfl rfl Try.func23 (by kernel_rfl) rfl #[.slice Ao63 t663.length co63, .int .i64 1] rfl (by (try simp only [List.map_toArray, List.map_cons, List.map_nil]); first | done | (rw [show t663.length = t649.length from (Kd.R_reads' HO_13.out).1.symm] <;> rfl) | rfl | (simp only [List.length_drop, List.length_take]; rfl)) ?_; (with_reducible refine (laws_heldIntS.calls kj39 _ _ t663 1 t664 _ ?side1 ?side2 A57.out).mono ?_); (case side1 => repeat (first | exact (Kd.R_reads' HO_13.out).2.2 | (with_reducible refine Kd.C_alloc ?_ _) | (with_reducible refine Kd.C_drewN ?_ _) | (with_reducible refine Kd.C_drew ?_))); (case side2 => rw [show t663.length = t649.length from (Kd.R_reads' HO_13.out).1.symm]; exact (Kd.R_reads' HO_13.out).2.1); rintro e w' ⟨rfl, ⟨nd, rfl⟩⟩; refine ⟨_, rfl, ?_⟩; have hnb65 := NB634_648.out; have hnc65 := NB648_634.out; have hcz66_0 : w64.cell? ⟨gb634, 0, none⟩ = some (.int .i64 a0_0) := (blk_cell BK634.out 0).trans rfl; have hcz66_1 : w64.cell? ⟨gb634, 1, none⟩ = some (.slice A0_1 l0_1.length c0_1) := (blk_cell BK634.out 1).trans rfl; have hfz66_0 := blk_frozen BK634.out 0; have hfz66_1 := blk_frozen BK634.out 1) | ((with_reducible refine gate_callee (f := 17) rfl ?_); refine goesL_ (some 87) rfl rfl Try.func17 (by kernel_rfl) rfl #[.agg #[.int .i64 a0_0, .slice A0_1 l0_1.length c0_1]] rfl (by (try simp only [List.map_toArray, List.map_cons, List.map_nil]); first | done | rfl | (simp only [List.length_drop, List.length_take]; rfl)) ?_; (with_reducible refine (laws_toNet.calls kj39 a0_0 _ _ l0_1 t665 t666 _ ?side1 ?side2 A60.out).mono ?_); (case side1 => repeat (first | exact (Kd.C_below HR0_1.out (bl2 HB GE634 GE648)) | (with_reducible refine Kd.C_alloc ?_ _) | (with_reducible refine Kd.C_drewN ?_ _) | (with_reducible refine Kd.C_drew ?_))); (case side2 => exact HC0_1.out); rintro e w67 ⟨v667, rfl, ho0, hb⟩; refine ⟨_, rfl, ?_⟩; replace HO_10 := Aside0.mk (Kd.R_below (rk HO_10) hb); replace HO_13 := Aside0.mk (Kd.R_below (rk HO_13) hb); have HO668 := Aside0.mk (Kd.R_lower (Kd.R_new' ho0 (Kd.R_lt (rk HO_649001))) (below_size (bl2 HB GE634 GE648))); replace HO_649001 := Aside0.mk (Kd.R_elder' (rk HO_649001) (Kd.R_base ho0) hb); replace BK634 := Aside0.mk (blk_below (bk BK634) hb); replace BK648 := Aside0.mk (blk_below (bk BK648) hb); replace HB := Aside0.mk (below_step (bl2 HB GE634 GE648) hb); (try clear hb); (try clear hb2); (try clear hk); (try clear hi); (try clear ho0); obtain ⟨Ao68, co68, eo68⟩ := Kd.R_slice HO668.out; subst eo68) | ((with_reducible refine gate_callee (f := 37) rfl ?_); refine goesL_ (some 91) rfl rfl Try.func37 (by kernel_rfl) rfl #[.agg #[.int .i64 t665, .slice Ao68 t666.length co68], .int .i64 a1, .int .i64 a2, .int .i64 a3] rfl (by (try simp only [List.map_toArray, List.map_cons, List.map_nil]); first | done | rfl | (simp only [List.length_drop, List.length_take]; rfl)) ?_; (with_reducible refine (impl_LoadWalk.calls kj39 t665 _ _ t666 a1 a2 a3 t669 t672 _ ?side1 ?side2 A61.out).mono ?_); (case side1 => repeat (first | exact (Kd.R_reads' HO668.out).2.2 | (with_reducible refine Kd.C_alloc ?_ _) | (with_reducible refine Kd.C_drewN ?_ _) | (with_reducible refine Kd.C_drew ?_))); (case side2 => exact (Kd.R_reads' HO668.out).2.1); rintro e w69 ⟨v670, rfl, ho0, hb⟩; refine ⟨_, rfl, ?_⟩; replace HO_649001 := Aside0.mk (Kd.R_below (rk HO_649001) hb); replace HO668 := Aside0.mk (Kd.R_below (rk HO668) hb); have HO671 := Aside0.mk (Kd.R_lower (Kd.R_new' (Kd.R_new' ho0 (Kd.R_lt (rk HO_10))) (Kd.R_lt (rk HO_13))) (below_size (bl2 HB GE634 GE648))); replace HO_10 := Aside0.mk (Kd.R_elder' (rk HO_10) (Kd.R_base ho0) hb); replace HO_13 := Aside0.mk (Kd.R_elder' (rk HO_13) (Kd.R_base ho0) hb); replace BK634 := Aside0.mk (blk_below (bk BK634) hb); replace BK648 := Aside0.mk (blk_below (bk BK648) hb); replace HB := Aside0.mk (below_step (bl2 HB GE634 GE648) hb); (try clear hb); (try clear hb2); (try clear hk); (try clear hi); (try clear ho0)))
   (try simp only [Act.put, List.setIfInBounds_toArray, List.set_cons_zero, List.set_cons_succ])
   go_cut [102] (fun v102 wc => ∃ (kq : Nat) (x102_61 : Bool), v102 = .bool x102_61 ∧ Aside0 (laws_FnExactLoadWalk.j2 kq t663 t662 x102_61 = some r) ∧ Aside0 (kq ≤ kj39) ∧ Aside0 (Kd.R (Kd.int .i64) 3 wc w.heap.size (fun _ => True) (.slice Ao63 t649.length co63) t663) ∧ Aside0 (Kd.R k100 100 wc w.heap.size (fun _ => True) (.slice Ao27 t660.length co27) t660) ∧ Aside0 (wc.heap[gb634]? = some (.cells #[.int .i64 a0_0, (.slice A0_1 l0_1.length c0_1)] 24 (0, 0))) ∧ Aside0 (wc.heap[gb648]? = some (.cells #[.int .i64 t644, (.slice Ao27 t660.length co27)] 30 (0, 0))) ∧ Aside0 (Below w.heap.size w wc))
   case first =>
    have H := HC62.out
    clear HC62
    replace H := Option.bind_eq_some_iff.mp H
    obtain ⟨t673, A700, H⟩ := H
    have A70 := Aside0.mk A700
    clear A700
    by_cases c71 : t673 = true
    ·subst c71
     rw [if_pos rfl] at H
     have H' := Aside0.mk H
     clear H
     obtain ⟨Ao72, co72, eo72⟩ := Kd.R_slice HO671.out
     subst eo72
     obtain ⟨Ao73, co73, eo73⟩ := Kd.R_slice HO_10.out
     subst eo73
     go_wp2_with (first | ((with_reducible refine gate_callee (f := 19) rfl ?_); refine goesL_ (some 96) rfl rfl Try.func19 (by kernel_rfl) rfl #[.slice Ao72 t669.length co72, .slice Ao73 t640.length co73] rfl (by (try simp only [List.map_toArray, List.map_cons, List.map_nil]); first | done | rfl | (simp only [List.length_drop, List.length_take]; rfl)) ?_; (with_reducible refine (laws_eqIntS.calls kj39 _ _ t669 _ _ t640 true _ ?side1 ?side2 ?side3 ?side4 A70.out).mono ?_); (case side1 => repeat (first | exact (Kd.R_reads' HO671.out).2.2 | (with_reducible refine Kd.C_alloc ?_ _) | (with_reducible refine Kd.C_drewN ?_ _) | (with_reducible refine Kd.C_drew ?_))); (case side2 => exact (Kd.R_reads' HO671.out).2.1); (case side3 => repeat (first | exact (Kd.R_reads' HO_10.out).2.2 | (with_reducible refine Kd.C_alloc ?_ _) | (with_reducible refine Kd.C_drewN ?_ _) | (with_reducible refine Kd.C_drew ?_))); (case side4 => exact (Kd.R_reads' HO_10.out).2.1); rintro e w' ⟨rfl, ⟨nd, rfl⟩⟩; refine ⟨_, rfl, ?_⟩))
     go_meet
     case rel => exact ⟨_, ((t672 != t643)), (by first | rfl | (simp; done) | (simp [*]; done)), H', ⟨by have := HJ13.out; have := HJ39.out; first | omega | exact Nat.le_refl _⟩, ⟨by (try simp only [hl649001_39]); (with_reducible repeat (first | apply Kd.R_alloc | apply Kd.R_drewN | apply Kd.R_drew)); exact Kd.R_mono HO_13.out (fun _ hk => trivial)⟩, ⟨by (try simp only [hl649001_39]); (with_reducible repeat (first | apply Kd.R_alloc | apply Kd.R_drewN | apply Kd.R_drew)); exact Kd.R_mono HO_649001.out (fun _ hk => trivial)⟩, ⟨by (try simp only [hl649001_39]); (with_reducible repeat (first | refine blk_drewN ?_ _ | refine blk_drew ?_ | refine blk_alloc ?_ _)); exact BK634.out⟩, ⟨by (try simp only [hl649001_39]); (with_reducible repeat (first | refine blk_drewN ?_ _ | refine blk_drew ?_ | refine blk_alloc ?_ _)); exact BK648.out⟩, ⟨bl2 HB GE634 GE648⟩⟩
    replace c71 := Bool.eq_false_iff.mpr c71
    subst c71
    rw [if_neg (show ¬ (false = true) by decide)] at H
    have H' := Aside0.mk H
    clear H
    obtain ⟨Ao74, co74, eo74⟩ := Kd.R_slice HO671.out
    subst eo74
    obtain ⟨Ao75, co75, eo75⟩ := Kd.R_slice HO_10.out
    subst eo75
    go_wp2_with (first | ((with_reducible refine gate_callee (f := 19) rfl ?_); refine goesL_ (some 96) rfl rfl Try.func19 (by kernel_rfl) rfl #[.slice Ao74 t669.length co74, .slice Ao75 t640.length co75] rfl (by (try simp only [List.map_toArray, List.map_cons, List.map_nil]); first | done | rfl | (simp only [List.length_drop, List.length_take]; rfl)) ?_; (with_reducible refine (laws_eqIntS.calls kj39 _ _ t669 _ _ t640 false _ ?side1 ?side2 ?side3 ?side4 A70.out).mono ?_); (case side1 => repeat (first | exact (Kd.R_reads' HO671.out).2.2 | (with_reducible refine Kd.C_alloc ?_ _) | (with_reducible refine Kd.C_drewN ?_ _) | (with_reducible refine Kd.C_drew ?_))); (case side2 => exact (Kd.R_reads' HO671.out).2.1); (case side3 => repeat (first | exact (Kd.R_reads' HO_10.out).2.2 | (with_reducible refine Kd.C_alloc ?_ _) | (with_reducible refine Kd.C_drewN ?_ _) | (with_reducible refine Kd.C_drew ?_))); (case side4 => exact (Kd.R_reads' HO_10.out).2.1); rintro e w' ⟨rfl, ⟨nd, rfl⟩⟩; refine ⟨_, rfl, ?_⟩))
    go_meet
    case rel => exact ⟨_, (true), (by first | rfl | (simp; done) | (simp [*]; done)), H', ⟨by have := HJ13.out; have := HJ39.out; first | omega | exact Nat.le_refl _⟩, ⟨by (try simp only [hl649001_39]); (with_reducible repeat (first | apply Kd.R_alloc | apply Kd.R_drewN | apply Kd.R_drew)); exact Kd.R_mono HO_13.out (fun _ hk => trivial)⟩, ⟨by (try simp only [hl649001_39]); (with_reducible repeat (first | apply Kd.R_alloc | apply Kd.R_drewN | apply Kd.R_drew)); exact Kd.R_mono HO_649001.out (fun _ hk => trivial)⟩, ⟨by (try simp only [hl649001_39]); (with_reducible repeat (first | refine blk_drewN ?_ _ | refine blk_drew ?_ | refine blk_alloc ?_ _)); exact BK634.out⟩, ⟨by (try simp only [hl649001_39]); (with_reducible repeat (first | refine blk_drewN ?_ _ | refine blk_drew ?_ | refine blk_alloc ?_ _)); exact BK648.out⟩, ⟨bl2 HB GE634 GE648⟩⟩
   clear HC62
   try clear c1
   try clear c2
   try clear p2
   try clear c3
   try clear c4
   try clear c5
   try clear c6
   try clear c6b0
   try clear c7
   try clear c8
   try clear c15
   try clear c17
   try clear c19
   try clear c20
   try clear c21
   try clear c22
   try clear c23
   try clear c25
   try clear c30
   try clear c35
   try clear c36
   try clear c37
   try clear c38
   try clear c45
   try clear c48
   try clear c48b0
   try clear c50
   try clear c55
   try clear c58
   try clear c58b0
   try clear c59
   try clear c59b0
   try clear c59b1
   try clear c65
   try clear c71
   try clear hcz16_0
   try clear hcz16_1
   try clear hcz18_0
   try clear hcz18_1
   try clear hcz22_0
   try clear hcz22_1
   try clear hcz26_0
   try clear hcz26_1
   try clear hcz46_0
   try clear hcz46_1
   try clear hcz66_0
   try clear hcz66_1
   try clear hcz8_0
   try clear hcz8_1
   try clear hfz16_0
   try clear hfz16_1
   try clear hfz18_0
   try clear hfz18_1
   try clear hfz22_0
   try clear hfz22_1
   try clear hfz26_0
   try clear hfz26_1
   try clear hfz46_0
   try clear hfz46_1
   try clear hfz66_0
   try clear hfz66_1
   try clear hfz8_0
   try clear hfz8_1
   try clear p2
   obtain ⟨kq, x102_61, rfl, HA, HJ61, HO_13, HO_649001, BK634, BK648, HB⟩ := hcut
   have hl13_61 := (Kd.R_reads' HO_13.out).1
   rw [hl13_61] at HO_13
   (try simp only [hl13_61])
   (try simp only [hl13_61] at BK634)
   (try simp only [hl13_61] at BK648)
   (try simp only [hl13_61] at HO_649001)
   cases kq with
   | zero => exact absurd HA.out (by simp [laws_FnExactLoadWalk.j2])
   | succ kj61 =>
    have H := HA.out
    clear HA
    simp only [laws_FnExactLoadWalk.j2] at H
    by_cases c76 : x102_61 = true
    ·subst c76
     rw [if_pos rfl] at H
     exact absurd ((Option.some.inj H).trans hr_) Bool.false_ne_true
    replace c76 := Bool.eq_false_iff.mpr c76
    subst c76
    rw [if_neg (show ¬ (false = true) by decide)] at H
    replace H := Option.bind_eq_some_iff.mp H
    obtain ⟨t674, A770, H⟩ := H
    have A77 := Aside0.mk A770
    clear A770
    by_cases c78 : t674 < 0
    ·rw [if_pos c78] at H
     have c78b0 : decide (t674 < 0) = true := decide_eq_true c78
     clear c78
     exact absurd ((Option.some.inj H).trans hr_) Bool.false_ne_true
    rw [if_neg c78] at H
    have c78b0 : decide (t674 < 0) = false := decide_eq_false c78
    clear c78
    by_cases c79 : t674 = t662
    rotate_left
    ·rw [if_neg c79] at H
     have c79b0 : (t674 == t662) = false := beq_eq_false_iff_ne.mpr c79
     have c79b1 : (t674 != t662) = true := bne_iff_ne.mpr c79
     exact absurd ((Option.some.inj H).trans hr_) Bool.false_ne_true
    rw [if_pos c79] at H
    have c79b0 : (t674 == t662) = true := beq_iff_eq.mpr c79
    have c79b1 : (t674 != t662) = false := bne_eq_false_iff_eq.mpr c79
    clear c79
    obtain rfl := Option.some.inj H
    go_wp2_with (first | ((with_reducible refine gate_callee (f := 23) rfl ?_); refine goesL_ (some 105) rfl rfl Try.func23 (by kernel_rfl) rfl #[.slice Ao63 t663.length co63, .int .i64 1] rfl (by (try simp only [List.map_toArray, List.map_cons, List.map_nil]); first | done | rfl | (simp only [List.length_drop, List.length_take]; rfl)) ?_; (with_reducible refine (laws_heldIntS.calls kj61 _ _ t663 1 t674 _ ?side1 ?side2 A77.out).mono ?_); (case side1 => repeat (first | exact (Kd.R_reads' HO_13.out).2.2 | (with_reducible refine Kd.C_alloc ?_ _) | (with_reducible refine Kd.C_drewN ?_ _) | (with_reducible refine Kd.C_drew ?_))); (case side2 => exact (Kd.R_reads' HO_13.out).2.1); rintro e w' ⟨rfl, ⟨nd, rfl⟩⟩; refine ⟨_, rfl, ?_⟩))
    go_ret
    exact ⟨by first | rfl | (simp [errW_none, errW_some] <;> rfl) | (simp [*, errW_none, errW_some] <;> rfl), bl2 HB GE634 GE648⟩
/-- THE ONE PURE STATEMENT of laws_FnExactLoadWalk. -/
def laws_FnExactLoadWalk.Pure : Prop := ∀ (a0_0 : Int) (l0_1 : List (S132)) (a1 : Int) (a2 : Int) (a3 : Int), (Lit.int .i64 a0_0).wf = true → (l0_1.length ≤ 9223372036854775807 ∧ ∀ y_ ∈ l0_1, ((Lit.int .i64 y_.f0).wf = true ∧ ((Lit.int .i64 y_.f1).wf = true ∧ ((Lit.int .i64 y_.f2).wf = true ∧ ((Lit.int .i64 y_.f3).wf = true ∧ ((Lit.int .i64 y_.f4).wf = true)))))) → (Lit.int .i64 a1).wf = true → (Lit.int .i64 a2).wf = true → (Lit.int .i64 a3).wf = true → ∃ k, laws_FnExactLoadWalk.f k a0_0 l0_1 a1 a2 a3 = some true

end Go.Proofs.Ytbappbbljncdeaa.F
