-- Printed by wip/px/px.py of this claim's repository (the kit's printer, extended there). Lean checks it.
import Derived.Test.YtbappbbljncdeaaFKinds
import Derived.Test.YtbappbbljncdeaaFlawsNet
import Derived.Test.YtbappbbljncdeaaFlawsNet
import Derived.Test.YtbappbbljncdeaaFlawsInt
import Derived.Test.YtbappbbljncdeaaFlawsNet
import Derived.Test.YtbappbbljncdeaaFlawsMarkInt
import Derived.Test.YtbappbbljncdeaaFlawsMarkInt
import Derived.Test.YtbappbbljncdeaaFlawsMarkInt
import Derived.Test.YtbappbbljncdeaaFlawsInt
import Derived.Test.YtbappbbljncdeaaFspecTourBest
import Derived.Test.YtbappbbljncdeaaFimplTourBest
namespace Go.Proofs.Ytbappbbljncdeaa.F
open Go.RowKit Go.Proofs.YtbappbbljncdeaaW.PrintWords Go.Proofs.YtbappbbljncdeaaW.PrintLast Go.Proofs.YtbappbbljncdeaaW.PrintMore
attribute [local go_sem] max2_int min2_int max_two min_two max_three min_three max_four min_four   -- for this text's walks alone
set_option linter.unusedVariables false
set_option linter.unusedSimpArgs false

/-! ### laws_FnExactTourBest: function 12 -/
mutual
def laws_FnExactTourBest.j0 : Nat → List Int → List Int → Int → List Int → List Int → Int → Bool → Int → List (S132) → Int → List (S100) → Option (Bool)
 | 0, _, _, _, _, _, _, _, _, _, _, _ => none
 | k + 1, x1, x6, x7, x9, x10, x11, x51, x1313000, x1313001, x1330000, x1330001 => if x51 = true then (some false) else ((laws_toNet.f k x1313000 x1313001).bind fun bt1338 => ((laws_eqNet.f k x1330000 x1330001 bt1338.1 bt1338.2).bind fun t1342 => (if t1342 = true then ((laws_toIntS.f k x1).bind fun t1343 => ((laws_eqIntS.f k x9 t1343).bind fun t1346 => (if t1346 = true then ((laws_markNet.f k x1330000 x1330001 1).bind fun bt1347 => ((laws_markIntS.f k x9 bt1347.1).bind fun bt1349 => (if bt1349.1 < 0 then (laws_FnExactTourBest.j1 k x1 x6 x7 x10 true x1313000 x1313001) else ((laws_eqIntS.f k x10 x6).bind fun t1351 => (if t1351 = true then (laws_FnExactTourBest.j1 k x1 x6 x7 x10 (x11 != x7) x1313000 x1313001) else (laws_FnExactTourBest.j1 k x1 x6 x7 x10 true x1313000 x1313001)))))) else (some false)))) else (some false))))
def laws_FnExactTourBest.j1 : Nat → List Int → List Int → Int → List Int → Bool → Int → List (S132) → Option (Bool)
 | 0, _, _, _, _, _, _, _ => none
 | k + 1, x1, x6, x7, x10, x80, x1313000, x1313001 => if x80 = true then (some false) else ((laws_markIntS.f k x10 1).bind fun bt1352 => ((laws_heldIntS.f k bt1352.2 1).bind fun t1354 => (if t1354 < 0 then (some false) else (if t1354 = bt1352.1 then ((laws_toNet.f k x1313000 x1313001).bind fun bt1355 => ((laws_toIntS.f k x1).bind fun t1359 => ((impl_TourBest.f k bt1355.1 bt1355.2 t1359).bind fun bt1362 => ((laws_eqIntS.f k bt1362.1 x6).bind fun t1366 => (if t1366 = true then (laws_FnExactTourBest.j2 k bt1352.2 bt1352.1 (bt1362.2 != x7)) else (laws_FnExactTourBest.j2 k bt1352.2 bt1352.1 true)))))) else (some false)))))
def laws_FnExactTourBest.j2 : Nat → List Int → Int → Bool → Option (Bool)
 | 0, _, _, _ => none
 | k + 1, x10, x13, x108 => if x108 = true then (some false) else ((laws_heldIntS.f k x10 1).bind fun t1367 => (if t1367 < 0 then (some false) else (if t1367 = x13 then (some true) else (some false))))
end
def laws_FnExactTourBest.f (k : Nat) (a0_0 : Int) (l0_1 : List (S132)) (l1 : List Int) : Option (Bool) := if (l1.length : Int) > 1048576 then (some true) else ((laws_szNet.f a0_0 l0_1 1048576).bind fun t1313 => (if t1313 < 0 then (some true) else ((laws_toNet.f k a0_0 l0_1).bind fun bt1314 => ((laws_toIntS.f k l1).bind fun t1318 => ((spec_TourBest.f k bt1314.1 bt1314.2 t1318).bind fun bt1321 => ((laws_toNet.f k a0_0 l0_1).bind fun bt1325 => ((laws_toIntS.f k l1).bind fun t1330 => ((impl_TourBest.f k bt1325.1 bt1325.2 t1330).bind fun bt1333 => ((laws_eqIntS.f k bt1333.1 bt1321.1).bind fun t1337 => (if t1337 = true then (laws_FnExactTourBest.j0 k l1 bt1321.1 bt1321.2 t1330 bt1333.1 bt1333.2 (bt1333.2 != bt1321.2) a0_0 l0_1 bt1325.1 bt1325.2) else (laws_FnExactTourBest.j0 k l1 bt1321.1 bt1321.2 t1330 bt1333.1 bt1333.2 true a0_0 l0_1 bt1325.1 bt1325.2)))))))))))
theorem laws_FnExactTourBest.mono_l : ∀ k, (∀ y0 y1 y2 y3 y4 y5 y6 y7 y8 y9 y10, LeO (laws_FnExactTourBest.j0 k y0 y1 y2 y3 y4 y5 y6 y7 y8 y9 y10) (laws_FnExactTourBest.j0 (k + 1) y0 y1 y2 y3 y4 y5 y6 y7 y8 y9 y10)) ∧ (∀ y0 y1 y2 y3 y4 y5 y6, LeO (laws_FnExactTourBest.j1 k y0 y1 y2 y3 y4 y5 y6) (laws_FnExactTourBest.j1 (k + 1) y0 y1 y2 y3 y4 y5 y6)) ∧ (∀ y0 y1 y2, LeO (laws_FnExactTourBest.j2 k y0 y1 y2) (laws_FnExactTourBest.j2 (k + 1) y0 y1 y2))
 | 0 => ⟨fun _ _ _ _ _ _ _ _ _ _ _ r h => by simp [laws_FnExactTourBest.j0] at h, fun _ _ _ _ _ _ _ r h => by simp [laws_FnExactTourBest.j1] at h, fun _ _ _ r h => by simp [laws_FnExactTourBest.j2] at h⟩
 | k + 1 => by
  obtain ⟨ih0, ih1, ih2⟩ := laws_FnExactTourBest.mono_l k
  refine ⟨?_, ?_, ?_⟩
  ·intro y0 y1 y2 y3 y4 y5 y6 y7 y8 y9 y10
   unfold laws_FnExactTourBest.j0
   repeat' first
   | (with_reducible exact ih0 _ _ _ _ _ _ _ _ _ _ _)
   | (with_reducible exact ih1 _ _ _ _ _ _ _)
   | (with_reducible exact ih2 _ _ _)
   | (with_reducible exact impl_TourBest.mono _ _ _ _)
   | (with_reducible exact laws_eqIntS.mono _ _ _)
   | (with_reducible exact laws_eqNet.mono _ _ _ _ _)
   | (with_reducible exact laws_heldIntS.mono _ _ _)
   | (with_reducible exact laws_markIntS.mono _ _ _)
   | (with_reducible exact laws_markNet.mono _ _ _ _)
   | (with_reducible exact laws_toIntS.mono _ _)
   | (with_reducible exact laws_toNet.mono _ _ _)
   | (with_reducible exact spec_TourBest.mono _ _ _ _)
   | (with_reducible exact LeO.refl _)
   | (with_reducible exact LeO.none _)
   | (with_reducible refine LeO.ite ?_ ?_)
   | (with_reducible refine LeO.bind ?_ (fun _ => ?_))
   | exact ih0 _ _ _ _ _ _ _ _ _ _ _
   | exact ih1 _ _ _ _ _ _ _
   | exact ih2 _ _ _
   | exact impl_TourBest.mono _ _ _ _
   | exact laws_eqIntS.mono _ _ _
   | exact laws_eqNet.mono _ _ _ _ _
   | exact laws_heldIntS.mono _ _ _
   | exact laws_markIntS.mono _ _ _
   | exact laws_markNet.mono _ _ _ _
   | exact laws_toIntS.mono _ _
   | exact laws_toNet.mono _ _ _
   | exact spec_TourBest.mono _ _ _ _
   | exact LeO.none _
   | refine LeO.ite ?_ ?_
   | refine LeO.bind ?_ (fun _ => ?_)
  ·intro y0 y1 y2 y3 y4 y5 y6
   unfold laws_FnExactTourBest.j1
   repeat' first
   | (with_reducible exact ih0 _ _ _ _ _ _ _ _ _ _ _)
   | (with_reducible exact ih1 _ _ _ _ _ _ _)
   | (with_reducible exact ih2 _ _ _)
   | (with_reducible exact impl_TourBest.mono _ _ _ _)
   | (with_reducible exact laws_eqIntS.mono _ _ _)
   | (with_reducible exact laws_eqNet.mono _ _ _ _ _)
   | (with_reducible exact laws_heldIntS.mono _ _ _)
   | (with_reducible exact laws_markIntS.mono _ _ _)
   | (with_reducible exact laws_markNet.mono _ _ _ _)
   | (with_reducible exact laws_toIntS.mono _ _)
   | (with_reducible exact laws_toNet.mono _ _ _)
   | (with_reducible exact spec_TourBest.mono _ _ _ _)
   | (with_reducible exact LeO.refl _)
   | (with_reducible exact LeO.none _)
   | (with_reducible refine LeO.ite ?_ ?_)
   | (with_reducible refine LeO.bind ?_ (fun _ => ?_))
   | exact ih0 _ _ _ _ _ _ _ _ _ _ _
   | exact ih1 _ _ _ _ _ _ _
   | exact ih2 _ _ _
   | exact impl_TourBest.mono _ _ _ _
   | exact laws_eqIntS.mono _ _ _
   | exact laws_eqNet.mono _ _ _ _ _
   | exact laws_heldIntS.mono _ _ _
   | exact laws_markIntS.mono _ _ _
   | exact laws_markNet.mono _ _ _ _
   | exact laws_toIntS.mono _ _
   | exact laws_toNet.mono _ _ _
   | exact spec_TourBest.mono _ _ _ _
   | exact LeO.none _
   | refine LeO.ite ?_ ?_
   | refine LeO.bind ?_ (fun _ => ?_)
  ·intro y0 y1 y2
   unfold laws_FnExactTourBest.j2
   repeat' first
   | (with_reducible exact ih0 _ _ _ _ _ _ _ _ _ _ _)
   | (with_reducible exact ih1 _ _ _ _ _ _ _)
   | (with_reducible exact ih2 _ _ _)
   | (with_reducible exact impl_TourBest.mono _ _ _ _)
   | (with_reducible exact laws_eqIntS.mono _ _ _)
   | (with_reducible exact laws_eqNet.mono _ _ _ _ _)
   | (with_reducible exact laws_heldIntS.mono _ _ _)
   | (with_reducible exact laws_markIntS.mono _ _ _)
   | (with_reducible exact laws_markNet.mono _ _ _ _)
   | (with_reducible exact laws_toIntS.mono _ _)
   | (with_reducible exact laws_toNet.mono _ _ _)
   | (with_reducible exact spec_TourBest.mono _ _ _ _)
   | (with_reducible exact LeO.refl _)
   | (with_reducible exact LeO.none _)
   | (with_reducible refine LeO.ite ?_ ?_)
   | (with_reducible refine LeO.bind ?_ (fun _ => ?_))
   | exact ih0 _ _ _ _ _ _ _ _ _ _ _
   | exact ih1 _ _ _ _ _ _ _
   | exact ih2 _ _ _
   | exact impl_TourBest.mono _ _ _ _
   | exact laws_eqIntS.mono _ _ _
   | exact laws_eqNet.mono _ _ _ _ _
   | exact laws_heldIntS.mono _ _ _
   | exact laws_markIntS.mono _ _ _
   | exact laws_markNet.mono _ _ _ _
   | exact laws_toIntS.mono _ _
   | exact laws_toNet.mono _ _ _
   | exact spec_TourBest.mono _ _ _ _
   | exact LeO.none _
   | refine LeO.ite ?_ ?_
   | refine LeO.bind ?_ (fun _ => ?_)
theorem laws_FnExactTourBest.mono : ∀ a0 a1 a2 k, LeO (laws_FnExactTourBest.f k a0 a1 a2) (laws_FnExactTourBest.f (k + 1) a0 a1 a2) := by
 intro a0 a1 a2 k
 obtain ⟨ih0, ih1, ih2⟩ := laws_FnExactTourBest.mono_l k
 unfold laws_FnExactTourBest.f
 repeat' first
   | (with_reducible exact ih0 _ _ _ _ _ _ _ _ _ _ _)
   | (with_reducible exact ih1 _ _ _ _ _ _ _)
   | (with_reducible exact ih2 _ _ _)
   | (with_reducible exact impl_TourBest.mono _ _ _ _)
   | (with_reducible exact laws_eqIntS.mono _ _ _)
   | (with_reducible exact laws_eqNet.mono _ _ _ _ _)
   | (with_reducible exact laws_heldIntS.mono _ _ _)
   | (with_reducible exact laws_markIntS.mono _ _ _)
   | (with_reducible exact laws_markNet.mono _ _ _ _)
   | (with_reducible exact laws_toIntS.mono _ _)
   | (with_reducible exact laws_toNet.mono _ _ _)
   | (with_reducible exact spec_TourBest.mono _ _ _ _)
   | (with_reducible exact LeO.refl _)
   | (with_reducible exact LeO.none _)
   | (with_reducible refine LeO.ite ?_ ?_)
   | (with_reducible refine LeO.bind ?_ (fun _ => ?_))
   | exact ih0 _ _ _ _ _ _ _ _ _ _ _
   | exact ih1 _ _ _ _ _ _ _
   | exact ih2 _ _ _
   | exact impl_TourBest.mono _ _ _ _
   | exact laws_eqIntS.mono _ _ _
   | exact laws_eqNet.mono _ _ _ _ _
   | exact laws_heldIntS.mono _ _ _
   | exact laws_markIntS.mono _ _ _
   | exact laws_markNet.mono _ _ _ _
   | exact laws_toIntS.mono _ _
   | exact laws_toNet.mono _ _ _
   | exact spec_TourBest.mono _ _ _ _
   | exact LeO.none _
   | refine LeO.ite ?_ ?_
   | refine LeO.bind ?_ (fun _ => ?_)
set_option maxHeartbeats 8000000 in
set_option maxRecDepth 100000 in
theorem laws_FnExactTourBest.calls (k : Nat) (a0_0 : Int) (A0_1 : Option Addr) (c0_1 : Nat) (l0_1 : List (S132)) (A1 : Option Addr) (c1 : Nat) (l1 : List Int) (r : Bool) (w : World) (hr0_1 : Kd.C k132 w A0_1 l0_1.length l0_1) (hc0_1 : l0_1.length ≤ c0_1) (hr1 : Kd.C (Kd.int .i64) w A1 l1.length l1) (hc1 : l1.length ≤ c1) (h : laws_FnExactTourBest.f k a0_0 l0_1 l1 = some r) (hr_ : r = true) :
  Calls Try.prog 12 #[.agg #[.int .i64 a0_0, .slice A0_1 l0_1.length c0_1], .slice A1 l1.length c1] w fun e w' => e = .returned (.bool r) ∧ Below w.heap.size w w' := by
 have hu24 := Try.underlying24
 have hu30 := Try.underlying30
 have HR0_1 := ak hr0_1
 have HC0_1 := ak hc0_1
 clear hr0_1 hc0_1
 have HR1 := ak hr1
 have HC1 := ak hc1
 clear hr1 hc1
 have HB := ak (Below.refl w.heap.size w)
 have H : (if (l1.length : Int) > 1048576 then (some true) else ((laws_szNet.f a0_0 l0_1 1048576).bind fun t1313 => (if t1313 < 0 then (some true) else ((laws_toNet.f k a0_0 l0_1).bind fun bt1314 => ((laws_toIntS.f k l1).bind fun t1318 => ((spec_TourBest.f k bt1314.1 bt1314.2 t1318).bind fun bt1321 => ((laws_toNet.f k a0_0 l0_1).bind fun bt1325 => ((laws_toIntS.f k l1).bind fun t1330 => ((impl_TourBest.f k bt1325.1 bt1325.2 t1330).bind fun bt1333 => ((laws_eqIntS.f k bt1333.1 bt1321.1).bind fun t1337 => (if t1337 = true then (laws_FnExactTourBest.j0 k l1 bt1321.1 bt1321.2 t1330 bt1333.1 bt1333.2 (bt1333.2 != bt1321.2) a0_0 l0_1 bt1325.1 bt1325.2) else (laws_FnExactTourBest.j0 k l1 bt1321.1 bt1321.2 t1330 bt1333.1 bt1333.2 true a0_0 l0_1 bt1325.1 bt1325.2)))))))))))) = some r := h
 clear h
 by_cases c3 : (l1.length : Int) > 1048576
 ·rw [if_pos c3] at H
  have c3b0 : decide (1048576 < (l1.length : Int)) = true := decide_eq_true c3
  have c3b1 : decide (1048576 < l1.length) = true := decide_eq_true (by omega)
  clear c3
  obtain rfl := Option.some.inj H
  go_enter Try.func12, Try.ntmps12
  go_wp2_with (first | ((with_reducible refine gate_dst (N := 2) rfl ?_); refine box_event ?hg (N := 2) ?hd (cs := #[.int .i64 a0_0, .slice A0_1 l0_1.length c0_1]) (t := 24) ?hr ?_; (case hd => rfl); (case hg => rfl); (case hr => first | (go_simp; done) | (go_simp; rfl)); intro gb1312 hg w4 hbox hb; have BK1312 := ak (hbox); have GW1312 := ak ((by rw [hg]; exact (below_size (bl HB)) : w.heap.size ≤ gb1312)); have GE1312 := ak ((by rw [hg]; exact (below_size (bl HB)) : w.heap.size ≤ gb1312)); replace HB := ak (below_step (bl HB) hb); clear hb hbox hg))
  go_ret
  exact ⟨by first | rfl | (simp [errW_none, errW_some] <;> rfl) | (simp [*, errW_none, errW_some] <;> rfl), bl1 HB GE1312⟩
 rw [if_neg c3] at H
 have c3b0 : decide (1048576 < (l1.length : Int)) = false := decide_eq_false c3
 have c3b1 : decide (1048576 < l1.length) = false := decide_eq_false (by omega)
 clear c3
 replace H := Option.bind_eq_some_iff.mp H
 obtain ⟨t1313, A50, H⟩ := H
 have A5 := ak A50
 clear A50
 by_cases c6 : t1313 < 0
 ·rw [if_pos c6] at H
  have c6b0 : decide (t1313 < 0) = true := decide_eq_true c6
  clear c6
  obtain rfl := Option.some.inj H
  go_enter Try.func12, Try.ntmps12
  go_wp2_with (first | ((with_reducible refine gate_dst (N := 2) rfl ?_); refine box_event ?hg (N := 2) ?hd (cs := #[.int .i64 a0_0, .slice A0_1 l0_1.length c0_1]) (t := 24) ?hr ?_; (case hd => rfl); (case hg => rfl); (case hr => first | (go_simp; done) | (go_simp; rfl)); intro gb1312 hg w7 hbox hb; have BK1312 := ak (hbox); have GW1312 := ak ((by rw [hg]; exact (below_size (bl HB)) : w.heap.size ≤ gb1312)); have GE1312 := ak ((by rw [hg]; exact (below_size (bl HB)) : w.heap.size ≤ gb1312)); replace HB := ak (below_step (bl HB) hb); clear hb hbox hg; have hcz8_0 := bc w7 BK1312 0 (.int .i64 a0_0) rfl; have hcz8_1 := bc w7 BK1312 1 (.slice A0_1 l0_1.length c0_1) rfl; have hfz8_0 := fz BK1312 0; have hfz8_1 := fz BK1312 1) | ((with_reducible refine gate_callee (f := 15) rfl ?_); refine goesL_ (some 22) rfl rfl Try.func15 (by kernel_rfl) rfl #[.agg #[.int .i64 a0_0, .slice A0_1 l0_1.length c0_1], .int .i64 1048576] rfl (by (try simp only [List.map_toArray, List.map_cons, List.map_nil]); first | done | rfl | (simp only [List.length_drop, List.length_take]; rfl)) ?_; (with_reducible refine (laws_szNet.calls a0_0 _ _ l0_1 1048576 t1313 _ ?side1 ?side2 A5.out).mono ?_); (case side1 => repeat (first | exact (Kd.C_below HR0_1.out HB.out) | (with_reducible refine Kd.C_alloc ?_ _) | (with_reducible refine Kd.C_drewN ?_ _) | (with_reducible refine Kd.C_drew ?_))); (case side2 => exact HC0_1.out); rintro e w9 ⟨rfl, hb⟩; refine ⟨_, rfl, ?_⟩; replace BK1312 := ak (blk_below (bk BK1312) hb); replace HB := ak (below_step (bl1 HB GE1312) hb); (try clear hb); (try clear hb2); (try clear hk); (try clear hi)))
  go_ret
  exact ⟨by first | rfl | (simp [errW_none, errW_some] <;> rfl) | (simp [*, errW_none, errW_some] <;> rfl), bl1 HB GE1312⟩
 rw [if_neg c6] at H
 have c6b0 : decide (t1313 < 0) = false := decide_eq_false c6
 clear c6
 replace H := Option.bind_eq_some_iff.mp H
 obtain ⟨⟨t1314, t1315⟩, A100, H⟩ := H
 have A10 := ak A100
 clear A100
 replace H := Option.bind_eq_some_iff.mp H
 obtain ⟨t1318, A110, H⟩ := H
 have A11 := ak A110
 clear A110
 replace H := Option.bind_eq_some_iff.mp H
 obtain ⟨⟨t1321, t1324⟩, A120, H⟩ := H
 have A12 := ak A120
 clear A120
 replace H := Option.bind_eq_some_iff.mp H
 obtain ⟨⟨t1325, t1326⟩, A130, H⟩ := H
 have A13 := ak A130
 clear A130
 replace H := Option.bind_eq_some_iff.mp H
 obtain ⟨t1330, A140, H⟩ := H
 have A14 := ak A140
 clear A140
 replace H := Option.bind_eq_some_iff.mp H
 obtain ⟨⟨t1333, t1336⟩, A150, H⟩ := H
 have A15 := ak A150
 clear A150
 have HC16 := ak H
 clear H
 go_enter Try.func12, Try.ntmps12
 go_upto_region 11 with (first | ((with_reducible refine gate_dst (N := 2) rfl ?_); refine box_event ?hg (N := 2) ?hd (cs := #[.int .i64 a0_0, .slice A0_1 l0_1.length c0_1]) (t := 24) ?hr ?_; (case hd => rfl); (case hg => rfl); (case hr => first | (go_simp; done) | (go_simp; rfl)); intro gb1312 hg w17 hbox hb; have BK1312 := ak (hbox); have GW1312 := ak ((by rw [hg]; exact (below_size (bl HB)) : w.heap.size ≤ gb1312)); have GE1312 := ak ((by rw [hg]; exact (below_size (bl HB)) : w.heap.size ≤ gb1312)); replace HB := ak (below_step (bl HB) hb); clear hb hbox hg; have hcz18_0 := bc w17 BK1312 0 (.int .i64 a0_0) rfl; have hcz18_1 := bc w17 BK1312 1 (.slice A0_1 l0_1.length c0_1) rfl; have hfz18_0 := fz BK1312 0; have hfz18_1 := fz BK1312 1) | ((with_reducible refine gate_callee (f := 15) rfl ?_); refine goesL_ (some 22) rfl rfl Try.func15 (by kernel_rfl) rfl #[.agg #[.int .i64 a0_0, .slice A0_1 l0_1.length c0_1], .int .i64 1048576] rfl (by (try simp only [List.map_toArray, List.map_cons, List.map_nil]); first | done | rfl | (simp only [List.length_drop, List.length_take]; rfl)) ?_; (with_reducible refine (laws_szNet.calls a0_0 _ _ l0_1 1048576 t1313 _ ?side1 ?side2 A5.out).mono ?_); (case side1 => repeat (first | exact (Kd.C_below HR0_1.out HB.out) | (with_reducible refine Kd.C_alloc ?_ _) | (with_reducible refine Kd.C_drewN ?_ _) | (with_reducible refine Kd.C_drew ?_))); (case side2 => exact HC0_1.out); rintro e w19 ⟨rfl, hb⟩; refine ⟨_, rfl, ?_⟩; replace BK1312 := ak (blk_below (bk BK1312) hb); replace HB := ak (below_step (bl1 HB GE1312) hb); (try clear hb); (try clear hb2); (try clear hk); (try clear hi); have hcz20_0 := bc w19 BK1312 0 (.int .i64 a0_0) rfl; have hcz20_1 := bc w19 BK1312 1 (.slice A0_1 l0_1.length c0_1) rfl; have hfz20_0 := fz BK1312 0; have hfz20_1 := fz BK1312 1) | ((with_reducible refine gate_callee (f := 17) rfl ?_); refine goesL_ (some 27) rfl rfl Try.func17 (by kernel_rfl) rfl #[.agg #[.int .i64 a0_0, .slice A0_1 l0_1.length c0_1]] rfl (by (try simp only [List.map_toArray, List.map_cons, List.map_nil]); first | done | rfl | (simp only [List.length_drop, List.length_take]; rfl)) ?_; (with_reducible refine (laws_toNet.calls k a0_0 _ _ l0_1 t1314 t1315 _ ?side1 ?side2 A10.out).mono ?_); (case side1 => repeat (first | exact (Kd.C_below HR0_1.out HB.out) | (with_reducible refine Kd.C_alloc ?_ _) | (with_reducible refine Kd.C_drewN ?_ _) | (with_reducible refine Kd.C_drew ?_))); (case side2 => exact HC0_1.out); rintro e w21 ⟨v1316, rfl, ho0, hb⟩; refine ⟨_, rfl, ?_⟩; have HO1317 := ak (Kd.R_lower ho0 (below_size (bl1 HB GE1312))); replace BK1312 := ak (blk_below (bk BK1312) hb); replace HB := ak (below_step (bl1 HB GE1312) hb); (try clear hb); (try clear hb2); (try clear hk); (try clear hi); (try clear ho0)) | ((with_reducible refine gate_callee (f := 25) rfl ?_); refine goesL_ (some 29) rfl rfl Try.func25 (by kernel_rfl) rfl #[.slice A1 l1.length c1] rfl (by (try simp only [List.map_toArray, List.map_cons, List.map_nil]); first | done | rfl | (simp only [List.length_drop, List.length_take]; rfl)) ?_; (with_reducible refine (laws_toIntS.calls k _ _ l1 t1318 _ ?side1 ?side2 A11.out).mono ?_); (case side1 => repeat (first | exact (Kd.C_below HR1.out HB.out) | (with_reducible refine Kd.C_alloc ?_ _) | (with_reducible refine Kd.C_drewN ?_ _) | (with_reducible refine Kd.C_drew ?_))); (case side2 => exact HC1.out); rintro e w22 ⟨v1319, rfl, ho0, hb⟩; refine ⟨_, rfl, ?_⟩; replace HO1317 := ak (Kd.R_below (rk HO1317) hb); have HO1320 := ak (Kd.R_lower ho0 (below_size (bl1 HB GE1312))); replace BK1312 := ak (blk_below (bk BK1312) hb); replace HB := ak (below_step (bl1 HB GE1312) hb); (try clear hb); (try clear hb2); (try clear hk); (try clear hi); (try clear ho0); obtain ⟨Ao23, co23, eo23⟩ := Kd.R_slice HO1317.out; subst eo23; obtain ⟨Ao24, co24, eo24⟩ := Kd.R_slice HO1320.out; subst eo24) | ((with_reducible refine gate_callee (f := 50) rfl ?_); refine goesL_ (some 30) rfl rfl Try.func50 (by kernel_rfl) rfl #[.agg #[.int .i64 t1314, .slice Ao23 t1315.length co23], .slice Ao24 t1318.length co24] rfl (by (try simp only [List.map_toArray, List.map_cons, List.map_nil]); first | done | rfl | (simp only [List.length_drop, List.length_take]; rfl)) ?_; (with_reducible refine (spec_TourBest.calls k t1314 _ _ t1315 _ _ t1318 t1321 t1324 _ ?side1 ?side2 ?side3 ?side4 A12.out).mono ?_); (case side1 => repeat (first | exact (Kd.R_reads' HO1317.out).2.2 | (with_reducible refine Kd.C_alloc ?_ _) | (with_reducible refine Kd.C_drewN ?_ _) | (with_reducible refine Kd.C_drew ?_))); (case side2 => exact (Kd.R_reads' HO1317.out).2.1); (case side3 => repeat (first | exact (Kd.R_reads' HO1320.out).2.2 | (with_reducible refine Kd.C_alloc ?_ _) | (with_reducible refine Kd.C_drewN ?_ _) | (with_reducible refine Kd.C_drew ?_))); (case side4 => exact (Kd.R_reads' HO1320.out).2.1); rintro e w25 ⟨v1322, rfl, ho0, hb⟩; refine ⟨_, rfl, ?_⟩; have HO1323 := ak (Kd.V_lower (Kd.V_mono (ok' := fun k_ => some k_ ≠ (.slice Ao23 t1315.length co23 : Value).ownBlock ∧ some k_ ≠ (.slice Ao24 t1318.length co24 : Value).ownBlock ∧ k_ ≠ gb1312) ho0 (fun k_ hk_ => ⟨(Kd.fresh' (Kd.R_lt (rk HO1317)) k_ hk_), (Kd.fresh' (Kd.R_lt (rk HO1320)) k_ hk_), (Kd.freshB (bk BK1312) k_ hk_)⟩)) (below_size (bl1 HB GE1312))); replace HO1317 := ak (Kd.R_below (rk HO1317) hb); replace HO1320 := ak (Kd.R_below (rk HO1320) hb); replace BK1312 := ak (blk_below (bk BK1312) hb); replace HB := ak (below_step (bl1 HB GE1312) hb); (try clear hb); (try clear hb2); (try clear hk); (try clear hi); (try clear ho0); have hcz26_0 := bc w25 BK1312 0 (.int .i64 a0_0) rfl; have hcz26_1 := bc w25 BK1312 1 (.slice A0_1 l0_1.length c0_1) rfl; have hfz26_0 := fz BK1312 0; have hfz26_1 := fz BK1312 1) | ((with_reducible refine gate_callee (f := 17) rfl ?_); refine goesL_ (some 34) rfl rfl Try.func17 (by kernel_rfl) rfl #[.agg #[.int .i64 a0_0, .slice A0_1 l0_1.length c0_1]] rfl (by (try simp only [List.map_toArray, List.map_cons, List.map_nil]); first | done | rfl | (simp only [List.length_drop, List.length_take]; rfl)) ?_; (with_reducible refine (laws_toNet.calls k a0_0 _ _ l0_1 t1325 t1326 _ ?side1 ?side2 A13.out).mono ?_); (case side1 => repeat (first | exact (Kd.C_below HR0_1.out HB.out) | (with_reducible refine Kd.C_alloc ?_ _) | (with_reducible refine Kd.C_drewN ?_ _) | (with_reducible refine Kd.C_drew ?_))); (case side2 => exact HC0_1.out); rintro e w27 ⟨v1327, rfl, ho0, hb⟩; refine ⟨_, rfl, ?_⟩; replace HO1320 := ak (Kd.R_below (rk HO1320) hb); replace HO1323 := ak (Kd.V_elder' (by (with_reducible repeat (first | apply Kd.V_alloc | apply Kd.V_drewN | apply Kd.V_drew)); exact HO1323.out) (Kd.R_base ho0) hb); have HO1328 := ak (Kd.R_lower (Kd.R_new' ho0 (Kd.R_lt (rk HO1317))) (below_size (bl1 HB GE1312))); replace HO1317 := ak (Kd.R_elder' (rk HO1317) (Kd.R_base ho0) hb); replace BK1312 := ak (blk_below (bk BK1312) hb); replace HB := ak (below_step (bl1 HB GE1312) hb); (try clear hb); (try clear hb2); (try clear hk); (try clear hi); (try clear ho0)) | ((with_reducible refine gate_dst (N := 8) rfl ?_); refine box_event ?hg (N := 8) ?hd (cs := #[.int .i64 0, .slice none 0 0]) (t := 30) ?hr ?_; (case hd => rfl); (case hg => rfl); (case hr => first | (go_simp; done) | (go_simp; rfl)); intro gb1329 hg w28 hbox hb; replace HO1317 := ak (Kd.R_below (rk HO1317) hb); replace HO1320 := ak (Kd.R_below (rk HO1320) hb); replace HO1323 := ak (Kd.V_below (Kd.V_elderB (by (with_reducible repeat (first | apply Kd.V_alloc | apply Kd.V_drewN | apply Kd.V_drew)); exact HO1323.out) gb1329 (Nat.le_of_eq hg.symm)) hb); replace HO1328 := ak (Kd.R_below (rk HO1328) hb); have BK1329 := ak (hbox); have GW1329 := ak ((by rw [hg]; exact (below_size (bl1 HB GE1312)) : w.heap.size ≤ gb1329)); have GE1329 := ak ((by rw [hg]; exact (below_size (bl1 HB GE1312)) : w.heap.size ≤ gb1329)); replace HB := ak (below_step (bl1 HB GE1312) hb); have NB1312_1329 := ak ((by rw [hg]; exact Nat.ne_of_lt (blk_lt (bk BK1312)) : gb1312 ≠ gb1329)); have NB1329_1312 := ak ((by rw [hg]; exact Nat.ne_of_gt (blk_lt (bk BK1312)) : gb1329 ≠ gb1312)); replace BK1312 := ak (blk_below (bk BK1312) hb); clear hb hbox hg; have hnb29 := NB1329_1312.out; have hnc29 := NB1312_1329.out; have hcz30_0 := bc w28 BK1329 0 (.int .i64 0) rfl; have hcz30_1 := bc w28 BK1329 1 (.slice none 0 0) rfl; have hfz30_0 := fz BK1329 0; have hfz30_1 := fz BK1329 1; obtain ⟨Ao31, co31, eo31⟩ := Kd.R_slice HO1328.out; subst eo31) | ((with_reducible refine gate_callee (f := 25) rfl ?_); refine goesL_ (some 36) rfl rfl Try.func25 (by kernel_rfl) rfl #[.slice A1 l1.length c1] rfl (by (try simp only [List.map_toArray, List.map_cons, List.map_nil]); first | done | rfl | (simp only [List.length_drop, List.length_take]; rfl)) ?_; (with_reducible refine (laws_toIntS.calls k _ _ l1 t1330 _ ?side1 ?side2 A14.out).mono ?_); (case side1 => exact Kd.C_below HR1.out (bl2 HB GE1312 GE1329)); (case side2 => exact HC1.out); rintro e w32 ⟨v1331, rfl, ho0, hb⟩; refine ⟨_, rfl, ?_⟩; replace HO1317 := ak (Kd.R_below (by (with_reducible repeat (first | apply Kd.R_alloc | apply Kd.R_drewN | apply Kd.R_drew)); exact (Kd.R_mono (Kd.R_far (p := ⟨gb1329, 1, none⟩) (Kd.R_far (p := ⟨gb1329, 0, none⟩) (Kd.R_types HO1317.out BK1329.out (by decide)) (fun _ hk => hk.2) (.int .i64 t1325)) (fun _ hk => hk.2) (.slice Ao31 t1326.length co31)) (fun _ h_ => h_.1))) hb); replace HO1323 := ak (Kd.V_elder' (by (with_reducible repeat (first | apply Kd.V_alloc | apply Kd.V_drewN | apply Kd.V_drew)); exact (Kd.V_mono (Kd.V_far (p := ⟨gb1329, 1, none⟩) (Kd.V_far (p := ⟨gb1329, 0, none⟩) (Kd.V_mono HO1323.out (fun k_ hk => (⟨hk, hk.2⟩ : _ ∧ k_ ≠ gb1329))) (fun _ hk => hk.2) (.int .i64 t1325)) (fun _ hk => hk.2) (.slice Ao31 t1326.length co31)) (fun _ h_ => h_.1))) (Kd.R_base ho0) hb); replace HO1328 := ak (Kd.R_below (by (with_reducible repeat (first | apply Kd.R_alloc | apply Kd.R_drewN | apply Kd.R_drew)); exact (Kd.R_mono (Kd.R_far (p := ⟨gb1329, 1, none⟩) (Kd.R_far (p := ⟨gb1329, 0, none⟩) (Kd.R_types HO1328.out BK1329.out (by decide)) (fun _ hk => hk.2) (.int .i64 t1325)) (fun _ hk => hk.2) (.slice Ao31 t1326.length co31)) (fun _ h_ => h_.1))) hb); have HO1332 := ak (Kd.R_lower (Kd.R_new' ho0 (Kd.R_lt (by (with_reducible repeat (first | apply Kd.R_alloc | apply Kd.R_drewN | apply Kd.R_drew)); exact (Kd.R_mono (Kd.R_far (p := ⟨gb1329, 1, none⟩) (Kd.R_far (p := ⟨gb1329, 0, none⟩) (Kd.R_types HO1320.out BK1329.out (by decide)) (fun _ hk => hk.2) (.int .i64 t1325)) (fun _ hk => hk.2) (.slice Ao31 t1326.length co31)) (fun _ h_ => h_.1))))) (below_size (bl2 HB GE1312 GE1329))); replace HO1320 := ak (Kd.R_elder' (by (with_reducible repeat (first | apply Kd.R_alloc | apply Kd.R_drewN | apply Kd.R_drew)); exact (Kd.R_mono (Kd.R_far (p := ⟨gb1329, 1, none⟩) (Kd.R_far (p := ⟨gb1329, 0, none⟩) (Kd.R_types HO1320.out BK1329.out (by decide)) (fun _ hk => hk.2) (.int .i64 t1325)) (fun _ hk => hk.2) (.slice Ao31 t1326.length co31)) (fun _ h_ => h_.1))) (Kd.R_base ho0) hb); replace BK1312 := ak (blk_below (g := gb1312) (o := .cells #[.int .i64 a0_0, .slice A0_1 l0_1.length c0_1] 24 (0, 0)) (by (with_reducible repeat (first | refine blk_drewN ?_ _ | refine blk_drew ?_ | refine blk_alloc ?_ _)); refine blk_far ?_ NB1312_1329.out _; refine blk_far ?_ NB1312_1329.out _; (with_reducible repeat (first | refine blk_drewN ?_ _ | refine blk_drew ?_ | refine blk_alloc ?_ _)); exact BK1312.out) hb); replace BK1329 := ak (blk_below (g := gb1329) (o := .cells #[.int .i64 t1325, .slice Ao31 t1326.length co31] 30 (0, 0)) (by (with_reducible repeat (first | refine blk_drewN ?_ _ | refine blk_drew ?_ | refine blk_alloc ?_ _)); refine blk_put (cs := #[.int .i64 t1325, .slice none 0 0]) ?_ 1 _ rfl; refine blk_put (cs := #[.int .i64 0, .slice none 0 0]) ?_ 0 _ rfl; (with_reducible repeat (first | refine blk_drewN ?_ _ | refine blk_drew ?_ | refine blk_alloc ?_ _)); exact BK1329.out) hb); replace HB := ak (below_step (bl2 HB GE1312 GE1329) hb); (try clear hb); (try clear hb2); (try clear hk); (try clear hi); (try clear ho0); have hcz33_0 := bc w32 BK1329 0 (.int .i64 t1325) rfl; have hcz33_1 := bc w32 BK1329 1 (.slice Ao31 t1326.length co31) rfl; have hfz33_0 := fz BK1329 0; have hfz33_1 := fz BK1329 1; obtain ⟨Ao34, co34, eo34⟩ := Kd.R_slice HO1332.out; subst eo34) | ((with_reducible refine gate_callee (f := 51) rfl ?_); refine goesL_ (some 40) rfl rfl Try.func51 (by kernel_rfl) rfl #[.agg #[.int .i64 t1325, .slice Ao31 t1326.length co31], .slice Ao34 t1330.length co34] rfl (by (try simp only [List.map_toArray, List.map_cons, List.map_nil]); first | done | rfl | (simp only [List.length_drop, List.length_take]; rfl)) ?_; (with_reducible refine (impl_TourBest.calls k t1325 _ _ t1326 _ _ t1330 t1333 t1336 _ ?side1 ?side2 ?side3 ?side4 A15.out).mono ?_); (case side1 => repeat (first | exact (Kd.R_reads' HO1328.out).2.2 | (with_reducible refine Kd.C_alloc ?_ _) | (with_reducible refine Kd.C_drewN ?_ _) | (with_reducible refine Kd.C_drew ?_))); (case side2 => exact (Kd.R_reads' HO1328.out).2.1); (case side3 => repeat (first | exact (Kd.R_reads' HO1332.out).2.2 | (with_reducible refine Kd.C_alloc ?_ _) | (with_reducible refine Kd.C_drewN ?_ _) | (with_reducible refine Kd.C_drew ?_))); (case side4 => exact (Kd.R_reads' HO1332.out).2.1); rintro e w35 ⟨v1334, rfl, ho0, hb⟩; refine ⟨_, rfl, ?_⟩; replace HO1317 := ak (Kd.R_below (rk HO1317) hb); replace HO1323 := ak (Kd.V_elder' (by (with_reducible repeat (first | apply Kd.V_alloc | apply Kd.V_drewN | apply Kd.V_drew)); exact HO1323.out) (Kd.R_base ho0) hb); replace HO1328 := ak (Kd.R_below (rk HO1328) hb); have HO1335 := ak (Kd.R_lower (Kd.R_new' (Kd.R_new' ho0 (Kd.R_lt (rk HO1320))) (Kd.R_lt (rk HO1332))) (below_size (bl2 HB GE1312 GE1329))); replace HO1320 := ak (Kd.R_elder' (rk HO1320) (Kd.R_base ho0) hb); replace HO1332 := ak (Kd.R_elder' (rk HO1332) (Kd.R_base ho0) hb); replace BK1312 := ak (blk_below (bk BK1312) hb); replace BK1329 := ak (blk_below (bk BK1329) hb); replace HB := ak (below_step (bl2 HB GE1312 GE1329) hb); (try clear hb); (try clear hb2); (try clear hk); (try clear hi); (try clear ho0)))
 (try simp only [Act.put, List.setIfInBounds_toArray, List.set_cons_zero, List.set_cons_succ])
 go_cut [51] (fun v51 wc => ∃ (kq : Nat) (x51_15 : Bool), v51 = .bool x51_15 ∧ Aside0 (laws_FnExactTourBest.j0 kq l1 t1321 t1324 t1330 t1333 t1336 x51_15 a0_0 l0_1 t1325 t1326 = some r) ∧ Aside0 (kq ≤ k) ∧ Aside0 (Kd.V (Kd.int .i64) 3 wc w.heap.size (fun k_ => some k_ ≠ ((.slice Ao34 t1330.length co34) : Value).ownBlock ∧ some k_ ≠ (v1334 : Value).ownBlock ∧ some k_ ≠ ((.slice Ao31 t1326.length co31) : Value).ownBlock ∧ k_ ≠ gb1312 ∧ k_ ≠ gb1329) v1322 t1321) ∧ Aside0 (Kd.R (Kd.int .i64) 3 wc w.heap.size (fun k_ => some k_ ≠ (v1334 : Value).ownBlock) (.slice Ao34 t1330.length co34) t1330) ∧ Aside0 (Kd.R (Kd.int .i64) 3 wc w.heap.size (fun k_ => some k_ ≠ ((.slice Ao34 t1330.length co34) : Value).ownBlock) v1334 t1333) ∧ Aside0 (Kd.R k100 100 wc w.heap.size (fun _ => True) (.slice Ao31 t1326.length co31) t1326) ∧ Aside0 (wc.heap[gb1312]? = some (.cells #[.int .i64 a0_0, (.slice A0_1 l0_1.length c0_1)] 24 (0, 0))) ∧ Aside0 (wc.heap[gb1329]? = some (.cells #[.int .i64 t1325, (.slice Ao31 t1326.length co31)] 30 (0, 0))) ∧ Aside0 (Below w.heap.size w wc))
 case first =>
  have H := HC16.out
  clear HC16
  replace H := Option.bind_eq_some_iff.mp H
  obtain ⟨t1337, A360, H⟩ := H
  have A36 := ak A360
  clear A360
  by_cases c37 : t1337 = true
  ·subst c37
   rw [if_pos rfl] at H
   have H' := ak H
   clear H
   obtain ⟨Ao38, co38, eo38⟩ := Kd.R_slice HO1335.out
   subst eo38
   obtain ⟨Ao39, co39, eo39⟩ := Kd.V_slice HO1323.out
   subst eo39
   go_wp2_with (first | ((with_reducible refine gate_callee (f := 19) rfl ?_); refine goesL_ (some 45) rfl rfl Try.func19 (by kernel_rfl) rfl #[.slice Ao38 t1333.length co38, .slice Ao39 t1321.length co39] rfl (by (try simp only [List.map_toArray, List.map_cons, List.map_nil]); first | done | rfl | (simp only [List.length_drop, List.length_take]; rfl)) ?_; (with_reducible refine (laws_eqIntS.calls k _ _ t1333 _ _ t1321 true _ ?side1 ?side2 ?side3 ?side4 A36.out).mono ?_); (case side1 => repeat (first | exact (Kd.R_reads' HO1335.out).2.2 | (with_reducible refine Kd.C_alloc ?_ _) | (with_reducible refine Kd.C_drewN ?_ _) | (with_reducible refine Kd.C_drew ?_))); (case side2 => exact (Kd.R_reads' HO1335.out).2.1); (case side3 => repeat (first | exact (Kd.V_reads' HO1323.out).2.2 | (with_reducible refine Kd.C_alloc ?_ _) | (with_reducible refine Kd.C_drewN ?_ _) | (with_reducible refine Kd.C_drew ?_))); (case side4 => exact (Kd.V_reads' HO1323.out).2.1); rintro e w' ⟨rfl, ⟨nd, rfl⟩⟩; refine ⟨_, rfl, ?_⟩))
   go_meet
   case rel => exact ⟨_, ((t1336 != t1324)), (by first | rfl | (simp; done) | (simp [*]; done)), H', ⟨by first | omega | exact Nat.le_refl _⟩, ⟨by (with_reducible repeat (first | apply Kd.V_alloc | apply Kd.V_drewN | apply Kd.V_drew)); exact Kd.V_mono HO1323.out (fun _ hk => ⟨hk.1.2, ⟨hk.2, ⟨hk.1.1.1.2, ⟨hk.1.1.1.1.2.2, hk.1.1.2⟩⟩⟩⟩)⟩, ⟨by (with_reducible repeat (first | apply Kd.R_alloc | apply Kd.R_drewN | apply Kd.R_drew)); exact Kd.R_mono HO1332.out (fun _ hk => hk.2)⟩, ⟨by (with_reducible repeat (first | apply Kd.R_alloc | apply Kd.R_drewN | apply Kd.R_drew)); exact Kd.R_mono HO1335.out (fun _ hk => hk.2)⟩, ⟨by (with_reducible repeat (first | apply Kd.R_alloc | apply Kd.R_drewN | apply Kd.R_drew)); exact Kd.R_mono HO1328.out (fun _ hk => trivial)⟩, ⟨bk BK1312⟩, ⟨bk BK1329⟩, ⟨bl2 HB GE1312 GE1329⟩⟩
  replace c37 := Bool.eq_false_iff.mpr c37
  subst c37
  rw [if_neg (show ¬ (false = true) by decide)] at H
  have H' := ak H
  clear H
  obtain ⟨Ao40, co40, eo40⟩ := Kd.R_slice HO1335.out
  subst eo40
  obtain ⟨Ao41, co41, eo41⟩ := Kd.V_slice HO1323.out
  subst eo41
  go_wp2_with (first | ((with_reducible refine gate_callee (f := 19) rfl ?_); refine goesL_ (some 45) rfl rfl Try.func19 (by kernel_rfl) rfl #[.slice Ao40 t1333.length co40, .slice Ao41 t1321.length co41] rfl (by (try simp only [List.map_toArray, List.map_cons, List.map_nil]); first | done | rfl | (simp only [List.length_drop, List.length_take]; rfl)) ?_; (with_reducible refine (laws_eqIntS.calls k _ _ t1333 _ _ t1321 false _ ?side1 ?side2 ?side3 ?side4 A36.out).mono ?_); (case side1 => repeat (first | exact (Kd.R_reads' HO1335.out).2.2 | (with_reducible refine Kd.C_alloc ?_ _) | (with_reducible refine Kd.C_drewN ?_ _) | (with_reducible refine Kd.C_drew ?_))); (case side2 => exact (Kd.R_reads' HO1335.out).2.1); (case side3 => repeat (first | exact (Kd.V_reads' HO1323.out).2.2 | (with_reducible refine Kd.C_alloc ?_ _) | (with_reducible refine Kd.C_drewN ?_ _) | (with_reducible refine Kd.C_drew ?_))); (case side4 => exact (Kd.V_reads' HO1323.out).2.1); rintro e w' ⟨rfl, ⟨nd, rfl⟩⟩; refine ⟨_, rfl, ?_⟩))
  go_meet
  case rel => exact ⟨_, (true), (by first | rfl | (simp; done) | (simp [*]; done)), H', ⟨by first | omega | exact Nat.le_refl _⟩, ⟨by (with_reducible repeat (first | apply Kd.V_alloc | apply Kd.V_drewN | apply Kd.V_drew)); exact Kd.V_mono HO1323.out (fun _ hk => ⟨hk.1.2, ⟨hk.2, ⟨hk.1.1.1.2, ⟨hk.1.1.1.1.2.2, hk.1.1.2⟩⟩⟩⟩)⟩, ⟨by (with_reducible repeat (first | apply Kd.R_alloc | apply Kd.R_drewN | apply Kd.R_drew)); exact Kd.R_mono HO1332.out (fun _ hk => hk.2)⟩, ⟨by (with_reducible repeat (first | apply Kd.R_alloc | apply Kd.R_drewN | apply Kd.R_drew)); exact Kd.R_mono HO1335.out (fun _ hk => hk.2)⟩, ⟨by (with_reducible repeat (first | apply Kd.R_alloc | apply Kd.R_drewN | apply Kd.R_drew)); exact Kd.R_mono HO1328.out (fun _ hk => trivial)⟩, ⟨bk BK1312⟩, ⟨bk BK1329⟩, ⟨bl2 HB GE1312 GE1329⟩⟩
 clear HC16
 try clear c1
 try clear c2
 try clear p2
 try clear c3
 try clear c3b0
 try clear c3b1
 try clear c5
 try clear c6
 try clear c6b0
 try clear c12
 try clear c15
 try clear c17
 try clear c19
 try clear c25
 try clear c29
 try clear c37
 try clear hcz18_0
 try clear hcz18_1
 try clear hcz20_0
 try clear hcz20_1
 try clear hcz26_0
 try clear hcz26_1
 try clear hcz30_0
 try clear hcz30_1
 try clear hcz33_0
 try clear hcz33_1
 try clear hcz8_0
 try clear hcz8_1
 try clear hfz18_0
 try clear hfz18_1
 try clear hfz20_0
 try clear hfz20_1
 try clear hfz26_0
 try clear hfz26_1
 try clear hfz30_0
 try clear hfz30_1
 try clear hfz33_0
 try clear hfz33_1
 try clear hfz8_0
 try clear hfz8_1
 obtain ⟨kq, x51_15, rfl, HA, HJ15, HO_6, HO_9, HO_10, HO_1330001, BK1312, BK1329, HB⟩ := hcut
 cases kq with
 | zero => exact absurd HA.out (by simp [laws_FnExactTourBest.j0])
 | succ kj15 =>
  have H := HA.out
  clear HA
  simp only [laws_FnExactTourBest.j0] at H
  by_cases c42 : x51_15 = true
  ·subst c42
   rw [if_pos rfl] at H
   exact absurd ((Option.some.inj H).trans hr_) Bool.false_ne_true
  replace c42 := Bool.eq_false_iff.mpr c42
  subst c42
  rw [if_neg (show ¬ (false = true) by decide)] at H
  replace H := Option.bind_eq_some_iff.mp H
  obtain ⟨⟨t1338, t1339⟩, A430, H⟩ := H
  have A43 := ak A430
  clear A430
  replace H := Option.bind_eq_some_iff.mp H
  obtain ⟨t1342, A440, H⟩ := H
  have A44 := ak A440
  clear A440
  by_cases c45 : t1342 = true
  rotate_left
  ·replace c45 := Bool.eq_false_iff.mpr c45
   subst c45
   rw [if_neg (show ¬ (false = true) by decide)] at H
   exact absurd ((Option.some.inj H).trans hr_) Bool.false_ne_true
  subst c45
  rw [if_pos rfl] at H
  replace H := Option.bind_eq_some_iff.mp H
  obtain ⟨t1343, A460, H⟩ := H
  have A46 := ak A460
  clear A460
  replace H := Option.bind_eq_some_iff.mp H
  obtain ⟨t1346, A470, H⟩ := H
  have A47 := ak A470
  clear A470
  by_cases c48 : t1346 = true
  rotate_left
  ·replace c48 := Bool.eq_false_iff.mpr c48
   subst c48
   rw [if_neg (show ¬ (false = true) by decide)] at H
   exact absurd ((Option.some.inj H).trans hr_) Bool.false_ne_true
  subst c48
  rw [if_pos rfl] at H
  replace H := Option.bind_eq_some_iff.mp H
  obtain ⟨⟨t1347, t1348⟩, A490, H⟩ := H
  have A49 := ak A490
  clear A490
  replace H := Option.bind_eq_some_iff.mp H
  obtain ⟨⟨t1349, t1350⟩, A500, H⟩ := H
  have A50 := ak A500
  clear A500
  have HC51 := ak H
  clear H
  try go_wp2
  replace HO_6 := ak (Kd.V_drew HO_6.out)
  replace HO_9 := ak (Kd.R_drew HO_9.out)
  replace HO_10 := ak (Kd.R_drew HO_10.out)
  replace HO_1330001 := ak (Kd.R_drew HO_1330001.out)
  replace BK1312 := ak (blk_drew BK1312.out)
  replace BK1329 := ak (blk_drew BK1329.out)
  replace HB := ak (below_drew1 HB.out)
  refine start_ (n := 5) (S := fun w' => w'.cell? ⟨gb1329, 0, none⟩ = some (.int .i64 t1325) ∧ w'.cell? ⟨gb1329, 1, none⟩ = some (.slice Ao31 t1326.length co31) ∧ w'.cell? ⟨gb1312, 0, none⟩ = some (.int .i64 a0_0) ∧ w'.cell? ⟨gb1312, 1, none⟩ = some (.slice A0_1 l0_1.length c0_1)) (ds := []) (ms 5 0) (by kernel_rfl) rfl (by kernel_rfl) ⟨(blk_cell BK1329.out 0).trans rfl, (blk_cell BK1329.out 1).trans rfl, (blk_cell BK1312.out 0).trans rfl, (blk_cell BK1312.out 1).trans rfl⟩ (fun hHeld => ?_)
  generalize wc.drew = w52 at HO_6 HO_9 HO_10 HO_1330001 BK1312 BK1329 HB hHeld ⊢
  refine take_ (i := 0) (N := some 52) (v := ?_) (a' := ?_) (ms 5 1) rfl rfl (by kernel_rfl) (fun _ _ _ h => h) (Or.inl ⟨by rfl, ?_⟩) hHeld ?_ ?_
  rotate_left
  ·rintro w' ⟨s0, s1, s2, s3⟩
   go_simp
   with_reducible rfl
  rotate_left
  ·simp only [SX]
   rfl
  refine take_ (i := 1) (N := some 53) (v := ?_) (a' := ?_) (ms 5 3) rfl rfl (by kernel_rfl) (fun _ _ _ h => h) (Or.inl ⟨by rfl, ?_⟩) hHeld ?_ ?_
  rotate_left
  ·rintro w' ⟨s0, s1, s2, s3⟩
   go_simp
   with_reducible rfl
  rotate_left
  ·simp only [SX]
   rfl
  refine one_ (i := 2) (N := some 54) (ms 5 7) rfl rfl (by kernel_rfl) (by decide) (fun K hK => ?_)
  refine goes_ Try.func17 (by kernel_rfl) rfl #[.agg #[.int .i64 a0_0, .slice A0_1 l0_1.length c0_1]] (by rfl) rfl rfl (by (try simp only [List.map_toArray, List.map_cons, List.map_nil]); first | done | rfl | (simp only [List.length_drop, List.length_take]; rfl)) ?_
  with_reducible refine (laws_toNet.calls kj15 a0_0 _ _ l0_1 t1338 t1339 _ ?side1 ?side2 A43.out).mono ?_
  (case side1 => repeat (first | exact (Kd.C_below HR0_1.out HB.out) | (with_reducible refine Kd.C_alloc ?_ _) | (with_reducible refine Kd.C_drewN ?_ _) | (with_reducible refine Kd.C_drew ?_)))
  (case side2 => exact HC0_1.out)
  rintro e w53 ⟨v1340, rfl, ho0, hb⟩
  refine ⟨_, rfl, ?_⟩
  replace HO_6 := ak (Kd.V_elder' (by (with_reducible repeat (first | apply Kd.V_alloc | apply Kd.V_drewN | apply Kd.V_drew)); exact HO_6.out) (Kd.R_base ho0) hb)
  replace HO_9 := ak (Kd.R_below (rk HO_9) hb)
  replace HO_10 := ak (Kd.R_below (rk HO_10) hb)
  have HO1341 := ak (Kd.R_lower (Kd.R_new' ho0 (Kd.R_lt (rk HO_1330001))) (below_size (bl2 HB GE1312 GE1329)))
  replace HO_1330001 := ak (Kd.R_elder' (rk HO_1330001) (Kd.R_base ho0) hb)
  replace BK1312 := ak (blk_below (bk BK1312) hb)
  replace BK1329 := ak (blk_below (bk BK1329) hb)
  replace HB := ak (below_step (bl2 HB GE1312 GE1329) hb)
  (try clear hb)
  (try clear hb2)
  (try clear hk)
  (try clear hi)
  (try clear ho0)
  obtain ⟨Ao54, co54, eo54⟩ := Kd.R_slice HO1341.out
  (first | subst eo54 | (injection eo54 with f1_ f2_ f3_; have f4_ := f1_.symm; have f5_ := f3_.symm; clear f1_ f2_ f3_; subst f4_; subst f5_))
  refine hK.out _ _ ⟨(blk_cell BK1329.out 0).trans rfl, (blk_cell BK1329.out 1).trans rfl, (blk_cell BK1312.out 0).trans rfl, (blk_cell BK1312.out 1).trans rfl⟩ (fun hHeld => ?_)
  clear hK K
  refine norm_ (a' := ?_) ?_ ?_
  rotate_left
  ·show Act.put _ (some 54) _ = _
   simp only [SX]
   rfl
  refine one_ (i := 3) (N := some 55) (ms 5 15) rfl rfl (by kernel_rfl) (by decide) (fun K hK => ?_)
  refine goes_ Try.func20 (by kernel_rfl) rfl #[.agg #[.int .i64 t1325, .slice Ao31 t1326.length co31], .agg #[.int .i64 t1338, .slice Ao54 t1339.length co54]] (by rfl) rfl rfl (by (try simp only [List.map_toArray, List.map_cons, List.map_nil]); first | done | rfl | (simp only [List.length_drop, List.length_take]; rfl)) ?_
  with_reducible refine (laws_eqNet.calls kj15 t1325 _ _ t1326 t1338 _ _ t1339 true _ ?side1 ?side2 ?side3 ?side4 A44.out).mono ?_
  (case side1 => repeat (first | exact (Kd.R_reads' HO_1330001.out).2.2 | (with_reducible refine Kd.C_alloc ?_ _) | (with_reducible refine Kd.C_drewN ?_ _) | (with_reducible refine Kd.C_drew ?_)))
  (case side2 => exact (Kd.R_reads' HO_1330001.out).2.1)
  (case side3 => repeat (first | exact (Kd.R_reads' HO1341.out).2.2 | (with_reducible refine Kd.C_alloc ?_ _) | (with_reducible refine Kd.C_drewN ?_ _) | (with_reducible refine Kd.C_drew ?_)))
  (case side4 => exact (Kd.R_reads' HO1341.out).2.1)
  rintro e w55 ⟨rfl, hb⟩
  refine ⟨_, rfl, ?_⟩
  replace HO_6 := ak (Kd.V_below (by (with_reducible repeat (first | apply Kd.V_alloc | apply Kd.V_drewN | apply Kd.V_drew)); exact HO_6.out) hb)
  replace HO_9 := ak (Kd.R_below (rk HO_9) hb)
  replace HO_10 := ak (Kd.R_below (rk HO_10) hb)
  replace HO_1330001 := ak (Kd.R_below (rk HO_1330001) hb)
  replace HO1341 := ak (Kd.R_below (rk HO1341) hb)
  replace BK1312 := ak (blk_below (bk BK1312) hb)
  replace BK1329 := ak (blk_below (bk BK1329) hb)
  replace HB := ak (below_step (bl2 HB GE1312 GE1329) hb)
  (try clear hb)
  (try clear hb2)
  (try clear hk)
  (try clear hi)
  refine hK.out _ _ ⟨(blk_cell BK1329.out 0).trans rfl, (blk_cell BK1329.out 1).trans rfl, (blk_cell BK1312.out 0).trans rfl, (blk_cell BK1312.out 1).trans rfl⟩ (fun hHeld => ?_)
  clear hK K
  refine norm_ (a' := ?_) ?_ ?_
  rotate_left
  ·show Act.put _ (some 55) _ = _
   simp only [SX]
   rfl
  refine pure_ (i := 4) (N := some 56) (v := ?_) (a' := ?_) (ms 5 31) rfl rfl (by kernel_rfl) (fun _ _ _ h => h) (Or.inl ⟨by rfl, ?_⟩) ?_ ?_
  rotate_left
  ·intro w'
   go_simp
   with_reducible rfl
  rotate_left
  ·simp only [SX]
   rfl
  refine done_ (by kernel_rfl) ?_
  go_upto_region 20 with (first | ((with_reducible refine gate_callee (f := 25) rfl ?_); refine goesL_ (some 59) rfl rfl Try.func25 (by kernel_rfl) rfl #[.slice A1 l1.length c1] rfl (by (try simp only [List.map_toArray, List.map_cons, List.map_nil]); first | done | rfl | (simp only [List.length_drop, List.length_take]; rfl)) ?_; (with_reducible refine (laws_toIntS.calls kj15 _ _ l1 t1343 _ ?side1 ?side2 A46.out).mono ?_); (case side1 => repeat (first | exact (Kd.C_below HR1.out HB.out) | (with_reducible refine Kd.C_alloc ?_ _) | (with_reducible refine Kd.C_drewN ?_ _) | (with_reducible refine Kd.C_drew ?_))); (case side2 => exact HC1.out); rintro e w56 ⟨v1344, rfl, ho0, hb⟩; refine ⟨_, rfl, ?_⟩; replace HO_6 := ak (Kd.V_elder' (by (with_reducible repeat (first | apply Kd.V_alloc | apply Kd.V_drewN | apply Kd.V_drew)); exact HO_6.out) (Kd.R_base ho0) hb); replace HO_1330001 := ak (Kd.R_below (rk HO_1330001) hb); replace HO1341 := ak (Kd.R_below (rk HO1341) hb); have HO1345 := ak (Kd.R_lower (Kd.R_new' (Kd.R_new' ho0 (Kd.R_lt (rk HO_9))) (Kd.R_lt (rk HO_10))) (below_size (bl2 HB GE1312 GE1329))); replace HO_9 := ak (Kd.R_elder' (rk HO_9) (Kd.R_base ho0) hb); replace HO_10 := ak (Kd.R_elder' (rk HO_10) (Kd.R_base ho0) hb); replace BK1312 := ak (blk_below (bk BK1312) hb); replace BK1329 := ak (blk_below (bk BK1329) hb); replace HB := ak (below_step (bl2 HB GE1312 GE1329) hb); (try clear hb); (try clear hb2); (try clear hk); (try clear hi); (try clear ho0); obtain ⟨Ao57, co57, eo57⟩ := Kd.R_slice HO1345.out; subst eo57) | ((with_reducible refine gate_callee (f := 19) rfl ?_); refine goesL_ (some 60) rfl rfl Try.func19 (by kernel_rfl) rfl #[.slice Ao34 t1330.length co34, .slice Ao57 t1343.length co57] rfl (by (try simp only [List.map_toArray, List.map_cons, List.map_nil]); first | done | rfl | (simp only [List.length_drop, List.length_take]; rfl)) ?_; (with_reducible refine (laws_eqIntS.calls kj15 _ _ t1330 _ _ t1343 true _ ?side1 ?side2 ?side3 ?side4 A47.out).mono ?_); (case side1 => repeat (first | exact (Kd.R_reads' HO_9.out).2.2 | (with_reducible refine Kd.C_alloc ?_ _) | (with_reducible refine Kd.C_drewN ?_ _) | (with_reducible refine Kd.C_drew ?_))); (case side2 => exact (Kd.R_reads' HO_9.out).2.1); (case side3 => repeat (first | exact (Kd.R_reads' HO1345.out).2.2 | (with_reducible refine Kd.C_alloc ?_ _) | (with_reducible refine Kd.C_drewN ?_ _) | (with_reducible refine Kd.C_drew ?_))); (case side4 => exact (Kd.R_reads' HO1345.out).2.1); rintro e w' ⟨rfl, ⟨nd, rfl⟩⟩; refine ⟨_, rfl, ?_⟩; have hnb58 := NB1329_1312.out; have hnc58 := NB1312_1329.out; have hcz59_0 := bc w56 BK1329 0 (.int .i64 t1325) rfl; have hcz59_1 := bc w56 BK1329 1 (.slice Ao31 t1326.length co31) rfl; have hfz59_0 := fz BK1329 0; have hfz59_1 := fz BK1329 1) | ((with_reducible refine gate_callee (f := 21) rfl ?_); refine goesL_ (some 64) rfl rfl Try.func21 (by kernel_rfl) rfl #[.agg #[.int .i64 t1325, .slice Ao31 t1326.length co31], .int .i64 1] rfl (by (try simp only [List.map_toArray, List.map_cons, List.map_nil]); first | done | rfl | (simp only [List.length_drop, List.length_take]; rfl)) ?_; (with_reducible refine (laws_markNet.calls kj15 t1325 (fun k_ => some k_ = (.slice Ao31 t1326.length co31 : Value).ownBlock) (.slice Ao31 t1326.length co31) t1326 1 t1347 t1348 w _ ?side1 ?side2 A49.out).mono ?_); (case side1 => repeat (first | (with_reducible first | exact HB.out | apply below_alloc | apply pw_below_drewN | apply below_drew1 | refine below_set ?_ GE1312.out | refine below_set ?_ GE1329.out) | exact HB.out)); (case side2 => exact Kd.R_tight rfl HO_1330001.out); rintro e w60 ⟨rfl, hy0, hb, hkp⟩; refine ⟨_, rfl, ?_⟩; replace HO_6 := ak (Kd.V_mono (ok' := fun k_ => some k_ ≠ (.slice Ao34 t1330.length co34 : Value).ownBlock ∧ some k_ ≠ (v1334 : Value).ownBlock ∧ some k_ ≠ (.slice Ao31 t1326.length co31 : Value).ownBlock ∧ some k_ ≠ (.slice Ao54 t1339.length co54 : Value).ownBlock ∧ some k_ ≠ (.slice Ao57 t1343.length co57 : Value).ownBlock ∧ k_ ≠ gb1312 ∧ k_ ≠ gb1329) (Kd.V_keptB (HO_6.out) hkp (fun k_ hk_ hs_ => (hk_.1.1.2.2.1) hs_)) (fun k_ hk_ => ⟨hk_.1.1.1.1, hk_.1.1.1.2.1, hk_.1.1.1.2.2.1, hk_.1.1.2, hk_.1.2, hk_.1.1.1.2.2.2.1, hk_.1.1.1.2.2.2.2⟩)); replace HO_9 := ak (Kd.R_mono (ok' := fun k_ => some k_ ≠ (v1334 : Value).ownBlock ∧ some k_ ≠ (.slice Ao57 t1343.length co57 : Value).ownBlock) (Kd.R_keptB ((Kd.R_apart' HO_9.out (Kd.R_typed HO_1330001.out) (by decide))) hkp (fun k_ hk_ hs_ => (hk_.2) hs_)) (fun k_ hk_ => ⟨hk_.1.1.1, hk_.1.1.2⟩)); replace HO_10 := ak (Kd.R_mono (ok' := fun k_ => some k_ ≠ (.slice Ao34 t1330.length co34 : Value).ownBlock ∧ some k_ ≠ (.slice Ao57 t1343.length co57 : Value).ownBlock) (Kd.R_keptB ((Kd.R_apart' HO_10.out (Kd.R_typed HO_1330001.out) (by decide))) hkp (fun k_ hk_ hs_ => (hk_.2) hs_)) (fun k_ hk_ => ⟨hk_.1.1.1, hk_.1.1.2⟩)); replace BK1312 := ak (blk_kept (bk BK1312) hkp (fun hs_ => (fun e_ => (Kd.R_ne HO_1330001.out BK1312.out (by decide)) e_) hs_)); replace BK1329 := ak (blk_kept (bk BK1329) hkp (fun hs_ => (fun e_ => (Kd.R_ne HO_1330001.out BK1329.out (by decide)) e_) hs_)); replace HO1341 := ak (Kd.R_mono (ok' := fun k_ => some k_ ≠ (.slice Ao31 t1326.length co31 : Value).ownBlock) (Kd.R_keptB (HO1341.out) hkp (fun k_ hk_ hs_ => (hk_.2) hs_)) (fun k_ hk_ => hk_.1.2)); replace HO1345 := ak (Kd.R_mono (ok' := fun k_ => some k_ ≠ (.slice Ao34 t1330.length co34 : Value).ownBlock ∧ some k_ ≠ (v1334 : Value).ownBlock) (Kd.R_keptB ((Kd.R_apart' HO1345.out (Kd.R_typed HO_1330001.out) (by decide))) hkp (fun k_ hk_ hs_ => (hk_.2) hs_)) (fun k_ hk_ => ⟨hk_.1.1.1.2, hk_.1.1.2⟩)); replace HO_1330001 := ak (Kd.R_reok rfl hy0 (fun k_ e_ => HO_1330001.out.1 k_ e_)); replace HB := ak (hb); (try clear hb); (try clear hkp); (try clear hy0)) | ((with_reducible refine gate_callee (f := 22) rfl ?_); refine goesL_ (some 67) rfl rfl Try.func22 (by kernel_rfl) rfl #[.slice Ao34 t1330.length co34, .int .i64 t1347] rfl (by (try simp only [List.map_toArray, List.map_cons, List.map_nil]); first | done | rfl | (simp only [List.length_drop, List.length_take]; rfl)) ?_; (with_reducible refine (laws_markIntS.calls kj15 (fun k_ => some k_ = (.slice Ao34 t1330.length co34 : Value).ownBlock) (.slice Ao34 t1330.length co34) t1330 t1347 t1349 t1350 w _ ?side1 ?side2 A50.out).mono ?_); (case side1 => repeat (first | (with_reducible first | exact HB.out | apply below_alloc | apply pw_below_drewN | apply below_drew1 | refine below_set ?_ GE1312.out | refine below_set ?_ GE1329.out) | exact HB.out)); (case side2 => exact Kd.R_tight rfl HO_9.out); rintro e w61 ⟨rfl, hy0, hb, hkp⟩; refine ⟨_, rfl, ?_⟩; replace HO_6 := ak (Kd.V_mono (ok' := fun k_ => some k_ ≠ (.slice Ao34 t1330.length co34 : Value).ownBlock ∧ some k_ ≠ (v1334 : Value).ownBlock ∧ some k_ ≠ (.slice Ao31 t1326.length co31 : Value).ownBlock ∧ some k_ ≠ (.slice Ao54 t1339.length co54 : Value).ownBlock ∧ some k_ ≠ (.slice Ao57 t1343.length co57 : Value).ownBlock ∧ k_ ≠ gb1312 ∧ k_ ≠ gb1329) (Kd.V_keptB (HO_6.out) hkp (fun k_ hk_ hs_ => (hk_.1) hs_)) (fun k_ hk_ => ⟨hk_.1.1, hk_.1.2.1, hk_.1.2.2.1, hk_.1.2.2.2.1, hk_.1.2.2.2.2.1, hk_.1.2.2.2.2.2.1, hk_.1.2.2.2.2.2.2⟩)); replace HO_10 := ak (Kd.R_mono (ok' := fun k_ => some k_ ≠ (.slice Ao34 t1330.length co34 : Value).ownBlock ∧ some k_ ≠ (.slice Ao57 t1343.length co57 : Value).ownBlock) (Kd.R_keptB (HO_10.out) hkp (fun k_ hk_ hs_ => (hk_.1) hs_)) (fun k_ hk_ => ⟨hk_.1.1, hk_.1.2⟩)); replace HO_1330001 := ak (Kd.R_mono (ok' := fun k_ => some k_ ≠ (.slice Ao54 t1339.length co54 : Value).ownBlock) (Kd.R_keptB ((Kd.R_apart' HO_1330001.out (Kd.R_typed HO_9.out) (by decide))) hkp (fun k_ hk_ hs_ => (hk_.2) hs_)) (fun k_ hk_ => hk_.1.1.2)); replace BK1312 := ak (blk_kept (bk BK1312) hkp (fun hs_ => (fun e_ => (Kd.R_ne HO_9.out BK1312.out (by decide)) e_) hs_)); replace BK1329 := ak (blk_kept (bk BK1329) hkp (fun hs_ => (fun e_ => (Kd.R_ne HO_9.out BK1329.out (by decide)) e_) hs_)); replace HO1341 := ak (Kd.R_mono (ok' := fun k_ => some k_ ≠ (.slice Ao31 t1326.length co31 : Value).ownBlock) (Kd.R_keptB ((Kd.R_apart' HO1341.out (Kd.R_typed HO_9.out) (by decide))) hkp (fun k_ hk_ hs_ => (hk_.2) hs_)) (fun k_ hk_ => hk_.1.1)); replace HO_9 := ak (Kd.R_reok rfl hy0 (fun k_ e_ => HO_9.out.1 k_ e_)); replace HO1345 := ak (Kd.R_mono (ok' := fun k_ => some k_ ≠ (.slice Ao34 t1330.length co34 : Value).ownBlock ∧ some k_ ≠ (v1334 : Value).ownBlock) (Kd.R_keptB (HO1345.out) hkp (fun k_ hk_ hs_ => (hk_.1) hs_)) (fun k_ hk_ => ⟨hk_.1.1, hk_.1.2⟩)); replace HB := ak (hb); (try clear hb); (try clear hkp); (try clear hy0)))
  (try simp only [Act.put, List.setIfInBounds_toArray, List.set_cons_zero, List.set_cons_succ])
  go_cut [80] (fun v80 wc => ∃ (kq : Nat) (x80_50 : Bool), v80 = .bool x80_50 ∧ Aside0 (laws_FnExactTourBest.j1 kq l1 t1321 t1324 t1333 x80_50 a0_0 l0_1 = some r) ∧ Aside0 (kq ≤ kj15) ∧ Aside0 (Kd.V (Kd.int .i64) 3 wc w.heap.size (fun k_ => some k_ ≠ (v1334 : Value).ownBlock ∧ some k_ ≠ ((.slice Ao31 t1326.length co31) : Value).ownBlock ∧ k_ ≠ gb1312 ∧ k_ ≠ gb1329) v1322 t1321) ∧ Aside0 (Kd.R (Kd.int .i64) 3 wc w.heap.size (fun _ => True) v1334 t1333) ∧ Aside0 (Kd.R k100 100 wc w.heap.size (fun _ => True) (.slice Ao31 t1326.length co31) t1348) ∧ Aside0 (wc.heap[gb1312]? = some (.cells #[.int .i64 a0_0, (.slice A0_1 l0_1.length c0_1)] 24 (0, 0))) ∧ Aside0 (wc.heap[gb1329]? = some (.cells #[.int .i64 t1325, (.slice Ao31 t1326.length co31)] 30 (0, 0))) ∧ Aside0 (Below w.heap.size w wc))
  case first =>
   have H := HC51.out
   clear HC51
   by_cases c62 : t1349 < 0
   ·rw [if_pos c62] at H
    have c62b0 : decide (t1349 < 0) = true := decide_eq_true c62
    clear c62
    (first | rw [c62b0] | (simp only [i64_w, i32_w]; rw [c62b0]) | skip)
    have H' := ak H
    clear H
    go_wp2
    go_meet
    case rel => exact ⟨_, (true), (by first | rfl | (simp; done) | (simp [*]; done)), H', ⟨by have := HJ15.out; first | omega | exact Nat.le_refl _⟩, ⟨by (with_reducible repeat (first | apply Kd.V_alloc | apply Kd.V_drewN | apply Kd.V_drew)); exact Kd.V_mono HO_6.out (fun _ hk => ⟨hk.2.1, ⟨hk.2.2.1, ⟨hk.2.2.2.2.2.1, hk.2.2.2.2.2.2⟩⟩⟩)⟩, ⟨by (with_reducible repeat (first | apply Kd.R_alloc | apply Kd.R_drewN | apply Kd.R_drew)); exact Kd.R_mono HO_10.out (fun _ hk => trivial)⟩, ⟨by (with_reducible repeat (first | apply Kd.R_alloc | apply Kd.R_drewN | apply Kd.R_drew)); exact Kd.R_mono HO_1330001.out (fun _ hk => trivial)⟩, ⟨bk BK1312⟩, ⟨bk BK1329⟩, ⟨bl2 HB GE1312 GE1329⟩⟩
   rw [if_neg c62] at H
   have c62b0 : decide (t1349 < 0) = false := decide_eq_false c62
   clear c62
   (first | rw [c62b0] | (simp only [i64_w, i32_w]; rw [c62b0]) | skip)
   replace H := Option.bind_eq_some_iff.mp H
   obtain ⟨t1351, A630, H⟩ := H
   have A63 := ak A630
   clear A630
   by_cases c64 : t1351 = true
   ·subst c64
    rw [if_pos rfl] at H
    have H' := ak H
    clear H
    obtain ⟨Ao65, co65, eo65⟩ := Kd.R_slice HO_10.out
    subst eo65
    obtain ⟨Ao66, co66, eo66⟩ := Kd.V_slice HO_6.out
    subst eo66
    go_wp2_with (first | (go_at_call 19; (with_reducible refine (laws_eqIntS.calls kj15 _ _ t1333 _ _ t1321 true _ ?side1 ?side2 ?side3 ?side4 A63.out).mono ?_); (case side1 => repeat (first | exact (Kd.R_reads' HO_10.out).2.2 | (with_reducible refine Kd.C_alloc ?_ _) | (with_reducible refine Kd.C_drewN ?_ _) | (with_reducible refine Kd.C_drew ?_))); (case side2 => exact (Kd.R_reads' HO_10.out).2.1); (case side3 => repeat (first | exact (Kd.V_reads' HO_6.out).2.2 | (with_reducible refine Kd.C_alloc ?_ _) | (with_reducible refine Kd.C_drewN ?_ _) | (with_reducible refine Kd.C_drew ?_))); (case side4 => exact (Kd.V_reads' HO_6.out).2.1); rintro e w' ⟨rfl, ⟨nd, rfl⟩⟩))
    go_meet
    case rel => exact ⟨_, ((t1336 != t1324)), (by first | rfl | (simp; done) | (simp [*]; done)), H', ⟨by have := HJ15.out; first | omega | exact Nat.le_refl _⟩, ⟨by (with_reducible repeat (first | apply Kd.V_alloc | apply Kd.V_drewN | apply Kd.V_drew)); exact Kd.V_mono HO_6.out (fun _ hk => ⟨hk.2.1, ⟨hk.2.2.1, ⟨hk.2.2.2.2.2.1, hk.2.2.2.2.2.2⟩⟩⟩)⟩, ⟨by (with_reducible repeat (first | apply Kd.R_alloc | apply Kd.R_drewN | apply Kd.R_drew)); exact Kd.R_mono HO_10.out (fun _ hk => trivial)⟩, ⟨by (with_reducible repeat (first | apply Kd.R_alloc | apply Kd.R_drewN | apply Kd.R_drew)); exact Kd.R_mono HO_1330001.out (fun _ hk => trivial)⟩, ⟨bk BK1312⟩, ⟨bk BK1329⟩, ⟨bl2 HB GE1312 GE1329⟩⟩
   replace c64 := Bool.eq_false_iff.mpr c64
   subst c64
   rw [if_neg (show ¬ (false = true) by decide)] at H
   have H' := ak H
   clear H
   obtain ⟨Ao67, co67, eo67⟩ := Kd.R_slice HO_10.out
   subst eo67
   obtain ⟨Ao68, co68, eo68⟩ := Kd.V_slice HO_6.out
   subst eo68
   go_wp2_with (first | (go_at_call 19; (with_reducible refine (laws_eqIntS.calls kj15 _ _ t1333 _ _ t1321 false _ ?side1 ?side2 ?side3 ?side4 A63.out).mono ?_); (case side1 => repeat (first | exact (Kd.R_reads' HO_10.out).2.2 | (with_reducible refine Kd.C_alloc ?_ _) | (with_reducible refine Kd.C_drewN ?_ _) | (with_reducible refine Kd.C_drew ?_))); (case side2 => exact (Kd.R_reads' HO_10.out).2.1); (case side3 => repeat (first | exact (Kd.V_reads' HO_6.out).2.2 | (with_reducible refine Kd.C_alloc ?_ _) | (with_reducible refine Kd.C_drewN ?_ _) | (with_reducible refine Kd.C_drew ?_))); (case side4 => exact (Kd.V_reads' HO_6.out).2.1); rintro e w' ⟨rfl, ⟨nd, rfl⟩⟩))
   go_meet
   case rel => exact ⟨_, (true), (by first | rfl | (simp; done) | (simp [*]; done)), H', ⟨by have := HJ15.out; first | omega | exact Nat.le_refl _⟩, ⟨by (with_reducible repeat (first | apply Kd.V_alloc | apply Kd.V_drewN | apply Kd.V_drew)); exact Kd.V_mono HO_6.out (fun _ hk => ⟨hk.2.1, ⟨hk.2.2.1, ⟨hk.2.2.2.2.2.1, hk.2.2.2.2.2.2⟩⟩⟩)⟩, ⟨by (with_reducible repeat (first | apply Kd.R_alloc | apply Kd.R_drewN | apply Kd.R_drew)); exact Kd.R_mono HO_10.out (fun _ hk => trivial)⟩, ⟨by (with_reducible repeat (first | apply Kd.R_alloc | apply Kd.R_drewN | apply Kd.R_drew)); exact Kd.R_mono HO_1330001.out (fun _ hk => trivial)⟩, ⟨bk BK1312⟩, ⟨bk BK1329⟩, ⟨bl2 HB GE1312 GE1329⟩⟩
  clear HC51
  try clear c1
  try clear c2
  try clear p2
  try clear c3
  try clear c3b0
  try clear c3b1
  try clear c4
  try clear c5
  try clear c6
  try clear c6b0
  try clear c12
  try clear c15
  try clear c17
  try clear c19
  try clear c20
  try clear c21
  try clear c22
  try clear c25
  try clear c29
  try clear c37
  try clear c42
  try clear c45
  try clear c48
  try clear c50
  try clear c51
  try clear c58
  try clear c62
  try clear c62b0
  try clear c64
  try clear hcz18_0
  try clear hcz18_1
  try clear hcz20_0
  try clear hcz20_1
  try clear hcz26_0
  try clear hcz26_1
  try clear hcz30_0
  try clear hcz30_1
  try clear hcz33_0
  try clear hcz33_1
  try clear hcz59_0
  try clear hcz59_1
  try clear hcz8_0
  try clear hcz8_1
  try clear hfz18_0
  try clear hfz18_1
  try clear hfz20_0
  try clear hfz20_1
  try clear hfz26_0
  try clear hfz26_1
  try clear hfz30_0
  try clear hfz30_1
  try clear hfz33_0
  try clear hfz33_1
  try clear hfz59_0
  try clear hfz59_1
  try clear hfz8_0
  try clear hfz8_1
  try clear p2
  obtain ⟨kq, x80_50, rfl, HA, HJ50, HO_6, HO_10, HO_1330001, BK1312, BK1329, HB⟩ := hcut
  have hl1330001_50 := (Kd.R_reads' HO_1330001.out).1
  rw [hl1330001_50] at HO_1330001
  (try simp only [hl1330001_50])
  (try simp only [hl1330001_50] at BK1312)
  (try simp only [hl1330001_50] at BK1329)
  (try simp only [hl1330001_50] at HO_6)
  (try simp only [hl1330001_50] at HO_10)
  cases kq with
  | zero => exact absurd HA.out (by simp [laws_FnExactTourBest.j1])
  | succ kj50 =>
   have H := HA.out
   clear HA
   simp only [laws_FnExactTourBest.j1] at H
   by_cases c69 : x80_50 = true
   ·subst c69
    rw [if_pos rfl] at H
    exact absurd ((Option.some.inj H).trans hr_) Bool.false_ne_true
   replace c69 := Bool.eq_false_iff.mpr c69
   subst c69
   rw [if_neg (show ¬ (false = true) by decide)] at H
   replace H := Option.bind_eq_some_iff.mp H
   obtain ⟨⟨t1352, t1353⟩, A700, H⟩ := H
   have A70 := ak A700
   clear A700
   replace H := Option.bind_eq_some_iff.mp H
   obtain ⟨t1354, A710, H⟩ := H
   have A71 := ak A710
   clear A710
   by_cases c72 : t1354 < 0
   ·rw [if_pos c72] at H
    have c72b0 : decide (t1354 < 0) = true := decide_eq_true c72
    clear c72
    exact absurd ((Option.some.inj H).trans hr_) Bool.false_ne_true
   rw [if_neg c72] at H
   have c72b0 : decide (t1354 < 0) = false := decide_eq_false c72
   clear c72
   by_cases c73 : t1354 = t1352
   rotate_left
   ·rw [if_neg c73] at H
    have c73b0 : (t1354 == t1352) = false := beq_eq_false_iff_ne.mpr c73
    have c73b1 : (t1354 != t1352) = true := bne_iff_ne.mpr c73
    exact absurd ((Option.some.inj H).trans hr_) Bool.false_ne_true
   rw [if_pos c73] at H
   have c73b0 : (t1354 == t1352) = true := beq_iff_eq.mpr c73
   have c73b1 : (t1354 != t1352) = false := bne_eq_false_iff_eq.mpr c73
   clear c73
   replace H := Option.bind_eq_some_iff.mp H
   obtain ⟨⟨t1355, t1356⟩, A740, H⟩ := H
   have A74 := ak A740
   clear A740
   replace H := Option.bind_eq_some_iff.mp H
   obtain ⟨t1359, A750, H⟩ := H
   have A75 := ak A750
   clear A750
   replace H := Option.bind_eq_some_iff.mp H
   obtain ⟨⟨t1362, t1365⟩, A760, H⟩ := H
   have A76 := ak A760
   clear A760
   have HC77 := ak H
   clear H
   obtain ⟨Ao78, co78, eo78⟩ := Kd.R_slice HO_10.out
   subst eo78
   go_upto_region 31 with (first | ((with_reducible refine gate_callee (f := 22) rfl ?_); refine goesL_ (some 83) rfl rfl Try.func22 (by kernel_rfl) rfl #[.slice Ao78 t1333.length co78, .int .i64 1] rfl (by (try simp only [List.map_toArray, List.map_cons, List.map_nil]); first | done | rfl | (simp only [List.length_drop, List.length_take]; rfl)) ?_; (with_reducible refine (laws_markIntS.calls kj50 (fun k_ => some k_ = (.slice Ao78 t1333.length co78 : Value).ownBlock) (.slice Ao78 t1333.length co78) t1333 1 t1352 t1353 w _ ?side1 ?side2 A70.out).mono ?_); (case side1 => repeat (first | (with_reducible first | exact HB.out | apply below_alloc | apply pw_below_drewN | apply below_drew1 | refine below_set ?_ GE1312.out | refine below_set ?_ GE1329.out) | exact HB.out)); (case side2 => exact Kd.R_tight rfl HO_10.out); rintro e w79 ⟨rfl, hy0, hb, hkp⟩; refine ⟨_, rfl, ?_⟩; replace HO_6 := ak (Kd.V_mono (ok' := fun k_ => some k_ ≠ (.slice Ao78 t1333.length co78 : Value).ownBlock ∧ some k_ ≠ (.slice Ao31 t1348.length co31 : Value).ownBlock ∧ k_ ≠ gb1312 ∧ k_ ≠ gb1329) (Kd.V_keptB (HO_6.out) hkp (fun k_ hk_ hs_ => (hk_.1) hs_)) (fun k_ hk_ => ⟨hk_.1.1, hk_.1.2.1, hk_.1.2.2.1, hk_.1.2.2.2⟩)); replace HO_1330001 := ak (Kd.R_mono (ok' := fun k_ => True) (Kd.R_keptB ((Kd.R_apart' HO_1330001.out (Kd.R_typed HO_10.out) (by decide))) hkp (fun k_ hk_ hs_ => (hk_.2) hs_)) (fun k_ hk_ => trivial)); replace BK1312 := ak (blk_kept (bk BK1312) hkp (fun hs_ => (fun e_ => (Kd.R_ne HO_10.out BK1312.out (by decide)) e_) hs_)); replace BK1329 := ak (blk_kept (bk BK1329) hkp (fun hs_ => (fun e_ => (Kd.R_ne HO_10.out BK1329.out (by decide)) e_) hs_)); replace HO_10 := ak (Kd.R_reok rfl hy0 (fun k_ e_ => HO_10.out.1 k_ e_)); replace HB := ak (hb); (try clear hb); (try clear hkp); (try clear hy0)) | ((with_reducible refine gate_callee (f := 23) rfl ?_); refine goesL_ (some 86) rfl rfl Try.func23 (by kernel_rfl) rfl #[.slice Ao78 t1353.length co78, .int .i64 1] rfl (by (try simp only [List.map_toArray, List.map_cons, List.map_nil]); first | done | (rw [show t1353.length = t1333.length from (Kd.R_reads' HO_10.out).1.symm] <;> rfl) | rfl | (simp only [List.length_drop, List.length_take]; rfl)) ?_; (with_reducible refine (laws_heldIntS.calls kj50 _ _ t1353 1 t1354 _ ?side1 ?side2 A71.out).mono ?_); (case side1 => repeat (first | exact (Kd.R_reads' HO_10.out).2.2 | (with_reducible refine Kd.C_alloc ?_ _) | (with_reducible refine Kd.C_drewN ?_ _) | (with_reducible refine Kd.C_drew ?_))); (case side2 => rw [show t1353.length = t1333.length from (Kd.R_reads' HO_10.out).1.symm]; exact (Kd.R_reads' HO_10.out).2.1); rintro e w' ⟨rfl, ⟨nd, rfl⟩⟩; refine ⟨_, rfl, ?_⟩; have hnb80 := NB1312_1329.out; have hnc80 := NB1329_1312.out; have hcz81_0 := bc w79 BK1312 0 (.int .i64 a0_0) rfl; have hcz81_1 := bc w79 BK1312 1 (.slice A0_1 l0_1.length c0_1) rfl; have hfz81_0 := fz BK1312 0; have hfz81_1 := fz BK1312 1) | ((with_reducible refine gate_callee (f := 17) rfl ?_); refine goesL_ (some 94) rfl rfl Try.func17 (by kernel_rfl) rfl #[.agg #[.int .i64 a0_0, .slice A0_1 l0_1.length c0_1]] rfl (by (try simp only [List.map_toArray, List.map_cons, List.map_nil]); first | done | rfl | (simp only [List.length_drop, List.length_take]; rfl)) ?_; (with_reducible refine (laws_toNet.calls kj50 a0_0 _ _ l0_1 t1355 t1356 _ ?side1 ?side2 A74.out).mono ?_); (case side1 => repeat (first | exact (Kd.C_below HR0_1.out (bl2 HB GE1312 GE1329)) | (with_reducible refine Kd.C_alloc ?_ _) | (with_reducible refine Kd.C_drewN ?_ _) | (with_reducible refine Kd.C_drew ?_))); (case side2 => exact HC0_1.out); rintro e w82 ⟨v1357, rfl, ho0, hb⟩; refine ⟨_, rfl, ?_⟩; replace HO_6 := ak (Kd.V_elder' (by (with_reducible repeat (first | apply Kd.V_alloc | apply Kd.V_drewN | apply Kd.V_drew)); exact HO_6.out) (Kd.R_base ho0) hb); replace HO_10 := ak (Kd.R_below (rk HO_10) hb); have HO1358 := ak (Kd.R_lower (Kd.R_new' ho0 (Kd.R_lt (rk HO_1330001))) (below_size (bl2 HB GE1312 GE1329))); replace HO_1330001 := ak (Kd.R_elder' (rk HO_1330001) (Kd.R_base ho0) hb); replace BK1312 := ak (blk_below (bk BK1312) hb); replace BK1329 := ak (blk_below (bk BK1329) hb); replace HB := ak (below_step (bl2 HB GE1312 GE1329) hb); (try clear hb); (try clear hb2); (try clear hk); (try clear hi); (try clear ho0)) | ((with_reducible refine gate_callee (f := 25) rfl ?_); refine goesL_ (some 96) rfl rfl Try.func25 (by kernel_rfl) rfl #[.slice A1 l1.length c1] rfl (by (try simp only [List.map_toArray, List.map_cons, List.map_nil]); first | done | rfl | (simp only [List.length_drop, List.length_take]; rfl)) ?_; (with_reducible refine (laws_toIntS.calls kj50 _ _ l1 t1359 _ ?side1 ?side2 A75.out).mono ?_); (case side1 => repeat (first | exact (Kd.C_below HR1.out HB.out) | (with_reducible refine Kd.C_alloc ?_ _) | (with_reducible refine Kd.C_drewN ?_ _) | (with_reducible refine Kd.C_drew ?_))); (case side2 => exact HC1.out); rintro e w83 ⟨v1360, rfl, ho0, hb⟩; refine ⟨_, rfl, ?_⟩; replace HO_6 := ak (Kd.V_elder' (by (with_reducible repeat (first | apply Kd.V_alloc | apply Kd.V_drewN | apply Kd.V_drew)); exact HO_6.out) (Kd.R_base ho0) hb); replace HO_1330001 := ak (Kd.R_below (rk HO_1330001) hb); replace HO1358 := ak (Kd.R_below (rk HO1358) hb); have HO1361 := ak (Kd.R_lower (Kd.R_new' ho0 (Kd.R_lt (rk HO_10))) (below_size (bl2 HB GE1312 GE1329))); replace HO_10 := ak (Kd.R_elder' (rk HO_10) (Kd.R_base ho0) hb); replace BK1312 := ak (blk_below (bk BK1312) hb); replace BK1329 := ak (blk_below (bk BK1329) hb); replace HB := ak (below_step (bl2 HB GE1312 GE1329) hb); (try clear hb); (try clear hb2); (try clear hk); (try clear hi); (try clear ho0); obtain ⟨Ao84, co84, eo84⟩ := Kd.R_slice HO1358.out; subst eo84; obtain ⟨Ao85, co85, eo85⟩ := Kd.R_slice HO1361.out; subst eo85) | ((with_reducible refine gate_callee (f := 51) rfl ?_); refine goesL_ (some 97) rfl rfl Try.func51 (by kernel_rfl) rfl #[.agg #[.int .i64 t1355, .slice Ao84 t1356.length co84], .slice Ao85 t1359.length co85] rfl (by (try simp only [List.map_toArray, List.map_cons, List.map_nil]); first | done | rfl | (simp only [List.length_drop, List.length_take]; rfl)) ?_; (with_reducible refine (impl_TourBest.calls kj50 t1355 _ _ t1356 _ _ t1359 t1362 t1365 _ ?side1 ?side2 ?side3 ?side4 A76.out).mono ?_); (case side1 => repeat (first | exact (Kd.R_reads' HO1358.out).2.2 | (with_reducible refine Kd.C_alloc ?_ _) | (with_reducible refine Kd.C_drewN ?_ _) | (with_reducible refine Kd.C_drew ?_))); (case side2 => exact (Kd.R_reads' HO1358.out).2.1); (case side3 => repeat (first | exact (Kd.R_reads' HO1361.out).2.2 | (with_reducible refine Kd.C_alloc ?_ _) | (with_reducible refine Kd.C_drewN ?_ _) | (with_reducible refine Kd.C_drew ?_))); (case side4 => exact (Kd.R_reads' HO1361.out).2.1); rintro e w86 ⟨v1363, rfl, ho0, hb⟩; refine ⟨_, rfl, ?_⟩; replace HO_6 := ak (Kd.V_elder' (by (with_reducible repeat (first | apply Kd.V_alloc | apply Kd.V_drewN | apply Kd.V_drew)); exact HO_6.out) (Kd.R_base ho0) hb); replace HO_1330001 := ak (Kd.R_below (rk HO_1330001) hb); replace HO1358 := ak (Kd.R_below (rk HO1358) hb); have HO1364 := ak (Kd.R_lower (Kd.R_new' (Kd.R_new' ho0 (Kd.R_lt (rk HO_10))) (Kd.R_lt (rk HO1361))) (below_size (bl2 HB GE1312 GE1329))); replace HO_10 := ak (Kd.R_elder' (rk HO_10) (Kd.R_base ho0) hb); replace HO1361 := ak (Kd.R_elder' (rk HO1361) (Kd.R_base ho0) hb); replace BK1312 := ak (blk_below (bk BK1312) hb); replace BK1329 := ak (blk_below (bk BK1329) hb); replace HB := ak (below_step (bl2 HB GE1312 GE1329) hb); (try clear hb); (try clear hb2); (try clear hk); (try clear hi); (try clear ho0)))
   (try simp only [Act.put, List.setIfInBounds_toArray, List.set_cons_zero, List.set_cons_succ])
   go_cut [108] (fun v108 wc => ∃ (kq : Nat) (x108_76 : Bool), v108 = .bool x108_76 ∧ Aside0 (laws_FnExactTourBest.j2 kq t1353 t1352 x108_76 = some r) ∧ Aside0 (kq ≤ kj50) ∧ Aside0 (Kd.R (Kd.int .i64) 3 wc w.heap.size (fun _ => True) (.slice Ao78 t1333.length co78) t1353) ∧ Aside0 (Kd.R k100 100 wc w.heap.size (fun _ => True) (.slice Ao31 t1348.length co31) t1348) ∧ Aside0 (wc.heap[gb1312]? = some (.cells #[.int .i64 a0_0, (.slice A0_1 l0_1.length c0_1)] 24 (0, 0))) ∧ Aside0 (wc.heap[gb1329]? = some (.cells #[.int .i64 t1325, (.slice Ao31 t1348.length co31)] 30 (0, 0))) ∧ Aside0 (Below w.heap.size w wc))
   case first =>
    have H := HC77.out
    clear HC77
    replace H := Option.bind_eq_some_iff.mp H
    obtain ⟨t1366, A870, H⟩ := H
    have A87 := ak A870
    clear A870
    by_cases c88 : t1366 = true
    ·subst c88
     rw [if_pos rfl] at H
     have H' := ak H
     clear H
     obtain ⟨Ao89, co89, eo89⟩ := Kd.R_slice HO1364.out
     subst eo89
     obtain ⟨Ao90, co90, eo90⟩ := Kd.V_slice HO_6.out
     subst eo90
     go_wp2_with (first | ((with_reducible refine gate_callee (f := 19) rfl ?_); refine goesL_ (some 102) rfl rfl Try.func19 (by kernel_rfl) rfl #[.slice Ao89 t1362.length co89, .slice Ao90 t1321.length co90] rfl (by (try simp only [List.map_toArray, List.map_cons, List.map_nil]); first | done | rfl | (simp only [List.length_drop, List.length_take]; rfl)) ?_; (with_reducible refine (laws_eqIntS.calls kj50 _ _ t1362 _ _ t1321 true _ ?side1 ?side2 ?side3 ?side4 A87.out).mono ?_); (case side1 => repeat (first | exact (Kd.R_reads' HO1364.out).2.2 | (with_reducible refine Kd.C_alloc ?_ _) | (with_reducible refine Kd.C_drewN ?_ _) | (with_reducible refine Kd.C_drew ?_))); (case side2 => exact (Kd.R_reads' HO1364.out).2.1); (case side3 => repeat (first | exact (Kd.V_reads' HO_6.out).2.2 | (with_reducible refine Kd.C_alloc ?_ _) | (with_reducible refine Kd.C_drewN ?_ _) | (with_reducible refine Kd.C_drew ?_))); (case side4 => exact (Kd.V_reads' HO_6.out).2.1); rintro e w' ⟨rfl, ⟨nd, rfl⟩⟩; refine ⟨_, rfl, ?_⟩))
     go_meet
     case rel => exact ⟨_, ((t1365 != t1324)), (by first | rfl | (simp; done) | (simp [*]; done)), H', ⟨by have := HJ15.out; have := HJ50.out; first | omega | exact Nat.le_refl _⟩, ⟨by (try simp only [hl1330001_50]); (with_reducible repeat (first | apply Kd.R_alloc | apply Kd.R_drewN | apply Kd.R_drew)); exact Kd.R_mono HO_10.out (fun _ hk => trivial)⟩, ⟨by (try simp only [hl1330001_50]); (with_reducible repeat (first | apply Kd.R_alloc | apply Kd.R_drewN | apply Kd.R_drew)); exact Kd.R_mono HO_1330001.out (fun _ hk => trivial)⟩, ⟨by (try simp only [hl1330001_50]); (with_reducible repeat (first | refine blk_drewN ?_ _ | refine blk_drew ?_ | refine blk_alloc ?_ _)); exact BK1312.out⟩, ⟨by (try simp only [hl1330001_50]); (with_reducible repeat (first | refine blk_drewN ?_ _ | refine blk_drew ?_ | refine blk_alloc ?_ _)); exact BK1329.out⟩, ⟨bl2 HB GE1312 GE1329⟩⟩
    replace c88 := Bool.eq_false_iff.mpr c88
    subst c88
    rw [if_neg (show ¬ (false = true) by decide)] at H
    have H' := ak H
    clear H
    obtain ⟨Ao91, co91, eo91⟩ := Kd.R_slice HO1364.out
    subst eo91
    obtain ⟨Ao92, co92, eo92⟩ := Kd.V_slice HO_6.out
    subst eo92
    go_wp2_with (first | ((with_reducible refine gate_callee (f := 19) rfl ?_); refine goesL_ (some 102) rfl rfl Try.func19 (by kernel_rfl) rfl #[.slice Ao91 t1362.length co91, .slice Ao92 t1321.length co92] rfl (by (try simp only [List.map_toArray, List.map_cons, List.map_nil]); first | done | rfl | (simp only [List.length_drop, List.length_take]; rfl)) ?_; (with_reducible refine (laws_eqIntS.calls kj50 _ _ t1362 _ _ t1321 false _ ?side1 ?side2 ?side3 ?side4 A87.out).mono ?_); (case side1 => repeat (first | exact (Kd.R_reads' HO1364.out).2.2 | (with_reducible refine Kd.C_alloc ?_ _) | (with_reducible refine Kd.C_drewN ?_ _) | (with_reducible refine Kd.C_drew ?_))); (case side2 => exact (Kd.R_reads' HO1364.out).2.1); (case side3 => repeat (first | exact (Kd.V_reads' HO_6.out).2.2 | (with_reducible refine Kd.C_alloc ?_ _) | (with_reducible refine Kd.C_drewN ?_ _) | (with_reducible refine Kd.C_drew ?_))); (case side4 => exact (Kd.V_reads' HO_6.out).2.1); rintro e w' ⟨rfl, ⟨nd, rfl⟩⟩; refine ⟨_, rfl, ?_⟩))
    go_meet
    case rel => exact ⟨_, (true), (by first | rfl | (simp; done) | (simp [*]; done)), H', ⟨by have := HJ15.out; have := HJ50.out; first | omega | exact Nat.le_refl _⟩, ⟨by (try simp only [hl1330001_50]); (with_reducible repeat (first | apply Kd.R_alloc | apply Kd.R_drewN | apply Kd.R_drew)); exact Kd.R_mono HO_10.out (fun _ hk => trivial)⟩, ⟨by (try simp only [hl1330001_50]); (with_reducible repeat (first | apply Kd.R_alloc | apply Kd.R_drewN | apply Kd.R_drew)); exact Kd.R_mono HO_1330001.out (fun _ hk => trivial)⟩, ⟨by (try simp only [hl1330001_50]); (with_reducible repeat (first | refine blk_drewN ?_ _ | refine blk_drew ?_ | refine blk_alloc ?_ _)); exact BK1312.out⟩, ⟨by (try simp only [hl1330001_50]); (with_reducible repeat (first | refine blk_drewN ?_ _ | refine blk_drew ?_ | refine blk_alloc ?_ _)); exact BK1329.out⟩, ⟨bl2 HB GE1312 GE1329⟩⟩
   clear HC77
   try clear c1
   try clear c2
   try clear p2
   try clear c3
   try clear c3b0
   try clear c3b1
   try clear c4
   try clear c5
   try clear c6
   try clear c6b0
   try clear c7
   try clear c8
   try clear c12
   try clear c15
   try clear c17
   try clear c19
   try clear c20
   try clear c21
   try clear c22
   try clear c23
   try clear c25
   try clear c29
   try clear c37
   try clear c42
   try clear c45
   try clear c48
   try clear c50
   try clear c51
   try clear c58
   try clear c62
   try clear c62b0
   try clear c64
   try clear c69
   try clear c72
   try clear c72b0
   try clear c73
   try clear c73b0
   try clear c73b1
   try clear c80
   try clear c88
   try clear hcz18_0
   try clear hcz18_1
   try clear hcz20_0
   try clear hcz20_1
   try clear hcz26_0
   try clear hcz26_1
   try clear hcz30_0
   try clear hcz30_1
   try clear hcz33_0
   try clear hcz33_1
   try clear hcz59_0
   try clear hcz59_1
   try clear hcz81_0
   try clear hcz81_1
   try clear hcz8_0
   try clear hcz8_1
   try clear hfz18_0
   try clear hfz18_1
   try clear hfz20_0
   try clear hfz20_1
   try clear hfz26_0
   try clear hfz26_1
   try clear hfz30_0
   try clear hfz30_1
   try clear hfz33_0
   try clear hfz33_1
   try clear hfz59_0
   try clear hfz59_1
   try clear hfz81_0
   try clear hfz81_1
   try clear hfz8_0
   try clear hfz8_1
   try clear p2
   obtain ⟨kq, x108_76, rfl, HA, HJ76, HO_10, HO_1330001, BK1312, BK1329, HB⟩ := hcut
   have hl10_76 := (Kd.R_reads' HO_10.out).1
   rw [hl10_76] at HO_10
   (try simp only [hl10_76])
   (try simp only [hl10_76] at BK1312)
   (try simp only [hl10_76] at BK1329)
   (try simp only [hl10_76] at HO_1330001)
   cases kq with
   | zero => exact absurd HA.out (by simp [laws_FnExactTourBest.j2])
   | succ kj76 =>
    have H := HA.out
    clear HA
    simp only [laws_FnExactTourBest.j2] at H
    by_cases c93 : x108_76 = true
    ·subst c93
     rw [if_pos rfl] at H
     exact absurd ((Option.some.inj H).trans hr_) Bool.false_ne_true
    replace c93 := Bool.eq_false_iff.mpr c93
    subst c93
    rw [if_neg (show ¬ (false = true) by decide)] at H
    replace H := Option.bind_eq_some_iff.mp H
    obtain ⟨t1367, A940, H⟩ := H
    have A94 := ak A940
    clear A940
    by_cases c95 : t1367 < 0
    ·rw [if_pos c95] at H
     have c95b0 : decide (t1367 < 0) = true := decide_eq_true c95
     clear c95
     exact absurd ((Option.some.inj H).trans hr_) Bool.false_ne_true
    rw [if_neg c95] at H
    have c95b0 : decide (t1367 < 0) = false := decide_eq_false c95
    clear c95
    by_cases c96 : t1367 = t1352
    rotate_left
    ·rw [if_neg c96] at H
     have c96b0 : (t1367 == t1352) = false := beq_eq_false_iff_ne.mpr c96
     have c96b1 : (t1367 != t1352) = true := bne_iff_ne.mpr c96
     exact absurd ((Option.some.inj H).trans hr_) Bool.false_ne_true
    rw [if_pos c96] at H
    have c96b0 : (t1367 == t1352) = true := beq_iff_eq.mpr c96
    have c96b1 : (t1367 != t1352) = false := bne_eq_false_iff_eq.mpr c96
    clear c96
    obtain rfl := Option.some.inj H
    go_wp2_with (first | ((with_reducible refine gate_callee (f := 23) rfl ?_); refine goesL_ (some 111) rfl rfl Try.func23 (by kernel_rfl) rfl #[.slice Ao78 t1353.length co78, .int .i64 1] rfl (by (try simp only [List.map_toArray, List.map_cons, List.map_nil]); first | done | rfl | (simp only [List.length_drop, List.length_take]; rfl)) ?_; (with_reducible refine (laws_heldIntS.calls kj76 _ _ t1353 1 t1367 _ ?side1 ?side2 A94.out).mono ?_); (case side1 => repeat (first | exact (Kd.R_reads' HO_10.out).2.2 | (with_reducible refine Kd.C_alloc ?_ _) | (with_reducible refine Kd.C_drewN ?_ _) | (with_reducible refine Kd.C_drew ?_))); (case side2 => exact (Kd.R_reads' HO_10.out).2.1); rintro e w' ⟨rfl, ⟨nd, rfl⟩⟩; refine ⟨_, rfl, ?_⟩))
    go_ret
    exact ⟨by first | rfl | (simp [errW_none, errW_some] <;> rfl) | (simp [*, errW_none, errW_some] <;> rfl), bl2 HB GE1312 GE1329⟩
/-- THE ONE PURE STATEMENT of laws_FnExactTourBest. -/
def laws_FnExactTourBest.Pure : Prop := ∀ (a0_0 : Int) (l0_1 : List (S132)) (l1 : List Int), (Lit.int .i64 a0_0).wf = true → (l0_1.length ≤ 9223372036854775807 ∧ ∀ y_ ∈ l0_1, ((Lit.int .i64 y_.f0).wf = true ∧ ((Lit.int .i64 y_.f1).wf = true ∧ ((Lit.int .i64 y_.f2).wf = true ∧ ((Lit.int .i64 y_.f3).wf = true ∧ ((Lit.int .i64 y_.f4).wf = true)))))) → (l1.length ≤ 9223372036854775807 ∧ ∀ y_ ∈ l1, (Lit.int .i64 y_).wf = true) → ∃ k, laws_FnExactTourBest.f k a0_0 l0_1 l1 = some true

end Go.Proofs.Ytbappbbljncdeaa.F
