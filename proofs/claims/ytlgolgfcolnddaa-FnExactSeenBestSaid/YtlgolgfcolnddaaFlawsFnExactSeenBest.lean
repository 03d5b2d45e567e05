-- Printed by wip/px/px.py of this claim's repository (the kit's printer, extended there). Lean checks it.
import Derived.Test.YtlgolgfcolnddaaFKinds
import Derived.Test.YtlgolgfcolnddaaFlawsNet
import Derived.Test.YtlgolgfcolnddaaFlawsNet
import Derived.Test.YtlgolgfcolnddaaFlawsInt
import Derived.Test.YtlgolgfcolnddaaFlawseqIntSS
import Derived.Test.YtlgolgfcolnddaaFlawsNet
import Derived.Test.YtlgolgfcolnddaaFlawsMarkInt
import Derived.Test.YtlgolgfcolnddaaFlawsMarkInt
import Derived.Test.YtlgolgfcolnddaaFlawsmarkIntSS
import Derived.Test.YtlgolgfcolnddaaFlawsszIntSS
import Derived.Test.YtlgolgfcolnddaaFspecSeenBest
import Derived.Test.YtlgolgfcolnddaaFlawstoIntSS
import Derived.Test.YtlgolgfcolnddaaFimplSeenBest
import Derived.Test.YtlgolgfcolnddaaFlawsMarkInt
namespace Go.Proofs.Ytlgolgfcolnddaa.F
open Go.RowKit Go.Proofs.YtlgolgfcolnddaaW.PrintWords Go.Proofs.YtlgolgfcolnddaaW.PrintLast Go.Proofs.YtlgolgfcolnddaaW.PrintMore
attribute [local go_sem] max2_int min2_int max_two min_two max_three min_three max_four min_four   -- for this text's walks alone
set_option linter.unusedVariables false
set_option linter.unusedSimpArgs false

/-! ### laws_FnExactSeenBest: function 10 -/
mutual
def laws_FnExactSeenBest.j0 : Nat → List (List Int) → List Int → Int → List (List Int) → List Int → Int → Bool → Int → List (S109) → Int → List (S58) → Option (Bool)
 | 0, _, _, _, _, _, _, _, _, _, _, _ => none
 | k + 1, x1, x6, x7, x9, x10, x11, x53, x319000, x319001, x337000, x337001 => if x53 = true then (some false) else ((laws_toNet.f k x319000 x319001).bind fun bt345 => ((laws_eqNet.f k x337000 x337001 bt345.1 bt345.2).bind fun t349 => (if t349 = true then ((laws_toIntSS.f k x1).bind fun t350 => ((laws_eqIntSS.f k x9 t350).bind fun t353 => (if t353 = true then ((laws_markNet.f k x337000 x337001 1).bind fun bt354 => ((laws_markIntSS.f x9 bt354.1).bind fun t356 => (if t356 < 0 then (laws_FnExactSeenBest.j1 k x1 x6 x7 x10 true x319000 x319001) else ((laws_eqIntS.f k x10 x6).bind fun t357 => (if t357 = true then (laws_FnExactSeenBest.j1 k x1 x6 x7 x10 (x11 != x7) x319000 x319001) else (laws_FnExactSeenBest.j1 k x1 x6 x7 x10 true x319000 x319001)))))) else (some false)))) else (some false))))
def laws_FnExactSeenBest.j1 : Nat → List (List Int) → List Int → Int → List Int → Bool → Int → List (S109) → Option (Bool)
 | 0, _, _, _, _, _, _, _ => none
 | k + 1, x1, x6, x7, x10, x82, x319000, x319001 => if x82 = true then (some false) else ((laws_markIntS.f k x10 1).bind fun bt358 => ((laws_heldIntS.f k bt358.2 1).bind fun t360 => (if t360 < 0 then (some false) else (if t360 = bt358.1 then ((laws_toNet.f k x319000 x319001).bind fun bt361 => ((laws_toIntSS.f k x1).bind fun t365 => ((impl_SeenBest.f k bt361.1 bt361.2 t365).bind fun bt368 => ((laws_eqIntS.f k bt368.1 x6).bind fun t372 => (if t372 = true then (laws_FnExactSeenBest.j2 k bt358.2 bt358.1 (bt368.2 != x7)) else (laws_FnExactSeenBest.j2 k bt358.2 bt358.1 true)))))) else (some false)))))
def laws_FnExactSeenBest.j2 : Nat → List Int → Int → Bool → Option (Bool)
 | 0, _, _, _ => none
 | k + 1, x10, x13, x110 => if x110 = true then (some false) else ((laws_heldIntS.f k x10 1).bind fun t373 => (if t373 < 0 then (some false) else (if t373 = x13 then (some true) else (some false))))
end
def laws_FnExactSeenBest.f (k : Nat) (a0_0 : Int) (l0_1 : List (S109)) (l1 : List (List Int)) : Option (Bool) := (laws_szNet.f a0_0 l0_1 1048576).bind fun t319 => (if t319 < 0 then (some true) else ((laws_szIntSS.f k l1 t319).bind fun t320 => (if t320 < 0 then (some true) else ((laws_toNet.f k a0_0 l0_1).bind fun bt321 => ((laws_toIntSS.f k l1).bind fun t325 => ((spec_SeenBest.f k bt321.1 bt321.2 t325).bind fun bt328 => ((laws_toNet.f k a0_0 l0_1).bind fun bt332 => ((laws_toIntSS.f k l1).bind fun t337 => ((impl_SeenBest.f k bt332.1 bt332.2 t337).bind fun bt340 => ((laws_eqIntS.f k bt340.1 bt328.1).bind fun t344 => (if t344 = true then (laws_FnExactSeenBest.j0 k l1 bt328.1 bt328.2 t337 bt340.1 bt340.2 (bt340.2 != bt328.2) a0_0 l0_1 bt332.1 bt332.2) else (laws_FnExactSeenBest.j0 k l1 bt328.1 bt328.2 t337 bt340.1 bt340.2 true a0_0 l0_1 bt332.1 bt332.2))))))))))))
theorem laws_FnExactSeenBest.mono_l : ∀ k, (∀ y0 y1 y2 y3 y4 y5 y6 y7 y8 y9 y10, LeO (laws_FnExactSeenBest.j0 k y0 y1 y2 y3 y4 y5 y6 y7 y8 y9 y10) (laws_FnExactSeenBest.j0 (k + 1) y0 y1 y2 y3 y4 y5 y6 y7 y8 y9 y10)) ∧ (∀ y0 y1 y2 y3 y4 y5 y6, LeO (laws_FnExactSeenBest.j1 k y0 y1 y2 y3 y4 y5 y6) (laws_FnExactSeenBest.j1 (k + 1) y0 y1 y2 y3 y4 y5 y6)) ∧ (∀ y0 y1 y2, LeO (laws_FnExactSeenBest.j2 k y0 y1 y2) (laws_FnExactSeenBest.j2 (k + 1) y0 y1 y2))
 | 0 => ⟨fun _ _ _ _ _ _ _ _ _ _ _ r h => by simp [laws_FnExactSeenBest.j0] at h, fun _ _ _ _ _ _ _ r h => by simp [laws_FnExactSeenBest.j1] at h, fun _ _ _ r h => by simp [laws_FnExactSeenBest.j2] at h⟩
 | k + 1 => by
  obtain ⟨ih0, ih1, ih2⟩ := laws_FnExactSeenBest.mono_l k
  refine ⟨?_, ?_, ?_⟩
  ·intro y0 y1 y2 y3 y4 y5 y6 y7 y8 y9 y10
   unfold laws_FnExactSeenBest.j0
   repeat' first
   | (with_reducible exact ih0 _ _ _ _ _ _ _ _ _ _ _)
   | (with_reducible exact ih1 _ _ _ _ _ _ _)
   | (with_reducible exact ih2 _ _ _)
   | (with_reducible exact impl_SeenBest.mono _ _ _ _)
   | (with_reducible exact laws_eqIntS.mono _ _ _)
   | (with_reducible exact laws_eqIntSS.mono _ _ _)
   | (with_reducible exact laws_eqNet.mono _ _ _ _ _)
   | (with_reducible exact laws_heldIntS.mono _ _ _)
   | (with_reducible exact laws_markIntS.mono _ _ _)
   | (with_reducible exact laws_markNet.mono _ _ _ _)
   | (with_reducible exact laws_szIntSS.mono _ _ _)
   | (with_reducible exact laws_toIntSS.mono _ _)
   | (with_reducible exact laws_toNet.mono _ _ _)
   | (with_reducible exact spec_SeenBest.mono _ _ _ _)
   | (with_reducible exact LeO.refl _)
   | (with_reducible exact LeO.none _)
   | (with_reducible refine LeO.ite ?_ ?_)
   | (with_reducible refine LeO.bind ?_ (fun _ => ?_))
   | exact ih0 _ _ _ _ _ _ _ _ _ _ _
   | exact ih1 _ _ _ _ _ _ _
   | exact ih2 _ _ _
   | exact impl_SeenBest.mono _ _ _ _
   | exact laws_eqIntS.mono _ _ _
   | exact laws_eqIntSS.mono _ _ _
   | exact laws_eqNet.mono _ _ _ _ _
   | exact laws_heldIntS.mono _ _ _
   | exact laws_markIntS.mono _ _ _
   | exact laws_markNet.mono _ _ _ _
   | exact laws_szIntSS.mono _ _ _
   | exact laws_toIntSS.mono _ _
   | exact laws_toNet.mono _ _ _
   | exact spec_SeenBest.mono _ _ _ _
   | exact LeO.none _
   | refine LeO.ite ?_ ?_
   | refine LeO.bind ?_ (fun _ => ?_)
  ·intro y0 y1 y2 y3 y4 y5 y6
   unfold laws_FnExactSeenBest.j1
   repeat' first
   | (with_reducible exact ih0 _ _ _ _ _ _ _ _ _ _ _)
   | (with_reducible exact ih1 _ _ _ _ _ _ _)
   | (with_reducible exact ih2 _ _ _)
   | (with_reducible exact impl_SeenBest.mono _ _ _ _)
   | (with_reducible exact laws_eqIntS.mono _ _ _)
   | (with_reducible exact laws_eqIntSS.mono _ _ _)
   | (with_reducible exact laws_eqNet.mono _ _ _ _ _)
   | (with_reducible exact laws_heldIntS.mono _ _ _)
   | (with_reducible exact laws_markIntS.mono _ _ _)
   | (with_reducible exact laws_markNet.mono _ _ _ _)
   | (with_reducible exact laws_szIntSS.mono _ _ _)
   | (with_reducible exact laws_toIntSS.mono _ _)
   | (with_reducible exact laws_toNet.mono _ _ _)
   | (with_reducible exact spec_SeenBest.mono _ _ _ _)
   | (with_reducible exact LeO.refl _)
   | (with_reducible exact LeO.none _)
   | (with_reducible refine LeO.ite ?_ ?_)
   | (with_reducible refine LeO.bind ?_ (fun _ => ?_))
   | exact ih0 _ _ _ _ _ _ _ _ _ _ _
   | exact ih1 _ _ _ _ _ _ _
   | exact ih2 _ _ _
   | exact impl_SeenBest.mono _ _ _ _
   | exact laws_eqIntS.mono _ _ _
   | exact laws_eqIntSS.mono _ _ _
   | exact laws_eqNet.mono _ _ _ _ _
   | exact laws_heldIntS.mono _ _ _
   | exact laws_markIntS.mono _ _ _
   | exact laws_markNet.mono _ _ _ _
   | exact laws_szIntSS.mono _ _ _
   | exact laws_toIntSS.mono _ _
   | exact laws_toNet.mono _ _ _
   | exact spec_SeenBest.mono _ _ _ _
   | exact LeO.none _
   | refine LeO.ite ?_ ?_
   | refine LeO.bind ?_ (fun _ => ?_)
  ·intro y0 y1 y2
   unfold laws_FnExactSeenBest.j2
   repeat' first
   | (with_reducible exact ih0 _ _ _ _ _ _ _ _ _ _ _)
   | (with_reducible exact ih1 _ _ _ _ _ _ _)
   | (with_reducible exact ih2 _ _ _)
   | (with_reducible exact impl_SeenBest.mono _ _ _ _)
   | (with_reducible exact laws_eqIntS.mono _ _ _)
   | (with_reducible exact laws_eqIntSS.mono _ _ _)
   | (with_reducible exact laws_eqNet.mono _ _ _ _ _)
   | (with_reducible exact laws_heldIntS.mono _ _ _)
   | (with_reducible exact laws_markIntS.mono _ _ _)
   | (with_reducible exact laws_markNet.mono _ _ _ _)
   | (with_reducible exact laws_szIntSS.mono _ _ _)
   | (with_reducible exact laws_toIntSS.mono _ _)
   | (with_reducible exact laws_toNet.mono _ _ _)
   | (with_reducible exact spec_SeenBest.mono _ _ _ _)
   | (with_reducible exact LeO.refl _)
   | (with_reducible exact LeO.none _)
   | (with_reducible refine LeO.ite ?_ ?_)
   | (with_reducible refine LeO.bind ?_ (fun _ => ?_))
   | exact ih0 _ _ _ _ _ _ _ _ _ _ _
   | exact ih1 _ _ _ _ _ _ _
   | exact ih2 _ _ _
   | exact impl_SeenBest.mono _ _ _ _
   | exact laws_eqIntS.mono _ _ _
   | exact laws_eqIntSS.mono _ _ _
   | exact laws_eqNet.mono _ _ _ _ _
   | exact laws_heldIntS.mono _ _ _
   | exact laws_markIntS.mono _ _ _
   | exact laws_markNet.mono _ _ _ _
   | exact laws_szIntSS.mono _ _ _
   | exact laws_toIntSS.mono _ _
   | exact laws_toNet.mono _ _ _
   | exact spec_SeenBest.mono _ _ _ _
   | exact LeO.none _
   | refine LeO.ite ?_ ?_
   | refine LeO.bind ?_ (fun _ => ?_)
theorem laws_FnExactSeenBest.mono : ∀ a0 a1 a2 k, LeO (laws_FnExactSeenBest.f k a0 a1 a2) (laws_FnExactSeenBest.f (k + 1) a0 a1 a2) := by
 intro a0 a1 a2 k
 obtain ⟨ih0, ih1, ih2⟩ := laws_FnExactSeenBest.mono_l k
 unfold laws_FnExactSeenBest.f
 repeat' first
   | (with_reducible exact ih0 _ _ _ _ _ _ _ _ _ _ _)
   | (with_reducible exact ih1 _ _ _ _ _ _ _)
   | (with_reducible exact ih2 _ _ _)
   | (with_reducible exact impl_SeenBest.mono _ _ _ _)
   | (with_reducible exact laws_eqIntS.mono _ _ _)
   | (with_reducible exact laws_eqIntSS.mono _ _ _)
   | (with_reducible exact laws_eqNet.mono _ _ _ _ _)
   | (with_reducible exact laws_heldIntS.mono _ _ _)
   | (with_reducible exact laws_markIntS.mono _ _ _)
   | (with_reducible exact laws_markNet.mono _ _ _ _)
   | (with_reducible exact laws_szIntSS.mono _ _ _)
   | (with_reducible exact laws_toIntSS.mono _ _)
   | (with_reducible exact laws_toNet.mono _ _ _)
   | (with_reducible exact spec_SeenBest.mono _ _ _ _)
   | (with_reducible exact LeO.refl _)
   | (with_reducible exact LeO.none _)
   | (with_reducible refine LeO.ite ?_ ?_)
   | (with_reducible refine LeO.bind ?_ (fun _ => ?_))
   | exact ih0 _ _ _ _ _ _ _ _ _ _ _
   | exact ih1 _ _ _ _ _ _ _
   | exact ih2 _ _ _
   | exact impl_SeenBest.mono _ _ _ _
   | exact laws_eqIntS.mono _ _ _
   | exact laws_eqIntSS.mono _ _ _
   | exact laws_eqNet.mono _ _ _ _ _
   | exact laws_heldIntS.mono _ _ _
   | exact laws_markIntS.mono _ _ _
   | exact laws_markNet.mono _ _ _ _
   | exact laws_szIntSS.mono _ _ _
   | exact laws_toIntSS.mono _ _
   | exact laws_toNet.mono _ _ _
   | exact spec_SeenBest.mono _ _ _ _
   | exact LeO.none _
   | refine LeO.ite ?_ ?_
   | refine LeO.bind ?_ (fun _ => ?_)
set_option maxHeartbeats 8000000 in
set_option maxRecDepth 100000 in
theorem laws_FnExactSeenBest.calls (k : Nat) (a0_0 : Int) (A0_1 : Option Addr) (c0_1 : Nat) (l0_1 : List (S109)) (A1 : Option Addr) (c1 : Nat) (l1 : List (List Int)) (r : Bool) (w : World) (hr0_1 : Kd.C k109 w A0_1 l0_1.length l0_1) (hc0_1 : l0_1.length ≤ c0_1) (hr1 : Kd.C (Kd.slice 3 (Kd.int .i64)) w A1 l1.length l1) (hc1 : l1.length ≤ c1) (h : laws_FnExactSeenBest.f k a0_0 l0_1 l1 = some r) (hr_ : r = true) :
  Calls Try.prog 10 #[.agg #[.int .i64 a0_0, .slice A0_1 l0_1.length c0_1], .slice A1 l1.length c1] w fun e w' => e = .returned (.bool r) ∧ Below w.heap.size w w' := by
 have hu39 := Try.underlying39
 have hu25 := Try.underlying25
 have HR0_1 := ak hr0_1
 have HC0_1 := ak hc0_1
 clear hr0_1 hc0_1
 have HR1 := ak hr1
 have HC1 := ak hc1
 clear hr1 hc1
 have HB := ak (Below.refl w.heap.size w)
 have H : ((laws_szNet.f a0_0 l0_1 1048576).bind fun t319 => (if t319 < 0 then (some true) else ((laws_szIntSS.f k l1 t319).bind fun t320 => (if t320 < 0 then (some true) else ((laws_toNet.f k a0_0 l0_1).bind fun bt321 => ((laws_toIntSS.f k l1).bind fun t325 => ((spec_SeenBest.f k bt321.1 bt321.2 t325).bind fun bt328 => ((laws_toNet.f k a0_0 l0_1).bind fun bt332 => ((laws_toIntSS.f k l1).bind fun t337 => ((impl_SeenBest.f k bt332.1 bt332.2 t337).bind fun bt340 => ((laws_eqIntS.f k bt340.1 bt328.1).bind fun t344 => (if t344 = true then (laws_FnExactSeenBest.j0 k l1 bt328.1 bt328.2 t337 bt340.1 bt340.2 (bt340.2 != bt328.2) a0_0 l0_1 bt332.1 bt332.2) else (laws_FnExactSeenBest.j0 k l1 bt328.1 bt328.2 t337 bt340.1 bt340.2 true a0_0 l0_1 bt332.1 bt332.2))))))))))))) = some r := h
 clear h
 replace H := Option.bind_eq_some_iff.mp H
 obtain ⟨t319, A30, H⟩ := H
 have A3 := ak A30
 clear A30
 by_cases c4 : t319 < 0
 ·rw [if_pos c4] at H
  have c4b0 : decide (t319 < 0) = true := decide_eq_true c4
  clear c4
  obtain rfl := Option.some.inj H
  go_enter Try.func10, Try.ntmps10
  go_wp2_with (first | ((with_reducible refine gate_dst (N := 2) rfl ?_); refine box_event ?hg (N := 2) ?hd (cs := #[.int .i64 a0_0, .slice A0_1 l0_1.length c0_1]) (t := 39) ?hr ?_; (case hd => rfl); (case hg => rfl); (case hr => first | (go_simp; done) | (go_simp; rfl)); intro gb318 hg w5 hbox hb; have BK318 := ak (hbox); have GW318 := ak ((by rw [hg]; exact (below_size (bl HB)) : w.heap.size ≤ gb318)); have GE318 := ak ((by rw [hg]; exact (below_size (bl HB)) : w.heap.size ≤ gb318)); replace HB := ak (below_step (bl HB) hb); clear hb hbox hg; have hcz6_0 := bc w5 BK318 0 (.int .i64 a0_0) rfl; have hcz6_1 := bc w5 BK318 1 (.slice A0_1 l0_1.length c0_1) rfl; have hfz6_0 := fz BK318 0; have hfz6_1 := fz BK318 1) | ((with_reducible refine gate_callee (f := 19) rfl ?_); refine goesL_ (some 19) rfl rfl Try.func19 (by kernel_rfl) rfl #[.agg #[.int .i64 a0_0, .slice A0_1 l0_1.length c0_1], .int .i64 1048576] rfl (by (try simp only [List.map_toArray, List.map_cons, List.map_nil]); first | done | rfl | (simp only [List.length_drop, List.length_take]; rfl)) ?_; (with_reducible refine (laws_szNet.calls a0_0 _ _ l0_1 1048576 t319 _ ?side1 ?side2 A3.out).mono ?_); (case side1 => repeat (first | exact (Kd.C_below HR0_1.out HB.out) | (with_reducible refine Kd.C_alloc ?_ _) | (with_reducible refine Kd.C_drewN ?_ _) | (with_reducible refine Kd.C_drew ?_))); (case side2 => exact HC0_1.out); rintro e w7 ⟨rfl, hb⟩; refine ⟨_, rfl, ?_⟩; replace BK318 := ak (blk_below (bk BK318) hb); replace HB := ak (below_step (bl1 HB GE318) hb); (try clear hb); (try clear hb2); (try clear hk); (try clear hi)))
  go_ret
  exact ⟨by first | rfl | (simp [errW_none, errW_some] <;> rfl) | (simp [*, errW_none, errW_some] <;> rfl), bl1 HB GE318⟩
 rw [if_neg c4] at H
 have c4b0 : decide (t319 < 0) = false := decide_eq_false c4
 clear c4
 replace H := Option.bind_eq_some_iff.mp H
 obtain ⟨t320, A80, H⟩ := H
 have A8 := ak A80
 clear A80
 by_cases c9 : t320 < 0
 ·rw [if_pos c9] at H
  have c9b0 : decide (t320 < 0) = true := decide_eq_true c9
  clear c9
  obtain rfl := Option.some.inj H
  go_enter Try.func10, Try.ntmps10
  go_wp2_with (first | ((with_reducible refine gate_dst (N := 2) rfl ?_); refine box_event ?hg (N := 2) ?hd (cs := #[.int .i64 a0_0, .slice A0_1 l0_1.length c0_1]) (t := 39) ?hr ?_; (case hd => rfl); (case hg => rfl); (case hr => first | (go_simp; done) | (go_simp; rfl)); intro gb318 hg w10 hbox hb; have BK318 := ak (hbox); have GW318 := ak ((by rw [hg]; exact (below_size (bl HB)) : w.heap.size ≤ gb318)); have GE318 := ak ((by rw [hg]; exact (below_size (bl HB)) : w.heap.size ≤ gb318)); replace HB := ak (below_step (bl HB) hb); clear hb hbox hg; have hcz11_0 := bc w10 BK318 0 (.int .i64 a0_0) rfl; have hcz11_1 := bc w10 BK318 1 (.slice A0_1 l0_1.length c0_1) rfl; have hfz11_0 := fz BK318 0; have hfz11_1 := fz BK318 1) | ((with_reducible refine gate_callee (f := 19) rfl ?_); refine goesL_ (some 19) rfl rfl Try.func19 (by kernel_rfl) rfl #[.agg #[.int .i64 a0_0, .slice A0_1 l0_1.length c0_1], .int .i64 1048576] rfl (by (try simp only [List.map_toArray, List.map_cons, List.map_nil]); first | done | rfl | (simp only [List.length_drop, List.length_take]; rfl)) ?_; (with_reducible refine (laws_szNet.calls a0_0 _ _ l0_1 1048576 t319 _ ?side1 ?side2 A3.out).mono ?_); (case side1 => repeat (first | exact (Kd.C_below HR0_1.out HB.out) | (with_reducible refine Kd.C_alloc ?_ _) | (with_reducible refine Kd.C_drewN ?_ _) | (with_reducible refine Kd.C_drew ?_))); (case side2 => exact HC0_1.out); rintro e w12 ⟨rfl, hb⟩; refine ⟨_, rfl, ?_⟩; replace BK318 := ak (blk_below (bk BK318) hb); replace HB := ak (below_step (bl1 HB GE318) hb); (try clear hb); (try clear hb2); (try clear hk); (try clear hi)) | ((with_reducible refine gate_callee (f := 37) rfl ?_); refine goesL_ (some 24) rfl rfl Try.func37 (by kernel_rfl) rfl #[.slice A1 l1.length c1, .int .i64 t319] rfl (by (try simp only [List.map_toArray, List.map_cons, List.map_nil]); first | done | rfl | (simp only [List.length_drop, List.length_take]; rfl)) ?_; (with_reducible refine (laws_szIntSS.calls k _ _ l1 t319 t320 _ ?side1 ?side2 A8.out).mono ?_); (case side1 => repeat (first | exact (Kd.C_below HR1.out HB.out) | (with_reducible refine Kd.C_alloc ?_ _) | (with_reducible refine Kd.C_drewN ?_ _) | (with_reducible refine Kd.C_drew ?_))); (case side2 => exact HC1.out); rintro e w' ⟨rfl, ⟨nd, rfl⟩⟩; refine ⟨_, rfl, ?_⟩))
  go_ret
  exact ⟨by first | rfl | (simp [errW_none, errW_some] <;> rfl) | (simp [*, errW_none, errW_some] <;> rfl), bl1 HB GE318⟩
 rw [if_neg c9] at H
 have c9b0 : decide (t320 < 0) = false := decide_eq_false c9
 clear c9
 replace H := Option.bind_eq_some_iff.mp H
 obtain ⟨⟨t321, t322⟩, A130, H⟩ := H
 have A13 := ak A130
 clear A130
 replace H := Option.bind_eq_some_iff.mp H
 obtain ⟨t325, A140, H⟩ := H
 have A14 := ak A140
 clear A140
 replace H := Option.bind_eq_some_iff.mp H
 obtain ⟨⟨t328, t331⟩, A150, H⟩ := H
 have A15 := ak A150
 clear A150
 replace H := Option.bind_eq_some_iff.mp H
 obtain ⟨⟨t332, t333⟩, A160, H⟩ := H
 have A16 := ak A160
 clear A160
 replace H := Option.bind_eq_some_iff.mp H
 obtain ⟨t337, A170, H⟩ := H
 have A17 := ak A170
 clear A170
 replace H := Option.bind_eq_some_iff.mp H
 obtain ⟨⟨t340, t343⟩, A180, H⟩ := H
 have A18 := ak A180
 clear A180
 have HC19 := ak H
 clear H
 go_enter Try.func10, Try.ntmps10
 go_upto_region 12 with (first | ((with_reducible refine gate_dst (N := 2) rfl ?_); refine box_event ?hg (N := 2) ?hd (cs := #[.int .i64 a0_0, .slice A0_1 l0_1.length c0_1]) (t := 39) ?hr ?_; (case hd => rfl); (case hg => rfl); (case hr => first | (go_simp; done) | (go_simp; rfl)); intro gb318 hg w20 hbox hb; have BK318 := ak (hbox); have GW318 := ak ((by rw [hg]; exact (below_size (bl HB)) : w.heap.size ≤ gb318)); have GE318 := ak ((by rw [hg]; exact (below_size (bl HB)) : w.heap.size ≤ gb318)); replace HB := ak (below_step (bl HB) hb); clear hb hbox hg; have hcz21_0 := bc w20 BK318 0 (.int .i64 a0_0) rfl; have hcz21_1 := bc w20 BK318 1 (.slice A0_1 l0_1.length c0_1) rfl; have hfz21_0 := fz BK318 0; have hfz21_1 := fz BK318 1) | ((with_reducible refine gate_callee (f := 19) rfl ?_); refine goesL_ (some 19) rfl rfl Try.func19 (by kernel_rfl) rfl #[.agg #[.int .i64 a0_0, .slice A0_1 l0_1.length c0_1], .int .i64 1048576] rfl (by (try simp only [List.map_toArray, List.map_cons, List.map_nil]); first | done | rfl | (simp only [List.length_drop, List.length_take]; rfl)) ?_; (with_reducible refine (laws_szNet.calls a0_0 _ _ l0_1 1048576 t319 _ ?side1 ?side2 A3.out).mono ?_); (case side1 => repeat (first | exact (Kd.C_below HR0_1.out HB.out) | (with_reducible refine Kd.C_alloc ?_ _) | (with_reducible refine Kd.C_drewN ?_ _) | (with_reducible refine Kd.C_drew ?_))); (case side2 => exact HC0_1.out); rintro e w22 ⟨rfl, hb⟩; refine ⟨_, rfl, ?_⟩; replace BK318 := ak (blk_below (bk BK318) hb); replace HB := ak (below_step (bl1 HB GE318) hb); (try clear hb); (try clear hb2); (try clear hk); (try clear hi)) | ((with_reducible refine gate_callee (f := 37) rfl ?_); refine goesL_ (some 24) rfl rfl Try.func37 (by kernel_rfl) rfl #[.slice A1 l1.length c1, .int .i64 t319] rfl (by (try simp only [List.map_toArray, List.map_cons, List.map_nil]); first | done | rfl | (simp only [List.length_drop, List.length_take]; rfl)) ?_; (with_reducible refine (laws_szIntSS.calls k _ _ l1 t319 t320 _ ?side1 ?side2 A8.out).mono ?_); (case side1 => repeat (first | exact (Kd.C_below HR1.out HB.out) | (with_reducible refine Kd.C_alloc ?_ _) | (with_reducible refine Kd.C_drewN ?_ _) | (with_reducible refine Kd.C_drew ?_))); (case side2 => exact HC1.out); rintro e w' ⟨rfl, ⟨nd, rfl⟩⟩; refine ⟨_, rfl, ?_⟩; (try (rw [drewN_self w22]; generalize hq_ : World.drewN w22 _ = w22; have n0_ := ak (blk_at hq_ BK318.out); have n1_ := ak (below_at hq_ HB.out); clear hq_ BK318 HB; have BK318 := n0_; have HB := n1_; clear n0_ n1_)); have hcz23_0 := bc w22 BK318 0 (.int .i64 a0_0) rfl; have hcz23_1 := bc w22 BK318 1 (.slice A0_1 l0_1.length c0_1) rfl; have hfz23_0 := fz BK318 0; have hfz23_1 := fz BK318 1) | ((with_reducible refine gate_callee (f := 20) rfl ?_); refine goesL_ (some 29) rfl rfl Try.func20 (by kernel_rfl) rfl #[.agg #[.int .i64 a0_0, .slice A0_1 l0_1.length c0_1]] rfl (by (try simp only [List.map_toArray, List.map_cons, List.map_nil]); first | done | rfl | (simp only [List.length_drop, List.length_take]; rfl)) ?_; (with_reducible refine (laws_toNet.calls k a0_0 _ _ l0_1 t321 t322 _ ?side1 ?side2 A13.out).mono ?_); (case side1 => repeat (first | exact (Kd.C_below HR0_1.out HB.out) | (with_reducible refine Kd.C_alloc ?_ _) | (with_reducible refine Kd.C_drewN ?_ _) | (with_reducible refine Kd.C_drew ?_))); (case side2 => exact HC0_1.out); rintro e w24 ⟨v323, rfl, ho0, hb⟩; refine ⟨_, rfl, ?_⟩; have HO324 := ak (Kd.R_lower ho0 (below_size (bl1 HB GE318))); replace BK318 := ak (blk_below (bk BK318) hb); replace HB := ak (below_step (bl1 HB GE318) hb); (try clear hb); (try clear hb2); (try clear hk); (try clear hi); (try clear ho0)) | ((with_reducible refine gate_callee (f := 39) rfl ?_); refine goesL_ (some 31) rfl rfl Try.func39 (by kernel_rfl) rfl #[.slice A1 l1.length c1] rfl (by (try simp only [List.map_toArray, List.map_cons, List.map_nil]); first | done | rfl | (simp only [List.length_drop, List.length_take]; rfl)) ?_; (with_reducible refine (laws_toIntSS.calls k _ _ l1 t325 _ ?side1 ?side2 A14.out).mono ?_); (case side1 => repeat (first | exact (Kd.C_below HR1.out HB.out) | (with_reducible refine Kd.C_alloc ?_ _) | (with_reducible refine Kd.C_drewN ?_ _) | (with_reducible refine Kd.C_drew ?_))); (case side2 => exact HC1.out); rintro e w25 ⟨v326, rfl, ho0, hb⟩; refine ⟨_, rfl, ?_⟩; replace HO324 := ak (Kd.R_below (rk HO324) hb); have HO327 := ak (Kd.S_lower ho0 (below_size (bl1 HB GE318))); replace BK318 := ak (blk_below (bk BK318) hb); replace HB := ak (below_step (bl1 HB GE318) hb); (try clear hb); (try clear hb2); (try clear hk); (try clear hi); (try clear ho0); obtain ⟨Ao26, co26, eo26⟩ := Kd.R_slice HO324.out; subst eo26; obtain ⟨Ao27, co27, eo27⟩ := Kd.S_slice HO327.out; subst eo27) | ((with_reducible refine gate_callee (f := 38) rfl ?_); refine goesL_ (some 32) rfl rfl Try.func38 (by kernel_rfl) rfl #[.agg #[.int .i64 t321, .slice Ao26 t322.length co26], .slice Ao27 t325.length co27] rfl (by (try simp only [List.map_toArray, List.map_cons, List.map_nil]); first | done | rfl | (simp only [List.length_drop, List.length_take]; rfl)) ?_; (with_reducible refine (spec_SeenBest.calls k t321 _ _ t322 _ _ t325 t328 t331 _ ?side1 ?side2 ?side3 ?side4 A15.out).mono ?_); (case side1 => repeat (first | exact (Kd.R_reads' HO324.out).2.2 | (with_reducible refine Kd.C_alloc ?_ _) | (with_reducible refine Kd.C_drewN ?_ _) | (with_reducible refine Kd.C_drew ?_))); (case side2 => exact (Kd.R_reads' HO324.out).2.1); (case side3 => repeat (first | exact (Kd.S_reads' HO327.out).2.2 | (with_reducible refine Kd.C_alloc ?_ _) | (with_reducible refine Kd.C_drewN ?_ _) | (with_reducible refine Kd.C_drew ?_))); (case side4 => exact (Kd.S_reads' HO327.out).2.1); rintro e w28 ⟨v329, rfl, ho0, hb⟩; refine ⟨_, rfl, ?_⟩; replace HO324 := ak (Kd.R_below (rk HO324) hb); replace HO327 := ak (Kd.S_elder' (by (with_reducible repeat (first | apply Kd.S_alloc | apply Kd.S_drewN | apply Kd.S_drew)); exact HO327.out) (Kd.R_base ho0) hb); have HO330 := ak (Kd.R_lower ho0 (below_size (bl1 HB GE318))); replace BK318 := ak (blk_below (bk BK318) hb); replace HB := ak (below_step (bl1 HB GE318) hb); (try clear hb); (try clear hb2); (try clear hk); (try clear hi); (try clear ho0); have hcz29_0 := bc w28 BK318 0 (.int .i64 a0_0) rfl; have hcz29_1 := bc w28 BK318 1 (.slice A0_1 l0_1.length c0_1) rfl; have hfz29_0 := fz BK318 0; have hfz29_1 := fz BK318 1) | ((with_reducible refine gate_callee (f := 20) rfl ?_); refine goesL_ (some 36) rfl rfl Try.func20 (by kernel_rfl) rfl #[.agg #[.int .i64 a0_0, .slice A0_1 l0_1.length c0_1]] rfl (by (try simp only [List.map_toArray, List.map_cons, List.map_nil]); first | done | rfl | (simp only [List.length_drop, List.length_take]; rfl)) ?_; (with_reducible refine (laws_toNet.calls k a0_0 _ _ l0_1 t332 t333 _ ?side1 ?side2 A16.out).mono ?_); (case side1 => repeat (first | exact (Kd.C_below HR0_1.out HB.out) | (with_reducible refine Kd.C_alloc ?_ _) | (with_reducible refine Kd.C_drewN ?_ _) | (with_reducible refine Kd.C_drew ?_))); (case side2 => exact HC0_1.out); rintro e w30 ⟨v334, rfl, ho0, hb⟩; refine ⟨_, rfl, ?_⟩; replace HO327 := ak (Kd.S_below (by (with_reducible repeat (first | apply Kd.S_alloc | apply Kd.S_drewN | apply Kd.S_drew)); exact HO327.out) hb); replace HO330 := ak (Kd.R_below (rk HO330) hb); have HO335 := ak (Kd.R_lower (Kd.R_new' ho0 (Kd.R_lt (rk HO324))) (below_size (bl1 HB GE318))); replace HO324 := ak (Kd.R_elder' (rk HO324) (Kd.R_base ho0) hb); replace BK318 := ak (blk_below (bk BK318) hb); replace HB := ak (below_step (bl1 HB GE318) hb); (try clear hb); (try clear hb2); (try clear hk); (try clear hi); (try clear ho0)) | ((with_reducible refine gate_dst (N := 8) rfl ?_); refine box_event ?hg (N := 8) ?hd (cs := #[.int .i64 0, .slice none 0 0]) (t := 25) ?hr ?_; (case hd => rfl); (case hg => rfl); (case hr => first | (go_simp; done) | (go_simp; rfl)); intro gb336 hg w31 hbox hb; replace HO324 := ak (Kd.R_below (rk HO324) hb); replace HO327 := ak (Kd.S_below (by (with_reducible repeat (first | apply Kd.S_alloc | apply Kd.S_drewN | apply Kd.S_drew)); exact HO327.out) hb); replace HO330 := ak (Kd.R_below (rk HO330) hb); replace HO335 := ak (Kd.R_below (rk HO335) hb); have BK336 := ak (hbox); have GW336 := ak ((by rw [hg]; exact (below_size (bl1 HB GE318)) : w.heap.size ≤ gb336)); have GE336 := ak ((by rw [hg]; exact (below_size (bl1 HB GE318)) : w.heap.size ≤ gb336)); replace HB := ak (below_step (bl1 HB GE318) hb); have NB318_336 := ak ((by rw [hg]; exact Nat.ne_of_lt (blk_lt (bk BK318)) : gb318 ≠ gb336)); have NB336_318 := ak ((by rw [hg]; exact Nat.ne_of_gt (blk_lt (bk BK318)) : gb336 ≠ gb318)); replace BK318 := ak (blk_below (bk BK318) hb); clear hb hbox hg; have hnb32 := NB336_318.out; have hnc32 := NB318_336.out; have hcz33_0 := bc w31 BK336 0 (.int .i64 0) rfl; have hcz33_1 := bc w31 BK336 1 (.slice none 0 0) rfl; have hfz33_0 := fz BK336 0; have hfz33_1 := fz BK336 1; obtain ⟨Ao34, co34, eo34⟩ := Kd.R_slice HO335.out; subst eo34) | ((with_reducible refine gate_callee (f := 39) rfl ?_); refine goesL_ (some 38) rfl rfl Try.func39 (by kernel_rfl) rfl #[.slice A1 l1.length c1] rfl (by (try simp only [List.map_toArray, List.map_cons, List.map_nil]); first | done | rfl | (simp only [List.length_drop, List.length_take]; rfl)) ?_; (with_reducible refine (laws_toIntSS.calls k _ _ l1 t337 _ ?side1 ?side2 A17.out).mono ?_); (case side1 => exact Kd.C_below HR1.out (bl2 HB GE318 GE336)); (case side2 => exact HC1.out); rintro e w35 ⟨v338, rfl, ho0, hb⟩; refine ⟨_, rfl, ?_⟩; replace HO324 := ak (Kd.R_below (by (with_reducible repeat (first | apply Kd.R_alloc | apply Kd.R_drewN | apply Kd.R_drew)); exact (Kd.R_mono (Kd.R_far (p := ⟨gb336, 1, none⟩) (Kd.R_far (p := ⟨gb336, 0, none⟩) (Kd.R_types HO324.out BK336.out (by decide)) (fun _ hk => hk.2) (.int .i64 t332)) (fun _ hk => hk.2) (.slice Ao34 t333.length co34)) (fun _ h_ => h_.1))) hb); replace HO335 := ak (Kd.R_below (by (with_reducible repeat (first | apply Kd.R_alloc | apply Kd.R_drewN | apply Kd.R_drew)); exact (Kd.R_mono (Kd.R_far (p := ⟨gb336, 1, none⟩) (Kd.R_far (p := ⟨gb336, 0, none⟩) (Kd.R_types HO335.out BK336.out (by decide)) (fun _ hk => hk.2) (.int .i64 t332)) (fun _ hk => hk.2) (.slice Ao34 t333.length co34)) (fun _ h_ => h_.1))) hb); have HO339 := ak (Kd.S_lower (Kd.S_new' (Kd.S_new' ho0 (Kd.S_lt (by (with_reducible repeat (first | apply Kd.S_alloc | apply Kd.S_drewN | apply Kd.S_drew)); exact (Kd.S_mono (Kd.S_far (p := ⟨gb336, 1, none⟩) (Kd.S_far (p := ⟨gb336, 0, none⟩) (Kd.S_types HO327.out BK336.out (by decide)) (fun _ hk => hk.2) (.int .i64 t332)) (fun _ hk => hk.2) (.slice Ao34 t333.length co34)) (fun _ h_ => h_.1))))) (Kd.R_lt (by (with_reducible repeat (first | apply Kd.R_alloc | apply Kd.R_drewN | apply Kd.R_drew)); exact (Kd.R_mono (Kd.R_far (p := ⟨gb336, 1, none⟩) (Kd.R_far (p := ⟨gb336, 0, none⟩) (Kd.R_types HO330.out BK336.out (by decide)) (fun _ hk => hk.2) (.int .i64 t332)) (fun _ hk => hk.2) (.slice Ao34 t333.length co34)) (fun _ h_ => h_.1))))) (below_size (bl2 HB GE318 GE336))); replace HO327 := ak (Kd.S_elder' (by (with_reducible repeat (first | apply Kd.S_alloc | apply Kd.S_drewN | apply Kd.S_drew)); exact (Kd.S_mono (Kd.S_far (p := ⟨gb336, 1, none⟩) (Kd.S_far (p := ⟨gb336, 0, none⟩) (Kd.S_types HO327.out BK336.out (by decide)) (fun _ hk => hk.2) (.int .i64 t332)) (fun _ hk => hk.2) (.slice Ao34 t333.length co34)) (fun _ h_ => h_.1))) (Kd.S_base ho0) hb); replace HO330 := ak (Kd.R_below (by (with_reducible repeat (first | apply Kd.R_alloc | apply Kd.R_drewN | apply Kd.R_drew)); exact (Kd.R_mono (Kd.R_far (p := ⟨gb336, 1, none⟩) (Kd.R_far (p := ⟨gb336, 0, none⟩) (Kd.R_types HO330.out BK336.out (by decide)) (fun _ hk => hk.2) (.int .i64 t332)) (fun _ hk => hk.2) (.slice Ao34 t333.length co34)) (fun _ h_ => h_.1))) hb); replace BK318 := ak (blk_below (g := gb318) (o := .cells #[.int .i64 a0_0, .slice A0_1 l0_1.length c0_1] 39 (0, 0)) (by (with_reducible repeat (first | refine blk_drewN ?_ _ | refine blk_drew ?_ | refine blk_alloc ?_ _)); refine blk_far ?_ NB318_336.out _; refine blk_far ?_ NB318_336.out _; (with_reducible repeat (first | refine blk_drewN ?_ _ | refine blk_drew ?_ | refine blk_alloc ?_ _)); exact BK318.out) hb); replace BK336 := ak (blk_below (g := gb336) (o := .cells #[.int .i64 t332, .slice Ao34 t333.length co34] 25 (0, 0)) (by (with_reducible repeat (first | refine blk_drewN ?_ _ | refine blk_drew ?_ | refine blk_alloc ?_ _)); refine blk_put (cs := #[.int .i64 t332, .slice none 0 0]) ?_ 1 _ rfl; refine blk_put (cs := #[.int .i64 0, .slice none 0 0]) ?_ 0 _ rfl; (with_reducible repeat (first | refine blk_drewN ?_ _ | refine blk_drew ?_ | refine blk_alloc ?_ _)); exact BK336.out) hb); replace HB := ak (below_step (bl2 HB GE318 GE336) hb); (try clear hb); (try clear hb2); (try clear hk); (try clear hi); (try clear ho0); have hcz36_0 := bc w35 BK336 0 (.int .i64 t332) rfl; have hcz36_1 := bc w35 BK336 1 (.slice Ao34 t333.length co34) rfl; have hfz36_0 := fz BK336 0; have hfz36_1 := fz BK336 1; obtain ⟨Ao37, co37, eo37⟩ := Kd.S_slice HO339.out; subst eo37) | ((with_reducible refine gate_callee (f := 40) rfl ?_); refine goesL_ (some 42) rfl rfl Try.func40 (by kernel_rfl) rfl #[.agg #[.int .i64 t332, .slice Ao34 t333.length co34], .slice Ao37 t337.length co37] rfl (by (try simp only [List.map_toArray, List.map_cons, List.map_nil]); first | done | rfl | (simp only [List.length_drop, List.length_take]; rfl)) ?_; (with_reducible refine (impl_SeenBest.calls k t332 _ _ t333 _ _ t337 t340 t343 _ ?side1 ?side2 ?side3 ?side4 A18.out).mono ?_); (case side1 => repeat (first | exact (Kd.R_reads' HO335.out).2.2 | (with_reducible refine Kd.C_alloc ?_ _) | (with_reducible refine Kd.C_drewN ?_ _) | (with_reducible refine Kd.C_drew ?_))); (case side2 => exact (Kd.R_reads' HO335.out).2.1); (case side3 => repeat (first | exact (Kd.S_reads' HO339.out).2.2 | (with_reducible refine Kd.C_alloc ?_ _) | (with_reducible refine Kd.C_drewN ?_ _) | (with_reducible refine Kd.C_drew ?_))); (case side4 => exact (Kd.S_reads' HO339.out).2.1); rintro e w38 ⟨v341, rfl, ho0, hb⟩; refine ⟨_, rfl, ?_⟩; replace HO324 := ak (Kd.R_below (rk HO324) hb); replace HO327 := ak (Kd.S_elder' (by (with_reducible repeat (first | apply Kd.S_alloc | apply Kd.S_drewN | apply Kd.S_drew)); exact HO327.out) (Kd.R_base ho0) hb); replace HO335 := ak (Kd.R_below (rk HO335) hb); replace HO339 := ak (Kd.S_elder' (by (with_reducible repeat (first | apply Kd.S_alloc | apply Kd.S_drewN | apply Kd.S_drew)); exact HO339.out) (Kd.R_base ho0) hb); have HO342 := ak (Kd.R_lower (Kd.R_new' ho0 (Kd.R_lt (rk HO330))) (below_size (bl2 HB GE318 GE336))); replace HO330 := ak (Kd.R_elder' (rk HO330) (Kd.R_base ho0) hb); replace BK318 := ak (blk_below (bk BK318) hb); replace BK336 := ak (blk_below (bk BK336) hb); replace HB := ak (below_step (bl2 HB GE318 GE336) hb); (try clear hb); (try clear hb2); (try clear hk); (try clear hi); (try clear ho0)))
 (try simp only [Act.put, List.setIfInBounds_toArray, List.set_cons_zero, List.set_cons_succ])
 go_cut [53] (fun v53 wc => ∃ (kq : Nat) (x53_18 : Bool), v53 = .bool x53_18 ∧ Aside0 (laws_FnExactSeenBest.j0 kq l1 t328 t331 t337 t340 t343 x53_18 a0_0 l0_1 t332 t333 = some r) ∧ Aside0 (kq ≤ k) ∧ Aside0 (Kd.R (Kd.int .i64) 3 wc w.heap.size (fun k_ => some k_ ≠ (v341 : Value).ownBlock) v329 t328) ∧ Aside0 (Kd.S (Kd.slice 3 (Kd.int .i64)) 33 wc w.heap.size (fun k_ => some k_ ≠ (v329 : Value).ownBlock ∧ some k_ ≠ (v341 : Value).ownBlock) (.slice Ao37 t337.length co37) t337) ∧ Aside0 (Kd.R (Kd.int .i64) 3 wc w.heap.size (fun k_ => some k_ ≠ (v329 : Value).ownBlock) v341 t340) ∧ Aside0 (Kd.R k58 58 wc w.heap.size (fun _ => True) (.slice Ao34 t333.length co34) t333) ∧ Aside0 (wc.heap[gb318]? = some (.cells #[.int .i64 a0_0, (.slice A0_1 l0_1.length c0_1)] 39 (0, 0))) ∧ Aside0 (wc.heap[gb336]? = some (.cells #[.int .i64 t332, (.slice Ao34 t333.length co34)] 25 (0, 0))) ∧ Aside0 (Below w.heap.size w wc))
 case first =>
  have H := HC19.out
  clear HC19
  replace H := Option.bind_eq_some_iff.mp H
  obtain ⟨t344, A390, H⟩ := H
  have A39 := ak A390
  clear A390
  by_cases c40 : t344 = true
  ·subst c40
   rw [if_pos rfl] at H
   have H' := ak H
   clear H
   obtain ⟨Ao41, co41, eo41⟩ := Kd.R_slice HO342.out
   subst eo41
   obtain ⟨Ao42, co42, eo42⟩ := Kd.R_slice HO330.out
   subst eo42
   go_wp2_with (first | ((with_reducible refine gate_callee (f := 41) rfl ?_); refine goesL_ (some 47) rfl rfl Try.func41 (by kernel_rfl) rfl #[.slice Ao41 t340.length co41, .slice Ao42 t328.length co42] rfl (by (try simp only [List.map_toArray, List.map_cons, List.map_nil]); first | done | rfl | (simp only [List.length_drop, List.length_take]; rfl)) ?_; (with_reducible refine (laws_eqIntS.calls k _ _ t340 _ _ t328 true _ ?side1 ?side2 ?side3 ?side4 A39.out).mono ?_); (case side1 => repeat (first | exact (Kd.R_reads' HO342.out).2.2 | (with_reducible refine Kd.C_alloc ?_ _) | (with_reducible refine Kd.C_drewN ?_ _) | (with_reducible refine Kd.C_drew ?_))); (case side2 => exact (Kd.R_reads' HO342.out).2.1); (case side3 => repeat (first | exact (Kd.R_reads' HO330.out).2.2 | (with_reducible refine Kd.C_alloc ?_ _) | (with_reducible refine Kd.C_drewN ?_ _) | (with_reducible refine Kd.C_drew ?_))); (case side4 => exact (Kd.R_reads' HO330.out).2.1); rintro e w' ⟨rfl, ⟨nd, rfl⟩⟩; refine ⟨_, rfl, ?_⟩))
   go_meet
   case rel => exact ⟨_, ((t343 != t331)), (by first | rfl | (simp; done) | (simp [*]; done)), H', ⟨by first | omega | exact Nat.le_refl _⟩, ⟨by (with_reducible repeat (first | apply Kd.R_alloc | apply Kd.R_drewN | apply Kd.R_drew)); exact Kd.R_mono HO330.out (fun _ hk => hk.2)⟩, ⟨by (with_reducible repeat (first | apply Kd.S_alloc | apply Kd.S_drewN | apply Kd.S_drew)); exact Kd.S_mono HO339.out (fun _ hk => ⟨hk.1.2, hk.2⟩)⟩, ⟨by (with_reducible repeat (first | apply Kd.R_alloc | apply Kd.R_drewN | apply Kd.R_drew)); exact Kd.R_mono HO342.out (fun _ hk => hk.2)⟩, ⟨by (with_reducible repeat (first | apply Kd.R_alloc | apply Kd.R_drewN | apply Kd.R_drew)); exact Kd.R_mono HO335.out (fun _ hk => trivial)⟩, ⟨bk BK318⟩, ⟨bk BK336⟩, ⟨bl2 HB GE318 GE336⟩⟩
  replace c40 := Bool.eq_false_iff.mpr c40
  subst c40
  rw [if_neg (show ¬ (false = true) by decide)] at H
  have H' := ak H
  clear H
  obtain ⟨Ao43, co43, eo43⟩ := Kd.R_slice HO342.out
  subst eo43
  obtain ⟨Ao44, co44, eo44⟩ := Kd.R_slice HO330.out
  subst eo44
  go_wp2_with (first | ((with_reducible refine gate_callee (f := 41) rfl ?_); refine goesL_ (some 47) rfl rfl Try.func41 (by kernel_rfl) rfl #[.slice Ao43 t340.length co43, .slice Ao44 t328.length co44] rfl (by (try simp only [List.map_toArray, List.map_cons, List.map_nil]); first | done | rfl | (simp only [List.length_drop, List.length_take]; rfl)) ?_; (with_reducible refine (laws_eqIntS.calls k _ _ t340 _ _ t328 false _ ?side1 ?side2 ?side3 ?side4 A39.out).mono ?_); (case side1 => repeat (first | exact (Kd.R_reads' HO342.out).2.2 | (with_reducible refine Kd.C_alloc ?_ _) | (with_reducible refine Kd.C_drewN ?_ _) | (with_reducible refine Kd.C_drew ?_))); (case side2 => exact (Kd.R_reads' HO342.out).2.1); (case side3 => repeat (first | exact (Kd.R_reads' HO330.out).2.2 | (with_reducible refine Kd.C_alloc ?_ _) | (with_reducible refine Kd.C_drewN ?_ _) | (with_reducible refine Kd.C_drew ?_))); (case side4 => exact (Kd.R_reads' HO330.out).2.1); rintro e w' ⟨rfl, ⟨nd, rfl⟩⟩; refine ⟨_, rfl, ?_⟩))
  go_meet
  case rel => exact ⟨_, (true), (by first | rfl | (simp; done) | (simp [*]; done)), H', ⟨by first | omega | exact Nat.le_refl _⟩, ⟨by (with_reducible repeat (first | apply Kd.R_alloc | apply Kd.R_drewN | apply Kd.R_drew)); exact Kd.R_mono HO330.out (fun _ hk => hk.2)⟩, ⟨by (with_reducible repeat (first | apply Kd.S_alloc | apply Kd.S_drewN | apply Kd.S_drew)); exact Kd.S_mono HO339.out (fun _ hk => ⟨hk.1.2, hk.2⟩)⟩, ⟨by (with_reducible repeat (first | apply Kd.R_alloc | apply Kd.R_drewN | apply Kd.R_drew)); exact Kd.R_mono HO342.out (fun _ hk => hk.2)⟩, ⟨by (with_reducible repeat (first | apply Kd.R_alloc | apply Kd.R_drewN | apply Kd.R_drew)); exact Kd.R_mono HO335.out (fun _ hk => trivial)⟩, ⟨bk BK318⟩, ⟨bk BK336⟩, ⟨bl2 HB GE318 GE336⟩⟩
 clear HC19
 try clear c1
 try clear c2
 try clear p2
 try clear c3
 try clear c4
 try clear c4b0
 try clear c9
 try clear c9b0
 try clear c10
 try clear c19
 try clear c20
 try clear c32
 try clear c37
 try clear c38
 try clear c39
 try clear c40
 try clear c41
 try clear hcz11_0
 try clear hcz11_1
 try clear hcz21_0
 try clear hcz21_1
 try clear hcz23_0
 try clear hcz23_1
 try clear hcz29_0
 try clear hcz29_1
 try clear hcz33_0
 try clear hcz33_1
 try clear hcz36_0
 try clear hcz36_1
 try clear hcz6_0
 try clear hcz6_1
 try clear hfz11_0
 try clear hfz11_1
 try clear hfz21_0
 try clear hfz21_1
 try clear hfz23_0
 try clear hfz23_1
 try clear hfz29_0
 try clear hfz29_1
 try clear hfz33_0
 try clear hfz33_1
 try clear hfz36_0
 try clear hfz36_1
 try clear hfz6_0
 try clear hfz6_1
 obtain ⟨kq, x53_18, rfl, HA, HJ18, HO_6, HO_9, HO_10, HO_337001, BK318, BK336, HB⟩ := hcut
 cases kq with
 | zero => exact absurd HA.out (by simp [laws_FnExactSeenBest.j0])
 | succ kj18 =>
  have H := HA.out
  clear HA
  simp only [laws_FnExactSeenBest.j0] at H
  by_cases c45 : x53_18 = true
  ·subst c45
   rw [if_pos rfl] at H
   exact absurd ((Option.some.inj H).trans hr_) Bool.false_ne_true
  replace c45 := Bool.eq_false_iff.mpr c45
  subst c45
  rw [if_neg (show ¬ (false = true) by decide)] at H
  replace H := Option.bind_eq_some_iff.mp H
  obtain ⟨⟨t345, t346⟩, A460, H⟩ := H
  have A46 := ak A460
  clear A460
  replace H := Option.bind_eq_some_iff.mp H
  obtain ⟨t349, A470, H⟩ := H
  have A47 := ak A470
  clear A470
  by_cases c48 : t349 = true
  rotate_left
  ·replace c48 := Bool.eq_false_iff.mpr c48
   subst c48
   rw [if_neg (show ¬ (false = true) by decide)] at H
   exact absurd ((Option.some.inj H).trans hr_) Bool.false_ne_true
  subst c48
  rw [if_pos rfl] at H
  replace H := Option.bind_eq_some_iff.mp H
  obtain ⟨t350, A490, H⟩ := H
  have A49 := ak A490
  clear A490
  replace H := Option.bind_eq_some_iff.mp H
  obtain ⟨t353, A500, H⟩ := H
  have A50 := ak A500
  clear A500
  by_cases c51 : t353 = true
  rotate_left
  ·replace c51 := Bool.eq_false_iff.mpr c51
   subst c51
   rw [if_neg (show ¬ (false = true) by decide)] at H
   exact absurd ((Option.some.inj H).trans hr_) Bool.false_ne_true
  subst c51
  rw [if_pos rfl] at H
  replace H := Option.bind_eq_some_iff.mp H
  obtain ⟨⟨t354, t355⟩, A520, H⟩ := H
  have A52 := ak A520
  clear A520
  replace H := Option.bind_eq_some_iff.mp H
  obtain ⟨t356, A530, H⟩ := H
  have A53 := ak A530
  clear A530
  have HC54 := ak H
  clear H
  try go_wp2
  replace HO_6 := ak (Kd.R_drew HO_6.out)
  replace HO_9 := ak (Kd.S_drew HO_9.out)
  replace HO_10 := ak (Kd.R_drew HO_10.out)
  replace HO_337001 := ak (Kd.R_drew HO_337001.out)
  replace BK318 := ak (blk_drew BK318.out)
  replace BK336 := ak (blk_drew BK336.out)
  replace HB := ak (below_drew1 HB.out)
  refine start_ (n := 5) (S := fun w' => w'.cell? ⟨gb336, 0, none⟩ = some (.int .i64 t332) ∧ w'.cell? ⟨gb336, 1, none⟩ = some (.slice Ao34 t333.length co34) ∧ w'.cell? ⟨gb318, 0, none⟩ = some (.int .i64 a0_0) ∧ w'.cell? ⟨gb318, 1, none⟩ = some (.slice A0_1 l0_1.length c0_1)) (ds := []) (ms 5 0) (by kernel_rfl) rfl (by kernel_rfl) ⟨(blk_cell BK336.out 0).trans rfl, (blk_cell BK336.out 1).trans rfl, (blk_cell BK318.out 0).trans rfl, (blk_cell BK318.out 1).trans rfl⟩ (fun hHeld => ?_)
  generalize wc.drew = w55 at HO_6 HO_9 HO_10 HO_337001 BK318 BK336 HB hHeld ⊢
  refine take_ (i := 0) (N := some 54) (v := ?_) (a' := ?_) (ms 5 1) rfl rfl (by kernel_rfl) (fun _ _ _ h => h) (Or.inl ⟨by rfl, ?_⟩) hHeld ?_ ?_
  rotate_left
  ·rintro w' ⟨s0, s1, s2, s3⟩
   go_simp
   with_reducible rfl
  rotate_left
  ·simp only [SX]
   rfl
  refine take_ (i := 1) (N := some 55) (v := ?_) (a' := ?_) (ms 5 3) rfl rfl (by kernel_rfl) (fun _ _ _ h => h) (Or.inl ⟨by rfl, ?_⟩) hHeld ?_ ?_
  rotate_left
  ·rintro w' ⟨s0, s1, s2, s3⟩
   go_simp
   with_reducible rfl
  rotate_left
  ·simp only [SX]
   rfl
  refine one_ (i := 2) (N := some 56) (ms 5 7) rfl rfl (by kernel_rfl) (by decide) (fun K hK => ?_)
  refine goes_ Try.func20 (by kernel_rfl) rfl #[.agg #[.int .i64 a0_0, .slice A0_1 l0_1.length c0_1]] (by rfl) rfl rfl (by (try simp only [List.map_toArray, List.map_cons, List.map_nil]); first | done | rfl | (simp only [List.length_drop, List.length_take]; rfl)) ?_
  with_reducible refine (laws_toNet.calls kj18 a0_0 _ _ l0_1 t345 t346 _ ?side1 ?side2 A46.out).mono ?_
  (case side1 => repeat (first | exact (Kd.C_below HR0_1.out HB.out) | (with_reducible refine Kd.C_alloc ?_ _) | (with_reducible refine Kd.C_drewN ?_ _) | (with_reducible refine Kd.C_drew ?_)))
  (case side2 => exact HC0_1.out)
  rintro e w56 ⟨v347, rfl, ho0, hb⟩
  refine ⟨_, rfl, ?_⟩
  replace HO_6 := ak (Kd.R_below (rk HO_6) hb)
  replace HO_9 := ak (Kd.S_below (by (with_reducible repeat (first | apply Kd.S_alloc | apply Kd.S_drewN | apply Kd.S_drew)); exact HO_9.out) hb)
  replace HO_10 := ak (Kd.R_below (rk HO_10) hb)
  have HO348 := ak (Kd.R_lower (Kd.R_new' ho0 (Kd.R_lt (rk HO_337001))) (below_size (bl2 HB GE318 GE336)))
  replace HO_337001 := ak (Kd.R_elder' (rk HO_337001) (Kd.R_base ho0) hb)
  replace BK318 := ak (blk_below (bk BK318) hb)
  replace BK336 := ak (blk_below (bk BK336) hb)
  replace HB := ak (below_step (bl2 HB GE318 GE336) hb)
  (try clear hb)
  (try clear hb2)
  (try clear hk)
  (try clear hi)
  (try clear ho0)
  obtain ⟨Ao57, co57, eo57⟩ := Kd.R_slice HO348.out
  (first | subst eo57 | (injection eo57 with f1_ f2_ f3_; have f4_ := f1_.symm; have f5_ := f3_.symm; clear f1_ f2_ f3_; subst f4_; subst f5_))
  refine hK.out _ _ ⟨(blk_cell BK336.out 0).trans rfl, (blk_cell BK336.out 1).trans rfl, (blk_cell BK318.out 0).trans rfl, (blk_cell BK318.out 1).trans rfl⟩ (fun hHeld => ?_)
  clear hK K
  refine norm_ (a' := ?_) ?_ ?_
  rotate_left
  ·show Act.put _ (some 56) _ = _
   simp only [SX]
   rfl
  refine one_ (i := 3) (N := some 57) (ms 5 15) rfl rfl (by kernel_rfl) (by decide) (fun K hK => ?_)
  refine goes_ Try.func22 (by kernel_rfl) rfl #[.agg #[.int .i64 t332, .slice Ao34 t333.length co34], .agg #[.int .i64 t345, .slice Ao57 t346.length co57]] (by rfl) rfl rfl (by (try simp only [List.map_toArray, List.map_cons, List.map_nil]); first | done | rfl | (simp only [List.length_drop, List.length_take]; rfl)) ?_
  with_reducible refine (laws_eqNet.calls kj18 t332 _ _ t333 t345 _ _ t346 true _ ?side1 ?side2 ?side3 ?side4 A47.out).mono ?_
  (case side1 => repeat (first | exact (Kd.R_reads' HO_337001.out).2.2 | (with_reducible refine Kd.C_alloc ?_ _) | (with_reducible refine Kd.C_drewN ?_ _) | (with_reducible refine Kd.C_drew ?_)))
  (case side2 => exact (Kd.R_reads' HO_337001.out).2.1)
  (case side3 => repeat (first | exact (Kd.R_reads' HO348.out).2.2 | (with_reducible refine Kd.C_alloc ?_ _) | (with_reducible refine Kd.C_drewN ?_ _) | (with_reducible refine Kd.C_drew ?_)))
  (case side4 => exact (Kd.R_reads' HO348.out).2.1)
  rintro e w58 ⟨rfl, hb⟩
  refine ⟨_, rfl, ?_⟩
  replace HO_6 := ak (Kd.R_below (rk HO_6) hb)
  replace HO_9 := ak (Kd.S_below (by (with_reducible repeat (first | apply Kd.S_alloc | apply Kd.S_drewN | apply Kd.S_drew)); exact HO_9.out) hb)
  replace HO_10 := ak (Kd.R_below (rk HO_10) hb)
  replace HO_337001 := ak (Kd.R_below (rk HO_337001) hb)
  replace HO348 := ak (Kd.R_below (rk HO348) hb)
  replace BK318 := ak (blk_below (bk BK318) hb)
  replace BK336 := ak (blk_below (bk BK336) hb)
  replace HB := ak (below_step (bl2 HB GE318 GE336) hb)
  (try clear hb)
  (try clear hb2)
  (try clear hk)
  (try clear hi)
  refine hK.out _ _ ⟨(blk_cell BK336.out 0).trans rfl, (blk_cell BK336.out 1).trans rfl, (blk_cell BK318.out 0).trans rfl, (blk_cell BK318.out 1).trans rfl⟩ (fun hHeld => ?_)
  clear hK K
  refine norm_ (a' := ?_) ?_ ?_
  rotate_left
  ·show Act.put _ (some 57) _ = _
   simp only [SX]
   rfl
  refine pure_ (i := 4) (N := some 58) (v := ?_) (a' := ?_) (ms 5 31) rfl rfl (by kernel_rfl) (fun _ _ _ h => h) (Or.inl ⟨by rfl, ?_⟩) ?_ ?_
  rotate_left
  ·intro w'
   go_simp
   with_reducible rfl
  rotate_left
  ·simp only [SX]
   rfl
  refine done_ (by kernel_rfl) ?_
  go_upto_region 21 with (first | ((with_reducible refine gate_callee (f := 39) rfl ?_); refine goesL_ (some 61) rfl rfl Try.func39 (by kernel_rfl) rfl #[.slice A1 l1.length c1] rfl (by (try simp only [List.map_toArray, List.map_cons, List.map_nil]); first | done | rfl | (simp only [List.length_drop, List.length_take]; rfl)) ?_; (with_reducible refine (laws_toIntSS.calls kj18 _ _ l1 t350 _ ?side1 ?side2 A49.out).mono ?_); (case side1 => repeat (first | exact (Kd.C_below HR1.out HB.out) | (with_reducible refine Kd.C_alloc ?_ _) | (with_reducible refine Kd.C_drewN ?_ _) | (with_reducible refine Kd.C_drew ?_))); (case side2 => exact HC1.out); rintro e w59 ⟨v351, rfl, ho0, hb⟩; refine ⟨_, rfl, ?_⟩; replace HO_337001 := ak (Kd.R_below (rk HO_337001) hb); replace HO348 := ak (Kd.R_below (rk HO348) hb); have HO352 := ak (Kd.S_lower (Kd.S_new' (Kd.S_new' (Kd.S_new' ho0 (Kd.R_lt (rk HO_6))) (Kd.S_lt (by (with_reducible repeat (first | apply Kd.S_alloc | apply Kd.S_drewN | apply Kd.S_drew)); exact HO_9.out))) (Kd.R_lt (rk HO_10))) (below_size (bl2 HB GE318 GE336))); replace HO_6 := ak (Kd.R_below (rk HO_6) hb); replace HO_9 := ak (Kd.S_elder' (by (with_reducible repeat (first | apply Kd.S_alloc | apply Kd.S_drewN | apply Kd.S_drew)); exact HO_9.out) (Kd.S_base ho0) hb); replace HO_10 := ak (Kd.R_below (rk HO_10) hb); replace BK318 := ak (blk_below (bk BK318) hb); replace BK336 := ak (blk_below (bk BK336) hb); replace HB := ak (below_step (bl2 HB GE318 GE336) hb); (try clear hb); (try clear hb2); (try clear hk); (try clear hi); (try clear ho0); obtain ⟨Ao60, co60, eo60⟩ := Kd.S_slice HO352.out; subst eo60) | ((with_reducible refine gate_callee (f := 21) rfl ?_); refine goesL_ (some 62) rfl rfl Try.func21 (by kernel_rfl) rfl #[.slice Ao37 t337.length co37, .slice Ao60 t350.length co60] rfl (by (try simp only [List.map_toArray, List.map_cons, List.map_nil]); first | done | rfl | (simp only [List.length_drop, List.length_take]; rfl)) ?_; (with_reducible refine (laws_eqIntSS.calls kj18 _ _ t337 _ _ t350 true _ ?side1 ?side2 ?side3 ?side4 A50.out).mono ?_); (case side1 => repeat (first | exact (Kd.S_reads' HO_9.out).2.2 | (with_reducible refine Kd.C_alloc ?_ _) | (with_reducible refine Kd.C_drewN ?_ _) | (with_reducible refine Kd.C_drew ?_))); (case side2 => exact (Kd.S_reads' HO_9.out).2.1); (case side3 => repeat (first | exact (Kd.S_reads' HO352.out).2.2 | (with_reducible refine Kd.C_alloc ?_ _) | (with_reducible refine Kd.C_drewN ?_ _) | (with_reducible refine Kd.C_drew ?_))); (case side4 => exact (Kd.S_reads' HO352.out).2.1); rintro e w' ⟨rfl, ⟨nd, rfl⟩⟩; refine ⟨_, rfl, ?_⟩; have hnb61 := NB336_318.out; have hnc61 := NB318_336.out; have hcz62_0 := bc w59 BK336 0 (.int .i64 t332) rfl; have hcz62_1 := bc w59 BK336 1 (.slice Ao34 t333.length co34) rfl; have hfz62_0 := fz BK336 0; have hfz62_1 := fz BK336 1) | ((with_reducible refine gate_callee (f := 23) rfl ?_); refine goesL_ (some 66) rfl rfl Try.func23 (by kernel_rfl) rfl #[.agg #[.int .i64 t332, .slice Ao34 t333.length co34], .int .i64 1] rfl (by (try simp only [List.map_toArray, List.map_cons, List.map_nil]); first | done | rfl | (simp only [List.length_drop, List.length_take]; rfl)) ?_; (with_reducible refine (laws_markNet.calls kj18 t332 (fun k_ => some k_ = (.slice Ao34 t333.length co34 : Value).ownBlock) (.slice Ao34 t333.length co34) t333 1 t354 t355 w _ ?side1 ?side2 A52.out).mono ?_); (case side1 => repeat (first | (with_reducible first | exact HB.out | apply below_alloc | apply pw_below_drewN | apply below_drew1 | refine below_set ?_ GE318.out | refine below_set ?_ GE336.out) | exact HB.out)); (case side2 => exact Kd.R_tight rfl HO_337001.out); rintro e w63 ⟨rfl, hy0, hb, hkp⟩; refine ⟨_, rfl, ?_⟩; replace HO_6 := ak (Kd.R_mono (ok' := fun k_ => some k_ ≠ (v341 : Value).ownBlock) (Kd.R_keptB ((Kd.R_apart' HO_6.out (Kd.R_typed HO_337001.out) (by decide))) hkp (fun k_ hk_ hs_ => (hk_.2) hs_)) (fun k_ hk_ => hk_.1.1)); replace HO_9 := ak (Kd.S_mono (ok' := fun k_ => some k_ ≠ (v329 : Value).ownBlock ∧ some k_ ≠ (v341 : Value).ownBlock ∧ some k_ ≠ (.slice Ao60 t350.length co60 : Value).ownBlock) (Kd.S_keptB ((Kd.S_apart' HO_9.out (Kd.R_typed HO_337001.out) (by decide))) hkp (fun k_ hk_ hs_ => (hk_.2) hs_)) (fun k_ hk_ => ⟨hk_.1.1.1.1, hk_.1.1.1.2, hk_.1.1.2⟩)); replace HO_10 := ak (Kd.R_mono (ok' := fun k_ => some k_ ≠ (v329 : Value).ownBlock) (Kd.R_keptB ((Kd.R_apart' HO_10.out (Kd.R_typed HO_337001.out) (by decide))) hkp (fun k_ hk_ hs_ => (hk_.2) hs_)) (fun k_ hk_ => hk_.1.1)); replace BK318 := ak (blk_kept (bk BK318) hkp (fun hs_ => (fun e_ => (Kd.R_ne HO_337001.out BK318.out (by decide)) e_) hs_)); replace BK336 := ak (blk_kept (bk BK336) hkp (fun hs_ => (fun e_ => (Kd.R_ne HO_337001.out BK336.out (by decide)) e_) hs_)); replace HO348 := ak (Kd.R_mono (ok' := fun k_ => some k_ ≠ (.slice Ao34 t333.length co34 : Value).ownBlock) (Kd.R_keptB (HO348.out) hkp (fun k_ hk_ hs_ => (hk_.2) hs_)) (fun k_ hk_ => hk_.1.2)); replace HO352 := ak (Kd.S_mono (ok' := fun k_ => some k_ ≠ (v329 : Value).ownBlock ∧ some k_ ≠ (.slice Ao37 t337.length co37 : Value).ownBlock ∧ some k_ ≠ (v341 : Value).ownBlock) (Kd.S_keptB ((Kd.S_apart' HO352.out (Kd.R_typed HO_337001.out) (by decide))) hkp (fun k_ hk_ hs_ => (hk_.2) hs_)) (fun k_ hk_ => ⟨hk_.1.1.1.1.2, hk_.1.1.1.2, hk_.1.1.2⟩)); replace HO_337001 := ak (Kd.R_reok rfl hy0 (fun k_ e_ => HO_337001.out.1 k_ e_)); replace HB := ak (hb); (try clear hb); (try clear hkp); (try clear hy0)) | ((with_reducible refine gate_callee (f := 24) rfl ?_); refine goesL_ (some 69) rfl rfl Try.func24 (by kernel_rfl) rfl #[.slice Ao37 t337.length co37, .int .i64 t354] rfl (by (try simp only [List.map_toArray, List.map_cons, List.map_nil]); first | done | rfl | (simp only [List.length_drop, List.length_take]; rfl)) ?_; have HM_ := markOwn HO_9.out; (with_reducible refine (laws_markIntSS.calls _ _ t337 t354 t356 w _ ?side1 HM_ A53.out).mono ?_); (case side1 => repeat (first | (with_reducible first | exact HB.out | apply below_alloc | apply pw_below_drewN | apply below_drew1 | refine below_set ?_ GE318.out | refine below_set ?_ GE336.out) | exact HB.out)); rintro e w64 ⟨rfl, hb, hkp⟩; refine ⟨_, rfl, ?_⟩; have n0_ := ak (Kd.R_mono (ok' := fun k_ => some k_ ≠ (v341 : Value).ownBlock) (by first | exact R_keptT HO_6.out hkp (by decide) | exact R_keptI HO_6.out rfl hkp (fun k_ hs_ => by first | exact hs_ | exact hs_.1 | exact hs_.2 | exact hs_.1.1 | exact hs_.1.2 | exact hs_.2.1 | exact hs_.2.2 | exact hs_.2.2.1 | exact hs_.2.2.2)) (by intro k_ hk_; exact hk_)); have n1_ := ak (Kd.R_mono (ok' := fun k_ => some k_ ≠ (v329 : Value).ownBlock) (by first | exact R_keptT HO_10.out hkp (by decide) | exact R_keptI HO_10.out rfl hkp (fun k_ hs_ => by first | exact hs_ | exact hs_.1 | exact hs_.2 | exact hs_.1.1 | exact hs_.1.2 | exact hs_.2.1 | exact hs_.2.2 | exact hs_.2.2.1 | exact hs_.2.2.2)) (by intro k_ hk_; exact hk_)); have n2_ := ak (Kd.R_mono (ok' := fun k_ => some k_ ≠ (.slice Ao57 t346.length co57 : Value).ownBlock) (by first | exact R_keptT HO_337001.out hkp (by decide) | exact R_keptI HO_337001.out rfl hkp (fun k_ hs_ => by first | exact hs_ | exact hs_.1 | exact hs_.2 | exact hs_.1.1 | exact hs_.1.2 | exact hs_.2.1 | exact hs_.2.2 | exact hs_.2.2.1 | exact hs_.2.2.2)) (by intro k_ hk_; exact hk_.2)); have n3_ := ak (blk_kept (bk BK318) hkp (by intro hs_; exact hs_.2.no (bk BK318) (by decide))); have n4_ := ak (blk_kept (bk BK336) hkp (by intro hs_; exact hs_.2.no (bk BK336) (by decide))); have n5_ := ak (Kd.R_mono (ok' := fun k_ => some k_ ≠ (.slice Ao34 t333.length co34 : Value).ownBlock) (by first | exact R_keptT HO348.out hkp (by decide) | exact R_keptI HO348.out rfl hkp (fun k_ hs_ => by first | exact hs_ | exact hs_.1 | exact hs_.2 | exact hs_.1.1 | exact hs_.1.2 | exact hs_.2.1 | exact hs_.2.2 | exact hs_.2.2.1 | exact hs_.2.2.2)) (by intro k_ hk_; exact hk_)); have n7_ := ak (hb); clear HO_6; clear HO_10; clear HO_337001; clear BK318; clear BK336; clear HO348; clear HO352; clear HB; clear HO_9; have HO_6 := n0_; have HO_10 := n1_; have HO_337001 := n2_; have BK318 := n3_; have BK336 := n4_; have HO348 := n5_; have HB := n7_; clear n0_ n1_ n2_ n3_ n4_ n5_ n7_; (try clear hb); (try clear hkp)))
  (try simp only [Act.put, List.setIfInBounds_toArray, List.set_cons_zero, List.set_cons_succ])
  go_cut [82] (fun v82 wc => ∃ (kq : Nat) (x82_53 : Bool), v82 = .bool x82_53 ∧ Aside0 (laws_FnExactSeenBest.j1 kq l1 t328 t331 t340 x82_53 a0_0 l0_1 = some r) ∧ Aside0 (kq ≤ kj18) ∧ Aside0 (Kd.R (Kd.int .i64) 3 wc w.heap.size (fun k_ => some k_ ≠ (v341 : Value).ownBlock) v329 t328) ∧ Aside0 (Kd.R (Kd.int .i64) 3 wc w.heap.size (fun k_ => some k_ ≠ (v329 : Value).ownBlock) v341 t340) ∧ Aside0 (Kd.R k58 58 wc w.heap.size (fun _ => True) (.slice Ao34 t333.length co34) t355) ∧ Aside0 (wc.heap[gb318]? = some (.cells #[.int .i64 a0_0, (.slice A0_1 l0_1.length c0_1)] 39 (0, 0))) ∧ Aside0 (wc.heap[gb336]? = some (.cells #[.int .i64 t332, (.slice Ao34 t333.length co34)] 25 (0, 0))) ∧ Aside0 (Below w.heap.size w wc))
  case first =>
   have H := HC54.out
   clear HC54
   by_cases c65 : t356 < 0
   ·rw [if_pos c65] at H
    have c65b0 : decide (t356 < 0) = true := decide_eq_true c65
    clear c65
    (first | rw [c65b0] | (simp only [i64_w, i32_w]; rw [c65b0]) | skip)
    have H' := ak H
    clear H
    go_wp2
    go_meet
    case rel => exact ⟨_, (true), (by first | rfl | (simp; done) | (simp [*]; done)), H', ⟨by have := HJ18.out; first | omega | exact Nat.le_refl _⟩, ⟨rk HO_6⟩, ⟨rk HO_10⟩, ⟨by (with_reducible repeat (first | apply Kd.R_alloc | apply Kd.R_drewN | apply Kd.R_drew)); exact Kd.R_mono HO_337001.out (fun _ hk => trivial)⟩, ⟨bk BK318⟩, ⟨bk BK336⟩, ⟨bl2 HB GE318 GE336⟩⟩
   rw [if_neg c65] at H
   have c65b0 : decide (t356 < 0) = false := decide_eq_false c65
   clear c65
   (first | rw [c65b0] | (simp only [i64_w, i32_w]; rw [c65b0]) | skip)
   replace H := Option.bind_eq_some_iff.mp H
   obtain ⟨t357, A660, H⟩ := H
   have A66 := ak A660
   clear A660
   by_cases c67 : t357 = true
   ·subst c67
    rw [if_pos rfl] at H
    have H' := ak H
    clear H
    obtain ⟨Ao68, co68, eo68⟩ := Kd.R_slice HO_10.out
    subst eo68
    obtain ⟨Ao69, co69, eo69⟩ := Kd.R_slice HO_6.out
    subst eo69
    go_wp2_with (first | (go_at_call 41; (with_reducible refine (laws_eqIntS.calls kj18 _ _ t340 _ _ t328 true _ ?side1 ?side2 ?side3 ?side4 A66.out).mono ?_); (case side1 => repeat (first | exact (Kd.R_reads' HO_10.out).2.2 | (with_reducible refine Kd.C_alloc ?_ _) | (with_reducible refine Kd.C_drewN ?_ _) | (with_reducible refine Kd.C_drew ?_))); (case side2 => exact (Kd.R_reads' HO_10.out).2.1); (case side3 => repeat (first | exact (Kd.R_reads' HO_6.out).2.2 | (with_reducible refine Kd.C_alloc ?_ _) | (with_reducible refine Kd.C_drewN ?_ _) | (with_reducible refine Kd.C_drew ?_))); (case side4 => exact (Kd.R_reads' HO_6.out).2.1); rintro e w' ⟨rfl, ⟨nd, rfl⟩⟩))
    go_meet
    case rel => exact ⟨_, ((t343 != t331)), (by first | rfl | (simp; done) | (simp [*]; done)), H', ⟨by have := HJ18.out; first | omega | exact Nat.le_refl _⟩, ⟨rk HO_6⟩, ⟨rk HO_10⟩, ⟨by (with_reducible repeat (first | apply Kd.R_alloc | apply Kd.R_drewN | apply Kd.R_drew)); exact Kd.R_mono HO_337001.out (fun _ hk => trivial)⟩, ⟨bk BK318⟩, ⟨bk BK336⟩, ⟨bl2 HB GE318 GE336⟩⟩
   replace c67 := Bool.eq_false_iff.mpr c67
   subst c67
   rw [if_neg (show ¬ (false = true) by decide)] at H
   have H' := ak H
   clear H
   obtain ⟨Ao70, co70, eo70⟩ := Kd.R_slice HO_10.out
   subst eo70
   obtain ⟨Ao71, co71, eo71⟩ := Kd.R_slice HO_6.out
   subst eo71
   go_wp2_with (first | (go_at_call 41; (with_reducible refine (laws_eqIntS.calls kj18 _ _ t340 _ _ t328 false _ ?side1 ?side2 ?side3 ?side4 A66.out).mono ?_); (case side1 => repeat (first | exact (Kd.R_reads' HO_10.out).2.2 | (with_reducible refine Kd.C_alloc ?_ _) | (with_reducible refine Kd.C_drewN ?_ _) | (with_reducible refine Kd.C_drew ?_))); (case side2 => exact (Kd.R_reads' HO_10.out).2.1); (case side3 => repeat (first | exact (Kd.R_reads' HO_6.out).2.2 | (with_reducible refine Kd.C_alloc ?_ _) | (with_reducible refine Kd.C_drewN ?_ _) | (with_reducible refine Kd.C_drew ?_))); (case side4 => exact (Kd.R_reads' HO_6.out).2.1); rintro e w' ⟨rfl, ⟨nd, rfl⟩⟩))
   go_meet
   case rel => exact ⟨_, (true), (by first | rfl | (simp; done) | (simp [*]; done)), H', ⟨by have := HJ18.out; first | omega | exact Nat.le_refl _⟩, ⟨rk HO_6⟩, ⟨rk HO_10⟩, ⟨by (with_reducible repeat (first | apply Kd.R_alloc | apply Kd.R_drewN | apply Kd.R_drew)); exact Kd.R_mono HO_337001.out (fun _ hk => trivial)⟩, ⟨bk BK318⟩, ⟨bk BK336⟩, ⟨bl2 HB GE318 GE336⟩⟩
  clear HC54
  try clear c1
  try clear c2
  try clear p2
  try clear c3
  try clear c4
  try clear c4b0
  try clear c5
  try clear c6
  try clear c9
  try clear c9b0
  try clear c10
  try clear c19
  try clear c20
  try clear c21
  try clear c22
  try clear c23
  try clear c24
  try clear c32
  try clear c37
  try clear c38
  try clear c39
  try clear c40
  try clear c41
  try clear c45
  try clear c48
  try clear c51
  try clear c61
  try clear c65
  try clear c65b0
  try clear c67
  try clear hcz11_0
  try clear hcz11_1
  try clear hcz21_0
  try clear hcz21_1
  try clear hcz23_0
  try clear hcz23_1
  try clear hcz29_0
  try clear hcz29_1
  try clear hcz33_0
  try clear hcz33_1
  try clear hcz36_0
  try clear hcz36_1
  try clear hcz62_0
  try clear hcz62_1
  try clear hcz6_0
  try clear hcz6_1
  try clear hfz11_0
  try clear hfz11_1
  try clear hfz21_0
  try clear hfz21_1
  try clear hfz23_0
  try clear hfz23_1
  try clear hfz29_0
  try clear hfz29_1
  try clear hfz33_0
  try clear hfz33_1
  try clear hfz36_0
  try clear hfz36_1
  try clear hfz62_0
  try clear hfz62_1
  try clear hfz6_0
  try clear hfz6_1
  try clear p2
  obtain ⟨kq, x82_53, rfl, HA, HJ53, HO_6, HO_10, HO_337001, BK318, BK336, HB⟩ := hcut
  have hl337001_53 := (Kd.R_reads' HO_337001.out).1
  rw [hl337001_53] at HO_337001
  (try simp only [hl337001_53])
  (try simp only [hl337001_53] at BK318)
  (try simp only [hl337001_53] at BK336)
  (try simp only [hl337001_53] at HO_6)
  (try simp only [hl337001_53] at HO_10)
  cases kq with
  | zero => exact absurd HA.out (by simp [laws_FnExactSeenBest.j1])
  | succ kj53 =>
   have H := HA.out
   clear HA
   simp only [laws_FnExactSeenBest.j1] at H
   by_cases c72 : x82_53 = true
   ·subst c72
    rw [if_pos rfl] at H
    exact absurd ((Option.some.inj H).trans hr_) Bool.false_ne_true
   replace c72 := Bool.eq_false_iff.mpr c72
   subst c72
   rw [if_neg (show ¬ (false = true) by decide)] at H
   replace H := Option.bind_eq_some_iff.mp H
   obtain ⟨⟨t358, t359⟩, A730, H⟩ := H
   have A73 := ak A730
   clear A730
   replace H := Option.bind_eq_some_iff.mp H
   obtain ⟨t360, A740, H⟩ := H
   have A74 := ak A740
   clear A740
   by_cases c75 : t360 < 0
   ·rw [if_pos c75] at H
    have c75b0 : decide (t360 < 0) = true := decide_eq_true c75
    clear c75
    exact absurd ((Option.some.inj H).trans hr_) Bool.false_ne_true
   rw [if_neg c75] at H
   have c75b0 : decide (t360 < 0) = false := decide_eq_false c75
   clear c75
   by_cases c76 : t360 = t358
   rotate_left
   ·rw [if_neg c76] at H
    have c76b0 : (t360 == t358) = false := beq_eq_false_iff_ne.mpr c76
    have c76b1 : (t360 != t358) = true := bne_iff_ne.mpr c76
    exact absurd ((Option.some.inj H).trans hr_) Bool.false_ne_true
   rw [if_pos c76] at H
   have c76b0 : (t360 == t358) = true := beq_iff_eq.mpr c76
   have c76b1 : (t360 != t358) = false := bne_eq_false_iff_eq.mpr c76
   clear c76
   replace H := Option.bind_eq_some_iff.mp H
   obtain ⟨⟨t361, t362⟩, A770, H⟩ := H
   have A77 := ak A770
   clear A770
   replace H := Option.bind_eq_some_iff.mp H
   obtain ⟨t365, A780, H⟩ := H
   have A78 := ak A780
   clear A780
   replace H := Option.bind_eq_some_iff.mp H
   obtain ⟨⟨t368, t371⟩, A790, H⟩ := H
   have A79 := ak A790
   clear A790
   have HC80 := ak H
   clear H
   obtain ⟨Ao81, co81, eo81⟩ := Kd.R_slice HO_10.out
   subst eo81
   go_upto_region 32 with (first | ((with_reducible refine gate_callee (f := 42) rfl ?_); refine goesL_ (some 85) rfl rfl Try.func42 (by kernel_rfl) rfl #[.slice Ao81 t340.length co81, .int .i64 1] rfl (by (try simp only [List.map_toArray, List.map_cons, List.map_nil]); first | done | rfl | (simp only [List.length_drop, List.length_take]; rfl)) ?_; (with_reducible refine (laws_markIntS.calls kj53 (fun k_ => some k_ = (.slice Ao81 t340.length co81 : Value).ownBlock) (.slice Ao81 t340.length co81) t340 1 t358 t359 w _ ?side1 ?side2 A73.out).mono ?_); (case side1 => repeat (first | (with_reducible first | exact HB.out | apply below_alloc | apply pw_below_drewN | apply below_drew1 | refine below_set ?_ GE318.out | refine below_set ?_ GE336.out) | exact HB.out)); (case side2 => exact Kd.R_tight rfl HO_10.out); rintro e w82 ⟨rfl, hy0, hb, hkp⟩; refine ⟨_, rfl, ?_⟩; replace HO_6 := ak (Kd.R_mono (ok' := fun k_ => some k_ ≠ (.slice Ao81 t340.length co81 : Value).ownBlock) (Kd.R_keptB (HO_6.out) hkp (fun k_ hk_ hs_ => (hk_) hs_)) (fun k_ hk_ => hk_.1)); replace HO_337001 := ak (Kd.R_mono (ok' := fun k_ => True) (Kd.R_keptB ((Kd.R_apart' HO_337001.out (Kd.R_typed HO_10.out) (by decide))) hkp (fun k_ hk_ hs_ => (hk_.2) hs_)) (fun k_ hk_ => trivial)); replace BK318 := ak (blk_kept (bk BK318) hkp (fun hs_ => (fun e_ => (Kd.R_ne HO_10.out BK318.out (by decide)) e_) hs_)); replace BK336 := ak (blk_kept (bk BK336) hkp (fun hs_ => (fun e_ => (Kd.R_ne HO_10.out BK336.out (by decide)) e_) hs_)); replace HO_10 := ak (Kd.R_reok rfl hy0 (fun k_ e_ => HO_10.out.1 k_ e_)); replace HB := ak (hb); (try clear hb); (try clear hkp); (try clear hy0)) | ((with_reducible refine gate_callee (f := 43) rfl ?_); refine goesL_ (some 88) rfl rfl Try.func43 (by kernel_rfl) rfl #[.slice Ao81 t359.length co81, .int .i64 1] rfl (by (try simp only [List.map_toArray, List.map_cons, List.map_nil]); first | done | (rw [show t359.length = t340.length from (Kd.R_reads' HO_10.out).1.symm] <;> rfl) | rfl | (simp only [List.length_drop, List.length_take]; rfl)) ?_; (with_reducible refine (laws_heldIntS.calls kj53 _ _ t359 1 t360 _ ?side1 ?side2 A74.out).mono ?_); (case side1 => repeat (first | exact (Kd.R_reads' HO_10.out).2.2 | (with_reducible refine Kd.C_alloc ?_ _) | (with_reducible refine Kd.C_drewN ?_ _) | (with_reducible refine Kd.C_drew ?_))); (case side2 => rw [show t359.length = t340.length from (Kd.R_reads' HO_10.out).1.symm]; exact (Kd.R_reads' HO_10.out).2.1); rintro e w' ⟨rfl, ⟨nd, rfl⟩⟩; refine ⟨_, rfl, ?_⟩; have hnb83 := NB318_336.out; have hnc83 := NB336_318.out; have hcz84_0 := bc w82 BK318 0 (.int .i64 a0_0) rfl; have hcz84_1 := bc w82 BK318 1 (.slice A0_1 l0_1.length c0_1) rfl; have hfz84_0 := fz BK318 0; have hfz84_1 := fz BK318 1) | ((with_reducible refine gate_callee (f := 20) rfl ?_); refine goesL_ (some 96) rfl rfl Try.func20 (by kernel_rfl) rfl #[.agg #[.int .i64 a0_0, .slice A0_1 l0_1.length c0_1]] rfl (by (try simp only [List.map_toArray, List.map_cons, List.map_nil]); first | done | rfl | (simp only [List.length_drop, List.length_take]; rfl)) ?_; (with_reducible refine (laws_toNet.calls kj53 a0_0 _ _ l0_1 t361 t362 _ ?side1 ?side2 A77.out).mono ?_); (case side1 => repeat (first | exact (Kd.C_below HR0_1.out (bl2 HB GE318 GE336)) | (with_reducible refine Kd.C_alloc ?_ _) | (with_reducible refine Kd.C_drewN ?_ _) | (with_reducible refine Kd.C_drew ?_))); (case side2 => exact HC0_1.out); rintro e w85 ⟨v363, rfl, ho0, hb⟩; refine ⟨_, rfl, ?_⟩; replace HO_6 := ak (Kd.R_below (rk HO_6) hb); replace HO_10 := ak (Kd.R_below (rk HO_10) hb); have HO364 := ak (Kd.R_lower (Kd.R_new' ho0 (Kd.R_lt (rk HO_337001))) (below_size (bl2 HB GE318 GE336))); replace HO_337001 := ak (Kd.R_elder' (rk HO_337001) (Kd.R_base ho0) hb); replace BK318 := ak (blk_below (bk BK318) hb); replace BK336 := ak (blk_below (bk BK336) hb); replace HB := ak (below_step (bl2 HB GE318 GE336) hb); (try clear hb); (try clear hb2); (try clear hk); (try clear hi); (try clear ho0)) | ((with_reducible refine gate_callee (f := 39) rfl ?_); refine goesL_ (some 98) rfl rfl Try.func39 (by kernel_rfl) rfl #[.slice A1 l1.length c1] rfl (by (try simp only [List.map_toArray, List.map_cons, List.map_nil]); first | done | rfl | (simp only [List.length_drop, List.length_take]; rfl)) ?_; (with_reducible refine (laws_toIntSS.calls kj53 _ _ l1 t365 _ ?side1 ?side2 A78.out).mono ?_); (case side1 => repeat (first | exact (Kd.C_below HR1.out HB.out) | (with_reducible refine Kd.C_alloc ?_ _) | (with_reducible refine Kd.C_drewN ?_ _) | (with_reducible refine Kd.C_drew ?_))); (case side2 => exact HC1.out); rintro e w86 ⟨v366, rfl, ho0, hb⟩; refine ⟨_, rfl, ?_⟩; replace HO_337001 := ak (Kd.R_below (rk HO_337001) hb); replace HO364 := ak (Kd.R_below (rk HO364) hb); have HO367 := ak (Kd.S_lower (Kd.S_new' (Kd.S_new' ho0 (Kd.R_lt (rk HO_6))) (Kd.R_lt (rk HO_10))) (below_size (bl2 HB GE318 GE336))); replace HO_6 := ak (Kd.R_below (rk HO_6) hb); replace HO_10 := ak (Kd.R_below (rk HO_10) hb); replace BK318 := ak (blk_below (bk BK318) hb); replace BK336 := ak (blk_below (bk BK336) hb); replace HB := ak (below_step (bl2 HB GE318 GE336) hb); (try clear hb); (try clear hb2); (try clear hk); (try clear hi); (try clear ho0); obtain ⟨Ao87, co87, eo87⟩ := Kd.R_slice HO364.out; subst eo87; obtain ⟨Ao88, co88, eo88⟩ := Kd.S_slice HO367.out; subst eo88) | ((with_reducible refine gate_callee (f := 40) rfl ?_); refine goesL_ (some 99) rfl rfl Try.func40 (by kernel_rfl) rfl #[.agg #[.int .i64 t361, .slice Ao87 t362.length co87], .slice Ao88 t365.length co88] rfl (by (try simp only [List.map_toArray, List.map_cons, List.map_nil]); first | done | rfl | (simp only [List.length_drop, List.length_take]; rfl)) ?_; (with_reducible refine (impl_SeenBest.calls kj53 t361 _ _ t362 _ _ t365 t368 t371 _ ?side1 ?side2 ?side3 ?side4 A79.out).mono ?_); (case side1 => repeat (first | exact (Kd.R_reads' HO364.out).2.2 | (with_reducible refine Kd.C_alloc ?_ _) | (with_reducible refine Kd.C_drewN ?_ _) | (with_reducible refine Kd.C_drew ?_))); (case side2 => exact (Kd.R_reads' HO364.out).2.1); (case side3 => repeat (first | exact (Kd.S_reads' HO367.out).2.2 | (with_reducible refine Kd.C_alloc ?_ _) | (with_reducible refine Kd.C_drewN ?_ _) | (with_reducible refine Kd.C_drew ?_))); (case side4 => exact (Kd.S_reads' HO367.out).2.1); rintro e w89 ⟨v369, rfl, ho0, hb⟩; refine ⟨_, rfl, ?_⟩; replace HO_337001 := ak (Kd.R_below (rk HO_337001) hb); replace HO364 := ak (Kd.R_below (rk HO364) hb); replace HO367 := ak (Kd.S_elder' (by (with_reducible repeat (first | apply Kd.S_alloc | apply Kd.S_drewN | apply Kd.S_drew)); exact HO367.out) (Kd.R_base ho0) hb); have HO370 := ak (Kd.R_lower (Kd.R_new' (Kd.R_new' ho0 (Kd.R_lt (rk HO_6))) (Kd.R_lt (rk HO_10))) (below_size (bl2 HB GE318 GE336))); replace HO_6 := ak (Kd.R_elder' (rk HO_6) (Kd.R_base ho0) hb); replace HO_10 := ak (Kd.R_elder' (rk HO_10) (Kd.R_base ho0) hb); replace BK318 := ak (blk_below (bk BK318) hb); replace BK336 := ak (blk_below (bk BK336) hb); replace HB := ak (below_step (bl2 HB GE318 GE336) hb); (try clear hb); (try clear hb2); (try clear hk); (try clear hi); (try clear ho0)))
   (try simp only [Act.put, List.setIfInBounds_toArray, List.set_cons_zero, List.set_cons_succ])
   go_cut [110] (fun v110 wc => ∃ (kq : Nat) (x110_79 : Bool), v110 = .bool x110_79 ∧ Aside0 (laws_FnExactSeenBest.j2 kq t359 t358 x110_79 = some r) ∧ Aside0 (kq ≤ kj53) ∧ Aside0 (Kd.R (Kd.int .i64) 3 wc w.heap.size (fun _ => True) (.slice Ao81 t340.length co81) t359) ∧ Aside0 (Kd.R k58 58 wc w.heap.size (fun _ => True) (.slice Ao34 t355.length co34) t355) ∧ Aside0 (wc.heap[gb318]? = some (.cells #[.int .i64 a0_0, (.slice A0_1 l0_1.length c0_1)] 39 (0, 0))) ∧ Aside0 (wc.heap[gb336]? = some (.cells #[.int .i64 t332, (.slice Ao34 t355.length co34)] 25 (0, 0))) ∧ Aside0 (Below w.heap.size w wc))
   case first =>
    have H := HC80.out
    clear HC80
    replace H := Option.bind_eq_some_iff.mp H
    obtain ⟨t372, A900, H⟩ := H
    have A90 := ak A900
    clear A900
    by_cases c91 : t372 = true
    ·subst c91
     rw [if_pos rfl] at H
     have H' := ak H
     clear H
     obtain ⟨Ao92, co92, eo92⟩ := Kd.R_slice HO370.out
     subst eo92
     obtain ⟨Ao93, co93, eo93⟩ := Kd.R_slice HO_6.out
     subst eo93
     go_wp2_with (first | ((with_reducible refine gate_callee (f := 41) rfl ?_); refine goesL_ (some 104) rfl rfl Try.func41 (by kernel_rfl) rfl #[.slice Ao92 t368.length co92, .slice Ao93 t328.length co93] rfl (by (try simp only [List.map_toArray, List.map_cons, List.map_nil]); first | done | rfl | (simp only [List.length_drop, List.length_take]; rfl)) ?_; (with_reducible refine (laws_eqIntS.calls kj53 _ _ t368 _ _ t328 true _ ?side1 ?side2 ?side3 ?side4 A90.out).mono ?_); (case side1 => repeat (first | exact (Kd.R_reads' HO370.out).2.2 | (with_reducible refine Kd.C_alloc ?_ _) | (with_reducible refine Kd.C_drewN ?_ _) | (with_reducible refine Kd.C_drew ?_))); (case side2 => exact (Kd.R_reads' HO370.out).2.1); (case side3 => repeat (first | exact (Kd.R_reads' HO_6.out).2.2 | (with_reducible refine Kd.C_alloc ?_ _) | (with_reducible refine Kd.C_drewN ?_ _) | (with_reducible refine Kd.C_drew ?_))); (case side4 => exact (Kd.R_reads' HO_6.out).2.1); rintro e w' ⟨rfl, ⟨nd, rfl⟩⟩; refine ⟨_, rfl, ?_⟩))
     go_meet
     case rel => exact ⟨_, ((t371 != t331)), (by first | rfl | (simp; done) | (simp [*]; done)), H', ⟨by have := HJ18.out; have := HJ53.out; first | omega | exact Nat.le_refl _⟩, ⟨by (try simp only [hl337001_53]); (with_reducible repeat (first | apply Kd.R_alloc | apply Kd.R_drewN | apply Kd.R_drew)); exact Kd.R_mono HO_10.out (fun _ hk => trivial)⟩, ⟨by (try simp only [hl337001_53]); (with_reducible repeat (first | apply Kd.R_alloc | apply Kd.R_drewN | apply Kd.R_drew)); exact Kd.R_mono HO_337001.out (fun _ hk => trivial)⟩, ⟨by (try simp only [hl337001_53]); (with_reducible repeat (first | refine blk_drewN ?_ _ | refine blk_drew ?_ | refine blk_alloc ?_ _)); exact BK318.out⟩, ⟨by (try simp only [hl337001_53]); (with_reducible repeat (first | refine blk_drewN ?_ _ | refine blk_drew ?_ | refine blk_alloc ?_ _)); exact BK336.out⟩, ⟨bl2 HB GE318 GE336⟩⟩
    replace c91 := Bool.eq_false_iff.mpr c91
    subst c91
    rw [if_neg (show ¬ (false = true) by decide)] at H
    have H' := ak H
    clear H
    obtain ⟨Ao94, co94, eo94⟩ := Kd.R_slice HO370.out
    subst eo94
    obtain ⟨Ao95, co95, eo95⟩ := Kd.R_slice HO_6.out
    subst eo95
    go_wp2_with (first | ((with_reducible refine gate_callee (f := 41) rfl ?_); refine goesL_ (some 104) rfl rfl Try.func41 (by kernel_rfl) rfl #[.slice Ao94 t368.length co94, .slice Ao95 t328.length co95] rfl (by (try simp only [List.map_toArray, List.map_cons, List.map_nil]); first | done | rfl | (simp only [List.length_drop, List.length_take]; rfl)) ?_; (with_reducible refine (laws_eqIntS.calls kj53 _ _ t368 _ _ t328 false _ ?side1 ?side2 ?side3 ?side4 A90.out).mono ?_); (case side1 => repeat (first | exact (Kd.R_reads' HO370.out).2.2 | (with_reducible refine Kd.C_alloc ?_ _) | (with_reducible refine Kd.C_drewN ?_ _) | (with_reducible refine Kd.C_drew ?_))); (case side2 => exact (Kd.R_reads' HO370.out).2.1); (case side3 => repeat (first | exact (Kd.R_reads' HO_6.out).2.2 | (with_reducible refine Kd.C_alloc ?_ _) | (with_reducible refine Kd.C_drewN ?_ _) | (with_reducible refine Kd.C_drew ?_))); (case side4 => exact (Kd.R_reads' HO_6.out).2.1); rintro e w' ⟨rfl, ⟨nd, rfl⟩⟩; refine ⟨_, rfl, ?_⟩))
    go_meet
    case rel => exact ⟨_, (true), (by first | rfl | (simp; done) | (simp [*]; done)), H', ⟨by have := HJ18.out; have := HJ53.out; first | omega | exact Nat.le_refl _⟩, ⟨by (try simp only [hl337001_53]); (with_reducible repeat (first | apply Kd.R_alloc | apply Kd.R_drewN | apply Kd.R_drew)); exact Kd.R_mono HO_10.out (fun _ hk => trivial)⟩, ⟨by (try simp only [hl337001_53]); (with_reducible repeat (first | apply Kd.R_alloc | apply Kd.R_drewN | apply Kd.R_drew)); exact Kd.R_mono HO_337001.out (fun _ hk => trivial)⟩, ⟨by (try simp only [hl337001_53]); (with_reducible repeat (first | refine blk_drewN ?_ _ | refine blk_drew ?_ | refine blk_alloc ?_ _)); exact BK318.out⟩, ⟨by (try simp only [hl337001_53]); (with_reducible repeat (first | refine blk_drewN ?_ _ | refine blk_drew ?_ | refine blk_alloc ?_ _)); exact BK336.out⟩, ⟨bl2 HB GE318 GE336⟩⟩
   clear HC80
   try clear c1
   try clear c2
   try clear p2
   try clear c3
   try clear c4
   try clear c4b0
   try clear c5
   try clear c6
   try clear c7
   try clear c8
   try clear c9
   try clear c9b0
   try clear c10
   try clear c19
   try clear c20
   try clear c21
   try clear c22
   try clear c23
   try clear c24
   try clear c32
   try clear c37
   try clear c38
   try clear c39
   try clear c40
   try clear c41
   try clear c42
   try clear c43
   try clear c45
   try clear c48
   try clear c51
   try clear c61
   try clear c65
   try clear c65b0
   try clear c67
   try clear c72
   try clear c75
   try clear c75b0
   try clear c76
   try clear c76b0
   try clear c76b1
   try clear c83
   try clear c91
   try clear hcz11_0
   try clear hcz11_1
   try clear hcz21_0
   try clear hcz21_1
   try clear hcz23_0
   try clear hcz23_1
   try clear hcz29_0
   try clear hcz29_1
   try clear hcz33_0
   try clear hcz33_1
   try clear hcz36_0
   try clear hcz36_1
   try clear hcz62_0
   try clear hcz62_1
   try clear hcz6_0
   try clear hcz6_1
   try clear hcz84_0
   try clear hcz84_1
   try clear hfz11_0
   try clear hfz11_1
   try clear hfz21_0
   try clear hfz21_1
   try clear hfz23_0
   try clear hfz23_1
   try clear hfz29_0
   try clear hfz29_1
   try clear hfz33_0
   try clear hfz33_1
   try clear hfz36_0
   try clear hfz36_1
   try clear hfz62_0
   try clear hfz62_1
   try clear hfz6_0
   try clear hfz6_1
   try clear hfz84_0
   try clear hfz84_1
   try clear p2
   obtain ⟨kq, x110_79, rfl, HA, HJ79, HO_10, HO_337001, BK318, BK336, HB⟩ := hcut
   have hl10_79 := (Kd.R_reads' HO_10.out).1
   rw [hl10_79] at HO_10
   (try simp only [hl10_79])
   (try simp only [hl10_79] at BK318)
   (try simp only [hl10_79] at BK336)
   (try simp only [hl10_79] at HO_337001)
   cases kq with
   | zero => exact absurd HA.out (by simp [laws_FnExactSeenBest.j2])
   | succ kj79 =>
    have H := HA.out
    clear HA
    simp only [laws_FnExactSeenBest.j2] at H
    by_cases c96 : x110_79 = true
    ·subst c96
     rw [if_pos rfl] at H
     exact absurd ((Option.some.inj H).trans hr_) Bool.false_ne_true
    replace c96 := Bool.eq_false_iff.mpr c96
    subst c96
    rw [if_neg (show ¬ (false = true) by decide)] at H
    replace H := Option.bind_eq_some_iff.mp H
    obtain ⟨t373, A970, H⟩ := H
    have A97 := ak A970
    clear A970
    by_cases c98 : t373 < 0
    ·rw [if_pos c98] at H
     have c98b0 : decide (t373 < 0) = true := decide_eq_true c98
     clear c98
     exact absurd ((Option.some.inj H).trans hr_) Bool.false_ne_true
    rw [if_neg c98] at H
    have c98b0 : decide (t373 < 0) = false := decide_eq_false c98
    clear c98
    by_cases c99 : t373 = t358
    rotate_left
    ·rw [if_neg c99] at H
     have c99b0 : (t373 == t358) = false := beq_eq_false_iff_ne.mpr c99
     have c99b1 : (t373 != t358) = true := bne_iff_ne.mpr c99
     exact absurd ((Option.some.inj H).trans hr_) Bool.false_ne_true
    rw [if_pos c99] at H
    have c99b0 : (t373 == t358) = true := beq_iff_eq.mpr c99
    have c99b1 : (t373 != t358) = false := bne_eq_false_iff_eq.mpr c99
    clear c99
    obtain rfl := Option.some.inj H
    go_wp2_with (first | ((with_reducible refine gate_callee (f := 43) rfl ?_); refine goesL_ (some 113) rfl rfl Try.func43 (by kernel_rfl) rfl #[.slice Ao81 t359.length co81, .int .i64 1] rfl (by (try simp only [List.map_toArray, List.map_cons, List.map_nil]); first | done | rfl | (simp only [List.length_drop, List.length_take]; rfl)) ?_; (with_reducible refine (laws_heldIntS.calls kj79 _ _ t359 1 t373 _ ?side1 ?side2 A97.out).mono ?_); (case side1 => repeat (first | exact (Kd.R_reads' HO_10.out).2.2 | (with_reducible refine Kd.C_alloc ?_ _) | (with_reducible refine Kd.C_drewN ?_ _) | (with_reducible refine Kd.C_drew ?_))); (case side2 => exact (Kd.R_reads' HO_10.out).2.1); rintro e w' ⟨rfl, ⟨nd, rfl⟩⟩; refine ⟨_, rfl, ?_⟩))
    go_ret
    exact ⟨by first | rfl | (simp [errW_none, errW_some] <;> rfl) | (simp [*, errW_none, errW_some] <;> rfl), bl2 HB GE318 GE336⟩
/-- THE ONE PURE STATEMENT of laws_FnExactSeenBest. -/
def laws_FnExactSeenBest.Pure : Prop := ∀ (a0_0 : Int) (l0_1 : List (S109)) (l1 : List (List Int)), (Lit.int .i64 a0_0).wf = true → (l0_1.length ≤ 9223372036854775807 ∧ ∀ y_ ∈ l0_1, ((Lit.int .i64 y_.f0).wf = true ∧ ((Lit.int .i64 y_.f1).wf = true ∧ ((Lit.int .i64 y_.f2).wf = true ∧ ((Lit.int .i64 y_.f3).wf = true ∧ ((Lit.int .i64 y_.f4).wf = true)))))) → (l1.length ≤ 9223372036854775807 ∧ ∀ y_ ∈ l1, (y_.length ≤ 9223372036854775807 ∧ ∀ y__ ∈ y_, (Lit.int .i64 y__).wf = true)) → ∃ k, laws_FnExactSeenBest.f k a0_0 l0_1 l1 = some true

end Go.Proofs.Ytlgolgfcolnddaa.F
