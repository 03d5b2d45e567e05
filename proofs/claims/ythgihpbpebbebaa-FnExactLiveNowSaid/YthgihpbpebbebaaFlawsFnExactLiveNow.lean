-- Printed by wip/px/px.py of this claim's repository (the kit's printer, extended there). Lean checks it.
import Derived.Test.YthgihpbpebbebaaFKinds
import Derived.Test.YthgihpbpebbebaaFlawseqNet
import Derived.Test.YthgihpbpebbebaaFlawsmarkNet
import Derived.Test.YthgihpbpebbebaaFlawsheldNet
import Derived.Test.YthgihpbpebbebaaFlawsszLive
import Derived.Test.YthgihpbpebbebaaFlawstoLive
import Derived.Test.YthgihpbpebbebaaFlawseqLive
import Derived.Test.YthgihpbpebbebaaFimplLiveNow
import Derived.Test.YthgihpbpebbebaaFspecLiveNow
import Derived.Test.YthgihpbpebbebaaFlawsmarkLive
namespace Go.Proofs.Ythgihpbpebbebaa.F
open Go.RowKit Go.Proofs.YthgihpbpebbebaaW.PrintWords Go.Proofs.YthgihpbpebbebaaW.PrintLast Go.Proofs.YthgihpbpebbebaaW.PrintMore
attribute [local go_sem] max2_int min2_int max_two min_two max_three min_three max_four min_four   -- for this text's walks alone
set_option linter.unusedVariables false
set_option linter.unusedSimpArgs false

/-! ### laws_FnExactLiveNow: function 9 -/
def laws_FnExactLiveNow.j0 : Nat → Bool → Int → List (S118) → List (S122) → Int → List (S31) → Int → List (S31) → Option (Bool)
 | 0, _, _, _, _, _, _, _, _ => none
 | k + 1, x42, x461000, x461001, x461002, x474000, x474001, x487000, x487001 => if x42 = true then (some false) else ((laws_markNet.f k x487000 x487001 1).bind fun bt500 => ((laws_heldNet.f k x487000 bt500.2 1).bind fun t502 => (if t502 < 0 then (some false) else (if t502 = bt500.1 then ((laws_toLive.f k x461000 x461001 x461002).bind fun bt503 => ((impl_LiveNow.f k bt503.1 bt503.2.1 bt503.2.2).bind fun bt510 => ((laws_eqNet.f k bt510.1 bt510.2 x474000 x474001).bind fun t515 => (if t515 = true then ((laws_heldNet.f k x487000 bt500.2 1).bind fun t516 => (if t516 < 0 then (some false) else (if t516 = bt500.1 then (some true) else (some false)))) else (some false))))) else (some false)))))
def laws_FnExactLiveNow.f (k : Nat) (a0_0 : Int) (l0_1 : List (S118)) (l0_2 : List (S122)) : Option (Bool) := (laws_szLive.f a0_0 l0_1 l0_2 1048576).bind fun t461 => (if t461 < 0 then (some true) else ((laws_toLive.f k a0_0 l0_1 l0_2).bind fun bt462 => ((spec_LiveNow.f k bt462.1 bt462.2.1 bt462.2.2).bind fun bt469 => ((laws_toLive.f k a0_0 l0_1 l0_2).bind fun bt474 => ((impl_LiveNow.f k bt474.1 bt474.2.1 bt474.2.2).bind fun bt482 => ((laws_eqNet.f k bt482.1 bt482.2 bt469.1 bt469.2).bind fun t487 => (if t487 = true then ((laws_toLive.f k a0_0 l0_1 l0_2).bind fun bt488 => ((laws_eqLive.f k bt474.1 bt474.2.1 bt474.2.2 bt488.1 bt488.2.1 bt488.2.2).bind fun t495 => (if t495 = true then ((laws_markLive.f k bt474.1 bt474.2.1 bt474.2.2 1).bind fun bt496 => (if bt496.1 < 0 then (laws_FnExactLiveNow.j0 k true a0_0 l0_1 l0_2 bt469.1 bt469.2 bt482.1 bt482.2) else ((laws_eqNet.f k bt482.1 bt482.2 bt469.1 bt469.2).bind fun t499 => (laws_FnExactLiveNow.j0 k (!t499) a0_0 l0_1 l0_2 bt469.1 bt469.2 bt482.1 bt482.2)))) else (some false)))) else (some false))))))))
theorem laws_FnExactLiveNow.mono_l : ∀ k, (∀ y0 y1 y2 y3 y4 y5 y6 y7, LeO (laws_FnExactLiveNow.j0 k y0 y1 y2 y3 y4 y5 y6 y7) (laws_FnExactLiveNow.j0 (k + 1) y0 y1 y2 y3 y4 y5 y6 y7))
 | 0 => fun _ _ _ _ _ _ _ _ r h => by simp [laws_FnExactLiveNow.j0] at h
 | k + 1 => by
  have ih0 := laws_FnExactLiveNow.mono_l k
  ·intro y0 y1 y2 y3 y4 y5 y6 y7
   unfold laws_FnExactLiveNow.j0
   repeat' first
   | (with_reducible exact ih0 _ _ _ _ _ _ _ _)
   | (with_reducible exact impl_LiveNow.mono _ _ _ _)
   | (with_reducible exact laws_eqLive.mono _ _ _ _ _ _ _)
   | (with_reducible exact laws_eqNet.mono _ _ _ _ _)
   | (with_reducible exact laws_heldNet.mono _ _ _ _)
   | (with_reducible exact laws_markLive.mono _ _ _ _ _)
   | (with_reducible exact laws_markNet.mono _ _ _ _)
   | (with_reducible exact laws_toLive.mono _ _ _ _)
   | (with_reducible exact spec_LiveNow.mono _ _ _ _)
   | (with_reducible exact LeO.refl _)
   | (with_reducible exact LeO.none _)
   | (with_reducible refine LeO.ite ?_ ?_)
   | (with_reducible refine LeO.bind ?_ (fun _ => ?_))
   | exact ih0 _ _ _ _ _ _ _ _
   | exact impl_LiveNow.mono _ _ _ _
   | exact laws_eqLive.mono _ _ _ _ _ _ _
   | exact laws_eqNet.mono _ _ _ _ _
   | exact laws_heldNet.mono _ _ _ _
   | exact laws_markLive.mono _ _ _ _ _
   | exact laws_markNet.mono _ _ _ _
   | exact laws_toLive.mono _ _ _ _
   | exact spec_LiveNow.mono _ _ _ _
   | exact LeO.none _
   | refine LeO.ite ?_ ?_
   | refine LeO.bind ?_ (fun _ => ?_)
theorem laws_FnExactLiveNow.mono : ∀ a0 a1 a2 k, LeO (laws_FnExactLiveNow.f k a0 a1 a2) (laws_FnExactLiveNow.f (k + 1) a0 a1 a2) := by
 intro a0 a1 a2 k
 have ih0 := laws_FnExactLiveNow.mono_l k
 unfold laws_FnExactLiveNow.f
 repeat' first
   | (with_reducible exact ih0 _ _ _ _ _ _ _ _)
   | (with_reducible exact impl_LiveNow.mono _ _ _ _)
   | (with_reducible exact laws_eqLive.mono _ _ _ _ _ _ _)
   | (with_reducible exact laws_eqNet.mono _ _ _ _ _)
   | (with_reducible exact laws_heldNet.mono _ _ _ _)
   | (with_reducible exact laws_markLive.mono _ _ _ _ _)
   | (with_reducible exact laws_markNet.mono _ _ _ _)
   | (with_reducible exact laws_toLive.mono _ _ _ _)
   | (with_reducible exact spec_LiveNow.mono _ _ _ _)
   | (with_reducible exact LeO.refl _)
   | (with_reducible exact LeO.none _)
   | (with_reducible refine LeO.ite ?_ ?_)
   | (with_reducible refine LeO.bind ?_ (fun _ => ?_))
   | exact ih0 _ _ _ _ _ _ _ _
   | exact impl_LiveNow.mono _ _ _ _
   | exact laws_eqLive.mono _ _ _ _ _ _ _
   | exact laws_eqNet.mono _ _ _ _ _
   | exact laws_heldNet.mono _ _ _ _
   | exact laws_markLive.mono _ _ _ _ _
   | exact laws_markNet.mono _ _ _ _
   | exact laws_toLive.mono _ _ _ _
   | exact spec_LiveNow.mono _ _ _ _
   | exact LeO.none _
   | refine LeO.ite ?_ ?_
   | refine LeO.bind ?_ (fun _ => ?_)
set_option maxHeartbeats 8000000 in
set_option maxRecDepth 100000 in
theorem laws_FnExactLiveNow.calls (k : Nat) (a0_0 : Int) (A0_1 : Option Addr) (c0_1 : Nat) (l0_1 : List (S118)) (A0_2 : Option Addr) (c0_2 : Nat) (l0_2 : List (S122)) (r : Bool) (w : World) (hr0_1 : Kd.C k118 w A0_1 l0_1.length l0_1) (hc0_1 : l0_1.length ≤ c0_1) (hr0_2 : Kd.C k122 w A0_2 l0_2.length l0_2) (hc0_2 : l0_2.length ≤ c0_2) (h : laws_FnExactLiveNow.f k a0_0 l0_1 l0_2 = some r) (hr_ : r = true) :
  Calls Try.prog 9 #[.agg #[.int .i64 a0_0, .slice A0_1 l0_1.length c0_1, .slice A0_2 l0_2.length c0_2]] w fun e w' => e = .returned (.bool r) ∧ Below w.heap.size w w' := by
 have hu52 := Try.underlying52
 have hu25 := Try.underlying25
 have hu57 := Try.underlying57
 have HR0_1 := Aside0.mk hr0_1
 have HC0_1 := Aside0.mk hc0_1
 clear hr0_1 hc0_1
 have HR0_2 := Aside0.mk hr0_2
 have HC0_2 := Aside0.mk hc0_2
 clear hr0_2 hc0_2
 have HB := Aside0.mk (Below.refl w.heap.size w)
 have H : ((laws_szLive.f a0_0 l0_1 l0_2 1048576).bind fun t461 => (if t461 < 0 then (some true) else ((laws_toLive.f k a0_0 l0_1 l0_2).bind fun bt462 => ((spec_LiveNow.f k bt462.1 bt462.2.1 bt462.2.2).bind fun bt469 => ((laws_toLive.f k a0_0 l0_1 l0_2).bind fun bt474 => ((impl_LiveNow.f k bt474.1 bt474.2.1 bt474.2.2).bind fun bt482 => ((laws_eqNet.f k bt482.1 bt482.2 bt469.1 bt469.2).bind fun t487 => (if t487 = true then ((laws_toLive.f k a0_0 l0_1 l0_2).bind fun bt488 => ((laws_eqLive.f k bt474.1 bt474.2.1 bt474.2.2 bt488.1 bt488.2.1 bt488.2.2).bind fun t495 => (if t495 = true then ((laws_markLive.f k bt474.1 bt474.2.1 bt474.2.2 1).bind fun bt496 => (if bt496.1 < 0 then (laws_FnExactLiveNow.j0 k true a0_0 l0_1 l0_2 bt469.1 bt469.2 bt482.1 bt482.2) else ((laws_eqNet.f k bt482.1 bt482.2 bt469.1 bt469.2).bind fun t499 => (laws_FnExactLiveNow.j0 k (!t499) a0_0 l0_1 l0_2 bt469.1 bt469.2 bt482.1 bt482.2)))) else (some false)))) else (some false))))))))) = some r := h
 clear h
 replace H := Option.bind_eq_some_iff.mp H
 obtain ⟨t461, A20, H⟩ := H
 have A2 := Aside0.mk A20
 clear A20
 by_cases c3 : t461 < 0
 ·rw [if_pos c3] at H
  have c3b0 : decide (t461 < 0) = true := decide_eq_true c3
  clear c3
  obtain rfl := Option.some.inj H
  go_enter Try.func9, Try.ntmps9
  go_wp2_with (first | ((with_reducible refine gate_dst (N := 1) rfl ?_); refine box_event ?hg (N := 1) ?hd (cs := #[.int .i64 a0_0, .slice A0_1 l0_1.length c0_1, .slice A0_2 l0_2.length c0_2]) (t := 52) ?hr ?_; (case hd => rfl); (case hg => rfl); (case hr => first | (go_simp; done) | (go_simp; rfl)); intro gb460 hg w4 hbox hb; have n0_ := Aside0.mk (below_step (bl HB) hb); have n1_ := Aside0.mk (hbox); have n2_ := Aside0.mk ((by rw [hg]; exact (below_size (bl HB)) : w.heap.size ≤ gb460)); have n3_ := Aside0.mk ((by rw [hg]; exact (below_size (bl HB)) : w.heap.size ≤ gb460)); clear HB; have HB := n0_; have BK460 := n1_; have GW460 := n2_; have GE460 := n3_; clear n0_ n1_ n2_ n3_; clear hb hbox hg; have hcz5_0 : w4.cell? ⟨gb460, 0, none⟩ = some (.int .i64 a0_0) := (blk_cell BK460.out 0).trans rfl; have hcz5_1 : w4.cell? ⟨gb460, 1, none⟩ = some (.slice A0_1 l0_1.length c0_1) := (blk_cell BK460.out 1).trans rfl; have hcz5_2 : w4.cell? ⟨gb460, 2, none⟩ = some (.slice A0_2 l0_2.length c0_2) := (blk_cell BK460.out 2).trans rfl; have hfz5_0 := blk_frozen BK460.out 0; have hfz5_1 := blk_frozen BK460.out 1; have hfz5_2 := blk_frozen BK460.out 2) | ((with_reducible refine gate_callee (f := 31) rfl ?_); refine goesL_ (some 13) rfl rfl Try.func31 (by kernel_rfl) rfl #[.agg #[.int .i64 a0_0, .slice A0_1 l0_1.length c0_1, .slice A0_2 l0_2.length c0_2], .int .i64 1048576] rfl (by (try simp only [List.map_toArray, List.map_cons, List.map_nil]); first | done | rfl | (simp only [List.length_drop, List.length_take]; rfl)) ?_; (with_reducible refine (laws_szLive.calls a0_0 _ _ l0_1 _ _ l0_2 1048576 t461 _ ?side1 ?side2 ?side3 ?side4 A2.out).mono ?_); (case side1 => repeat (first | exact (Kd.C_below HR0_1.out HB.out) | (with_reducible refine Kd.C_alloc ?_ _) | (with_reducible refine Kd.C_drewN ?_ _) | (with_reducible refine Kd.C_drew ?_))); (case side2 => exact HC0_1.out); (case side3 => repeat (first | exact (Kd.C_below HR0_2.out HB.out) | (with_reducible refine Kd.C_alloc ?_ _) | (with_reducible refine Kd.C_drewN ?_ _) | (with_reducible refine Kd.C_drew ?_))); (case side4 => exact HC0_2.out); rintro e w6 ⟨rfl, hb⟩; refine ⟨_, rfl, ?_⟩; have n0_ := Aside0.mk (blk_below (bk BK460) hb); have n1_ := Aside0.mk (below_step (bl1 HB GE460) hb); clear BK460; clear HB; have BK460 := n0_; have HB := n1_; clear n0_ n1_; (try clear hb); (try clear hb2); (try clear hk); (try clear hi)))
  go_ret
  exact ⟨by first | rfl | (simp [errW_none, errW_some] <;> rfl) | (simp [*, errW_none, errW_some] <;> rfl), bl1 HB GE460⟩
 ·rw [if_neg c3] at H
  have c3b0 : decide (t461 < 0) = false := decide_eq_false c3
  clear c3
  replace H := Option.bind_eq_some_iff.mp H
  obtain ⟨⟨t462, t463, t466⟩, A70, H⟩ := H
  have A7 := Aside0.mk A70
  clear A70
  replace H := Option.bind_eq_some_iff.mp H
  obtain ⟨⟨t469, t470⟩, A80, H⟩ := H
  have A8 := Aside0.mk A80
  clear A80
  replace H := Option.bind_eq_some_iff.mp H
  obtain ⟨⟨t474, t475, t478⟩, A90, H⟩ := H
  have A9 := Aside0.mk A90
  clear A90
  replace H := Option.bind_eq_some_iff.mp H
  obtain ⟨⟨t482, t483⟩, A100, H⟩ := H
  have A10 := Aside0.mk A100
  clear A100
  replace H := Option.bind_eq_some_iff.mp H
  obtain ⟨t487, A110, H⟩ := H
  have A11 := Aside0.mk A110
  clear A110
  by_cases c12 : t487 = true
  ·subst c12
   rw [if_pos rfl] at H
   replace H := Option.bind_eq_some_iff.mp H
   obtain ⟨⟨t488, t489, t492⟩, A130, H⟩ := H
   have A13 := Aside0.mk A130
   clear A130
   replace H := Option.bind_eq_some_iff.mp H
   obtain ⟨t495, A140, H⟩ := H
   have A14 := Aside0.mk A140
   clear A140
   by_cases c15 : t495 = true
   ·subst c15
    rw [if_pos rfl] at H
    replace H := Option.bind_eq_some_iff.mp H
    obtain ⟨⟨t496, t497, t498⟩, A160, H⟩ := H
    have A16 := Aside0.mk A160
    clear A160
    have HC17 := Aside0.mk H
    clear H
    go_enter Try.func9, Try.ntmps9
    try go_wp2_with (first | ((with_reducible refine gate_dst (N := 1) rfl ?_); refine box_event ?hg (N := 1) ?hd (cs := #[.int .i64 a0_0, .slice A0_1 l0_1.length c0_1, .slice A0_2 l0_2.length c0_2]) (t := 52) ?hr ?_; (case hd => rfl); (case hg => rfl); (case hr => first | (go_simp; done) | (go_simp; rfl)); intro gb460 hg w18 hbox hb; have n0_ := Aside0.mk (below_step (bl HB) hb); have n1_ := Aside0.mk (hbox); have n2_ := Aside0.mk ((by rw [hg]; exact (below_size (bl HB)) : w.heap.size ≤ gb460)); have n3_ := Aside0.mk ((by rw [hg]; exact (below_size (bl HB)) : w.heap.size ≤ gb460)); clear HB; have HB := n0_; have BK460 := n1_; have GW460 := n2_; have GE460 := n3_; clear n0_ n1_ n2_ n3_; clear hb hbox hg; have hcz19_0 : w18.cell? ⟨gb460, 0, none⟩ = some (.int .i64 a0_0) := (blk_cell BK460.out 0).trans rfl; have hcz19_1 : w18.cell? ⟨gb460, 1, none⟩ = some (.slice A0_1 l0_1.length c0_1) := (blk_cell BK460.out 1).trans rfl; have hcz19_2 : w18.cell? ⟨gb460, 2, none⟩ = some (.slice A0_2 l0_2.length c0_2) := (blk_cell BK460.out 2).trans rfl; have hfz19_0 := blk_frozen BK460.out 0; have hfz19_1 := blk_frozen BK460.out 1; have hfz19_2 := blk_frozen BK460.out 2) | ((with_reducible refine gate_callee (f := 31) rfl ?_); refine goesL_ (some 13) rfl rfl Try.func31 (by kernel_rfl) rfl #[.agg #[.int .i64 a0_0, .slice A0_1 l0_1.length c0_1, .slice A0_2 l0_2.length c0_2], .int .i64 1048576] rfl (by (try simp only [List.map_toArray, List.map_cons, List.map_nil]); first | done | rfl | (simp only [List.length_drop, List.length_take]; rfl)) ?_; (with_reducible refine (laws_szLive.calls a0_0 _ _ l0_1 _ _ l0_2 1048576 t461 _ ?side1 ?side2 ?side3 ?side4 A2.out).mono ?_); (case side1 => repeat (first | exact (Kd.C_below HR0_1.out HB.out) | (with_reducible refine Kd.C_alloc ?_ _) | (with_reducible refine Kd.C_drewN ?_ _) | (with_reducible refine Kd.C_drew ?_))); (case side2 => exact HC0_1.out); (case side3 => repeat (first | exact (Kd.C_below HR0_2.out HB.out) | (with_reducible refine Kd.C_alloc ?_ _) | (with_reducible refine Kd.C_drewN ?_ _) | (with_reducible refine Kd.C_drew ?_))); (case side4 => exact HC0_2.out); rintro e w20 ⟨rfl, hb⟩; refine ⟨_, rfl, ?_⟩; have n0_ := Aside0.mk (blk_below (bk BK460) hb); have n1_ := Aside0.mk (below_step (bl1 HB GE460) hb); clear BK460; clear HB; have BK460 := n0_; have HB := n1_; clear n0_ n1_; (try clear hb); (try clear hb2); (try clear hk); (try clear hi); have hcz21_0 : w20.cell? ⟨gb460, 0, none⟩ = some (.int .i64 a0_0) := (blk_cell BK460.out 0).trans rfl; have hcz21_1 : w20.cell? ⟨gb460, 1, none⟩ = some (.slice A0_1 l0_1.length c0_1) := (blk_cell BK460.out 1).trans rfl; have hcz21_2 : w20.cell? ⟨gb460, 2, none⟩ = some (.slice A0_2 l0_2.length c0_2) := (blk_cell BK460.out 2).trans rfl; have hfz21_0 := blk_frozen BK460.out 0; have hfz21_1 := blk_frozen BK460.out 1; have hfz21_2 := blk_frozen BK460.out 2) | ((with_reducible refine gate_callee (f := 33) rfl ?_); refine goesL_ (some 17) rfl rfl Try.func33 (by kernel_rfl) rfl #[.agg #[.int .i64 a0_0, .slice A0_1 l0_1.length c0_1, .slice A0_2 l0_2.length c0_2]] rfl (by (try simp only [List.map_toArray, List.map_cons, List.map_nil]); first | done | rfl | (simp only [List.length_drop, List.length_take]; rfl)) ?_; (with_reducible refine (laws_toLive.calls k a0_0 _ _ l0_1 _ _ l0_2 t462 t463 t466 _ ?side1 ?side2 ?side3 ?side4 A7.out).mono ?_); (case side1 => repeat (first | exact (Kd.C_below HR0_1.out HB.out) | (with_reducible refine Kd.C_alloc ?_ _) | (with_reducible refine Kd.C_drewN ?_ _) | (with_reducible refine Kd.C_drew ?_))); (case side2 => exact HC0_1.out); (case side3 => repeat (first | exact (Kd.C_below HR0_2.out HB.out) | (with_reducible refine Kd.C_alloc ?_ _) | (with_reducible refine Kd.C_drewN ?_ _) | (with_reducible refine Kd.C_drew ?_))); (case side4 => exact HC0_2.out); rintro e w22 ⟨v464, v467, rfl, ho0, ho1, hb⟩; refine ⟨_, rfl, ?_⟩; have n0_ := Aside0.mk (Kd.R_lower ho0 (below_size (bl1 HB GE460))); have n1_ := Aside0.mk (Kd.R_lower ho1 (below_size (bl1 HB GE460))); have n2_ := Aside0.mk (blk_below (bk BK460) hb); have n3_ := Aside0.mk (below_step (bl1 HB GE460) hb); clear BK460; clear HB; have HO465 := n0_; have HO468 := n1_; have BK460 := n2_; have HB := n3_; clear n0_ n1_ n2_ n3_; (try clear hb); (try clear hb2); (try clear hk); (try clear hi); (try clear ho0); (try clear ho1); obtain ⟨Ao23, co23, eo23⟩ := Kd.R_slice HO465.out; subst eo23; obtain ⟨Ao24, co24, eo24⟩ := Kd.R_slice HO468.out; subst eo24) | ((with_reducible refine gate_callee (f := 38) rfl ?_); refine goesL_ (some 18) rfl rfl Try.func38 (by kernel_rfl) rfl #[.agg #[.int .i64 t462, .slice Ao23 t463.length co23, .slice Ao24 t466.length co24]] rfl (by (try simp only [List.map_toArray, List.map_cons, List.map_nil]); first | done | rfl | (simp only [List.length_drop, List.length_take]; rfl)) ?_; (with_reducible refine (spec_LiveNow.calls k t462 _ _ t463 _ _ t466 t469 t470 _ ?side1 ?side2 ?side3 ?side4 A8.out).mono ?_); (case side1 => repeat (first | exact (Kd.R_reads' HO465.out).2.2 | (with_reducible refine Kd.C_alloc ?_ _) | (with_reducible refine Kd.C_drewN ?_ _) | (with_reducible refine Kd.C_drew ?_))); (case side2 => exact (Kd.R_reads' HO465.out).2.1); (case side3 => repeat (first | exact (Kd.R_reads' HO468.out).2.2 | (with_reducible refine Kd.C_alloc ?_ _) | (with_reducible refine Kd.C_drewN ?_ _) | (with_reducible refine Kd.C_drew ?_))); (case side4 => exact (Kd.R_reads' HO468.out).2.1); rintro e w25 ⟨v471, rfl, ho0, hb⟩; refine ⟨_, rfl, ?_⟩; have n0_ := Aside0.mk (Kd.R_elder' (rk HO465) (Kd.R_base ho0) hb); have n1_ := Aside0.mk (Kd.R_below (rk HO468) hb); have n2_ := Aside0.mk (Kd.R_lower (Kd.R_new' ho0 (Kd.R_lt (rk HO465))) (below_size (bl1 HB GE460))); have n3_ := Aside0.mk (blk_below (bk BK460) hb); have n4_ := Aside0.mk (below_step (bl1 HB GE460) hb); clear HO465; clear HO468; clear BK460; clear HB; have HO465 := n0_; have HO468 := n1_; have HO472 := n2_; have BK460 := n3_; have HB := n4_; clear n0_ n1_ n2_ n3_ n4_; (try clear hb); (try clear hb2); (try clear hk); (try clear hi); (try clear ho0)) | ((with_reducible refine gate_dst (N := 4) rfl ?_); refine box_event ?hg (N := 4) ?hd (cs := #[.int .i64 0, .slice none 0 0]) (t := 25) ?hr ?_; (case hd => rfl); (case hg => rfl); (case hr => first | (go_simp; done) | (go_simp; rfl)); intro gb473 hg w26 hbox hb; have n0_ := Aside0.mk (Kd.R_below (rk HO465) hb); have n1_ := Aside0.mk (Kd.R_below (rk HO468) hb); have n2_ := Aside0.mk (Kd.R_below (rk HO472) hb); have n3_ := Aside0.mk (blk_below (bk BK460) hb); have n4_ := Aside0.mk (below_step (bl1 HB GE460) hb); have n5_ := Aside0.mk (hbox); have n6_ := Aside0.mk ((by rw [hg]; exact (below_size (bl1 HB GE460)) : w.heap.size ≤ gb473)); have n7_ := Aside0.mk ((by rw [hg]; exact (below_size (bl1 HB GE460)) : w.heap.size ≤ gb473)); have n8_ := Aside0.mk ((by rw [hg]; exact Nat.ne_of_lt (blk_lt (bk BK460)) : gb460 ≠ gb473)); have n9_ := Aside0.mk ((by rw [hg]; exact Nat.ne_of_gt (blk_lt (bk BK460)) : gb473 ≠ gb460)); clear HO465; clear HO468; clear HO472; clear BK460; clear HB; have HO465 := n0_; have HO468 := n1_; have HO472 := n2_; have BK460 := n3_; have HB := n4_; have BK473 := n5_; have GW473 := n6_; have GE473 := n7_; have NB460_473 := n8_; have NB473_460 := n9_; clear n0_ n1_ n2_ n3_ n4_ n5_ n6_ n7_ n8_ n9_; clear hb hbox hg; have hnb27 := NB473_460.out; have hnc27 := NB460_473.out; have hcz28_0 : w26.cell? ⟨gb473, 0, none⟩ = some (.int .i64 0) := (blk_cell BK473.out 0).trans rfl; have hcz28_1 : w26.cell? ⟨gb473, 1, none⟩ = some (.slice none 0 0) := (blk_cell BK473.out 1).trans rfl; have hfz28_0 := blk_frozen BK473.out 0; have hfz28_1 := blk_frozen BK473.out 1; obtain ⟨Ao29, co29, eo29⟩ := Kd.R_slice HO472.out; subst eo29; have hcz30_0 : w26.cell? ⟨gb460, 0, none⟩ = some (.int .i64 a0_0) := (blk_cell BK460.out 0).trans rfl; have hcz30_1 : w26.cell? ⟨gb460, 1, none⟩ = some (.slice A0_1 l0_1.length c0_1) := (blk_cell BK460.out 1).trans rfl; have hcz30_2 : w26.cell? ⟨gb460, 2, none⟩ = some (.slice A0_2 l0_2.length c0_2) := (blk_cell BK460.out 2).trans rfl; have hfz30_0 := blk_frozen BK460.out 0; have hfz30_1 := blk_frozen BK460.out 1; have hfz30_2 := blk_frozen BK460.out 2) | ((with_reducible refine gate_callee (f := 33) rfl ?_); refine goesL_ (some 20) rfl rfl Try.func33 (by kernel_rfl) rfl #[.agg #[.int .i64 a0_0, .slice A0_1 l0_1.length c0_1, .slice A0_2 l0_2.length c0_2]] rfl (by (try simp only [List.map_toArray, List.map_cons, List.map_nil]); first | done | rfl | (simp only [List.length_drop, List.length_take]; rfl)) ?_; (with_reducible refine (laws_toLive.calls k a0_0 _ _ l0_1 _ _ l0_2 t474 t475 t478 _ ?side1 ?side2 ?side3 ?side4 A9.out).mono ?_); (case side1 => exact Kd.C_below HR0_1.out (bl2 HB GE460 GE473)); (case side2 => exact HC0_1.out); (case side3 => exact Kd.C_below HR0_2.out (bl2 HB GE460 GE473)); (case side4 => exact HC0_2.out); rintro e w31 ⟨v476, v479, rfl, ho0, ho1, hb⟩; refine ⟨_, rfl, ?_⟩; have n0_ := Aside0.mk (Kd.R_elder' (by (with_reducible repeat (first | apply Kd.R_alloc | apply Kd.R_drewN | apply Kd.R_drew)); exact (Kd.R_mono (Kd.R_far (p := ⟨gb473, 1, none⟩) (Kd.R_far (p := ⟨gb473, 0, none⟩) (Kd.R_types HO465.out BK473.out (by decide)) (fun _ hk => hk.2) (.int .i64 t469)) (fun _ hk => hk.2) (.slice Ao29 t470.length co29)) (fun _ h_ => h_.1))) (Kd.R_base ho0) hb); have n1_ := Aside0.mk (Kd.R_elder' (by (with_reducible repeat (first | apply Kd.R_alloc | apply Kd.R_drewN | apply Kd.R_drew)); exact (Kd.R_mono (Kd.R_far (p := ⟨gb473, 1, none⟩) (Kd.R_far (p := ⟨gb473, 0, none⟩) (Kd.R_types HO468.out BK473.out (by decide)) (fun _ hk => hk.2) (.int .i64 t469)) (fun _ hk => hk.2) (.slice Ao29 t470.length co29)) (fun _ h_ => h_.1))) (Kd.R_base ho1) hb); have n2_ := Aside0.mk (Kd.R_elder' (by (with_reducible repeat (first | apply Kd.R_alloc | apply Kd.R_drewN | apply Kd.R_drew)); exact (Kd.R_mono (Kd.R_far (p := ⟨gb473, 1, none⟩) (Kd.R_far (p := ⟨gb473, 0, none⟩) (Kd.R_types HO472.out BK473.out (by decide)) (fun _ hk => hk.2) (.int .i64 t469)) (fun _ hk => hk.2) (.slice Ao29 t470.length co29)) (fun _ h_ => h_.1))) (Kd.R_base ho0) hb); have n3_ := Aside0.mk (Kd.R_lower (Kd.R_new' (Kd.R_new' ho0 (Kd.R_lt (by (with_reducible repeat (first | apply Kd.R_alloc | apply Kd.R_drewN | apply Kd.R_drew)); exact (Kd.R_mono (Kd.R_far (p := ⟨gb473, 1, none⟩) (Kd.R_far (p := ⟨gb473, 0, none⟩) (Kd.R_types HO465.out BK473.out (by decide)) (fun _ hk => hk.2) (.int .i64 t469)) (fun _ hk => hk.2) (.slice Ao29 t470.length co29)) (fun _ h_ => h_.1))))) (Kd.R_lt (by (with_reducible repeat (first | apply Kd.R_alloc | apply Kd.R_drewN | apply Kd.R_drew)); exact (Kd.R_mono (Kd.R_far (p := ⟨gb473, 1, none⟩) (Kd.R_far (p := ⟨gb473, 0, none⟩) (Kd.R_types HO472.out BK473.out (by decide)) (fun _ hk => hk.2) (.int .i64 t469)) (fun _ hk => hk.2) (.slice Ao29 t470.length co29)) (fun _ h_ => h_.1))))) (below_size (bl2 HB GE460 GE473))); have n4_ := Aside0.mk (Kd.R_lower (Kd.R_new' ho1 (Kd.R_lt (by (with_reducible repeat (first | apply Kd.R_alloc | apply Kd.R_drewN | apply Kd.R_drew)); exact (Kd.R_mono (Kd.R_far (p := ⟨gb473, 1, none⟩) (Kd.R_far (p := ⟨gb473, 0, none⟩) (Kd.R_types HO468.out BK473.out (by decide)) (fun _ hk => hk.2) (.int .i64 t469)) (fun _ hk => hk.2) (.slice Ao29 t470.length co29)) (fun _ h_ => h_.1))))) (below_size (bl2 HB GE460 GE473))); have n5_ := Aside0.mk (blk_below (g := gb460) (o := .cells #[.int .i64 a0_0, .slice A0_1 l0_1.length c0_1, .slice A0_2 l0_2.length c0_2] 52 (0, 0)) (by (with_reducible repeat (first | refine blk_drewN ?_ _ | refine blk_drew ?_ | refine blk_alloc ?_ _)); refine blk_far ?_ NB460_473.out _; (with_reducible repeat (first | refine blk_drewN ?_ _ | refine blk_drew ?_ | refine blk_alloc ?_ _)); refine blk_far ?_ NB460_473.out _; (with_reducible repeat (first | refine blk_drewN ?_ _ | refine blk_drew ?_ | refine blk_alloc ?_ _)); exact BK460.out) hb); have n6_ := Aside0.mk (blk_below (g := gb473) (o := .cells #[.int .i64 t469, .slice Ao29 t470.length co29] 25 (0, 0)) (by (with_reducible repeat (first | refine blk_drewN ?_ _ | refine blk_drew ?_ | refine blk_alloc ?_ _)); refine blk_put (cs := #[.int .i64 t469, .slice none 0 0]) ?_ 1 _ rfl; (with_reducible repeat (first | refine blk_drewN ?_ _ | refine blk_drew ?_ | refine blk_alloc ?_ _)); refine blk_put (cs := #[.int .i64 0, .slice none 0 0]) ?_ 0 _ rfl; (with_reducible repeat (first | refine blk_drewN ?_ _ | refine blk_drew ?_ | refine blk_alloc ?_ _)); exact BK473.out) hb); have n7_ := Aside0.mk (below_step (bl2 HB GE460 GE473) hb); clear HO465; clear HO468; clear HO472; clear BK460; clear BK473; clear HB; have HO465 := n0_; have HO468 := n1_; have HO472 := n2_; have HO477 := n3_; have HO480 := n4_; have BK460 := n5_; have BK473 := n6_; have HB := n7_; clear n0_ n1_ n2_ n3_ n4_ n5_ n6_ n7_; (try clear hb); (try clear hb2); (try clear hk); (try clear hi); (try clear ho0); (try clear ho1)) | ((with_reducible refine gate_dst (N := 5) rfl ?_); refine box_event ?hg (N := 5) ?hd (cs := #[.int .i64 0, .slice none 0 0, .slice none 0 0]) (t := 57) ?hr ?_; (case hd => rfl); (case hg => rfl); (case hr => first | (go_simp; done) | (go_simp; rfl)); intro gb481 hg w32 hbox hb; have n0_ := Aside0.mk (Kd.R_below (rk HO465) hb); have n1_ := Aside0.mk (Kd.R_below (rk HO468) hb); have n2_ := Aside0.mk (Kd.R_below (rk HO472) hb); have n3_ := Aside0.mk (Kd.R_below (rk HO477) hb); have n4_ := Aside0.mk (Kd.R_below (rk HO480) hb); have n5_ := Aside0.mk (blk_below (bk BK460) hb); have n6_ := Aside0.mk (blk_below (bk BK473) hb); have n7_ := Aside0.mk (below_step (bl2 HB GE460 GE473) hb); have n8_ := Aside0.mk (hbox); have n9_ := Aside0.mk ((by rw [hg]; exact (below_size (bl2 HB GE460 GE473)) : w.heap.size ≤ gb481)); have n10_ := Aside0.mk ((by rw [hg]; exact (below_size (bl2 HB GE460 GE473)) : w.heap.size ≤ gb481)); have n11_ := Aside0.mk ((by rw [hg]; exact Nat.ne_of_lt (blk_lt (bk BK460)) : gb460 ≠ gb481)); have n12_ := Aside0.mk ((by rw [hg]; exact Nat.ne_of_gt (blk_lt (bk BK460)) : gb481 ≠ gb460)); have n13_ := Aside0.mk ((by rw [hg]; exact Nat.ne_of_lt (blk_lt (bk BK473)) : gb473 ≠ gb481)); have n14_ := Aside0.mk ((by rw [hg]; exact Nat.ne_of_gt (blk_lt (bk BK473)) : gb481 ≠ gb473)); clear HO465; clear HO468; clear HO472; clear HO477; clear HO480; clear BK460; clear BK473; clear HB; have HO465 := n0_; have HO468 := n1_; have HO472 := n2_; have HO477 := n3_; have HO480 := n4_; have BK460 := n5_; have BK473 := n6_; have HB := n7_; have BK481 := n8_; have GW481 := n9_; have GE481 := n10_; have NB460_481 := n11_; have NB481_460 := n12_; have NB473_481 := n13_; have NB481_473 := n14_; clear n0_ n1_ n2_ n3_ n4_ n5_ n6_ n7_ n8_ n9_ n10_ n11_ n12_ n13_ n14_; clear hb hbox hg; have hnb33 := NB481_460.out; have hnc33 := NB460_481.out; have hnb34 := NB481_473.out; have hnc34 := NB473_481.out; have hcz35_0 : w32.cell? ⟨gb481, 0, none⟩ = some (.int .i64 0) := (blk_cell BK481.out 0).trans rfl; have hcz35_1 : w32.cell? ⟨gb481, 1, none⟩ = some (.slice none 0 0) := (blk_cell BK481.out 1).trans rfl; have hcz35_2 : w32.cell? ⟨gb481, 2, none⟩ = some (.slice none 0 0) := (blk_cell BK481.out 2).trans rfl; have hfz35_0 := blk_frozen BK481.out 0; have hfz35_1 := blk_frozen BK481.out 1; have hfz35_2 := blk_frozen BK481.out 2; obtain ⟨Ao36, co36, eo36⟩ := Kd.R_slice HO477.out; subst eo36; obtain ⟨Ao37, co37, eo37⟩ := Kd.R_slice HO480.out; subst eo37) | ((with_reducible refine gate_callee (f := 37) rfl ?_); refine goesL_ (some 22) rfl rfl Try.func37 (by kernel_rfl) rfl #[.agg #[.int .i64 t474, .slice Ao36 t475.length co36, .slice Ao37 t478.length co37]] rfl (by (try simp only [List.map_toArray, List.map_cons, List.map_nil]); first | done | rfl | (simp only [List.length_drop, List.length_take]; rfl)) ?_; (with_reducible refine (impl_LiveNow.calls k t474 _ _ t475 _ _ t478 t482 t483 _ ?side1 ?side2 ?side3 ?side4 A10.out).mono ?_); (case side1 => refine (Kd.R_reads' (e := 31) (base := w.heap.size) (ok := fun k_ => ((True ∧ some k_ ≠ (.slice Ao23 t463.length co23 : Value).ownBlock) ∧ some k_ ≠ (.slice Ao29 t470.length co29 : Value).ownBlock)) (n := t475.length) (c := co36) ?_).2.2; exact (by (with_reducible repeat (first | apply Kd.R_alloc | apply Kd.R_drewN | apply Kd.R_drew)); exact (Kd.R_mono (Kd.R_far (p := ⟨gb481, 2, none⟩) (Kd.R_far (p := ⟨gb481, 1, none⟩) (Kd.R_far (p := ⟨gb481, 0, none⟩) (Kd.R_types HO477.out BK481.out (by decide)) (fun _ hk => hk.2) (.int .i64 t474)) (fun _ hk => hk.2) (.slice Ao36 t475.length co36)) (fun _ hk => hk.2) (.slice Ao37 t478.length co37)) (fun _ h_ => h_.1)))); (case side2 => exact (Kd.R_reads' HO477.out).2.1); (case side3 => refine (Kd.R_reads' (e := 64) (base := w.heap.size) (ok := fun k_ => (True ∧ some k_ ≠ (.slice Ao24 t466.length co24 : Value).ownBlock)) (n := t478.length) (c := co37) ?_).2.2; exact (by (with_reducible repeat (first | apply Kd.R_alloc | apply Kd.R_drewN | apply Kd.R_drew)); exact (Kd.R_mono (Kd.R_far (p := ⟨gb481, 2, none⟩) (Kd.R_far (p := ⟨gb481, 1, none⟩) (Kd.R_far (p := ⟨gb481, 0, none⟩) (Kd.R_types HO480.out BK481.out (by decide)) (fun _ hk => hk.2) (.int .i64 t474)) (fun _ hk => hk.2) (.slice Ao36 t475.length co36)) (fun _ hk => hk.2) (.slice Ao37 t478.length co37)) (fun _ h_ => h_.1)))); (case side4 => exact (Kd.R_reads' HO480.out).2.1); rintro e w38 ⟨v484, rfl, ho0, hb⟩; refine ⟨_, rfl, ?_⟩; have n0_ := Aside0.mk (Kd.R_elder' (by (with_reducible repeat (first | apply Kd.R_alloc | apply Kd.R_drewN | apply Kd.R_drew)); exact (Kd.R_mono (Kd.R_far (p := ⟨gb481, 2, none⟩) (Kd.R_far (p := ⟨gb481, 1, none⟩) (Kd.R_far (p := ⟨gb481, 0, none⟩) (Kd.R_types HO465.out BK481.out (by decide)) (fun _ hk => hk.2) (.int .i64 t474)) (fun _ hk => hk.2) (.slice Ao36 t475.length co36)) (fun _ hk => hk.2) (.slice Ao37 t478.length co37)) (fun _ h_ => h_.1))) (Kd.R_base ho0) hb); have n1_ := Aside0.mk (Kd.R_below (by (with_reducible repeat (first | apply Kd.R_alloc | apply Kd.R_drewN | apply Kd.R_drew)); exact (Kd.R_mono (Kd.R_far (p := ⟨gb481, 2, none⟩) (Kd.R_far (p := ⟨gb481, 1, none⟩) (Kd.R_far (p := ⟨gb481, 0, none⟩) (Kd.R_types HO468.out BK481.out (by decide)) (fun _ hk => hk.2) (.int .i64 t474)) (fun _ hk => hk.2) (.slice Ao36 t475.length co36)) (fun _ hk => hk.2) (.slice Ao37 t478.length co37)) (fun _ h_ => h_.1))) hb); have n2_ := Aside0.mk (Kd.R_elder' (by (with_reducible repeat (first | apply Kd.R_alloc | apply Kd.R_drewN | apply Kd.R_drew)); exact (Kd.R_mono (Kd.R_far (p := ⟨gb481, 2, none⟩) (Kd.R_far (p := ⟨gb481, 1, none⟩) (Kd.R_far (p := ⟨gb481, 0, none⟩) (Kd.R_types HO472.out BK481.out (by decide)) (fun _ hk => hk.2) (.int .i64 t474)) (fun _ hk => hk.2) (.slice Ao36 t475.length co36)) (fun _ hk => hk.2) (.slice Ao37 t478.length co37)) (fun _ h_ => h_.1))) (Kd.R_base ho0) hb); have n3_ := Aside0.mk (Kd.R_elder' (by (with_reducible repeat (first | apply Kd.R_alloc | apply Kd.R_drewN | apply Kd.R_drew)); exact (Kd.R_mono (Kd.R_far (p := ⟨gb481, 2, none⟩) (Kd.R_far (p := ⟨gb481, 1, none⟩) (Kd.R_far (p := ⟨gb481, 0, none⟩) (Kd.R_types HO477.out BK481.out (by decide)) (fun _ hk => hk.2) (.int .i64 t474)) (fun _ hk => hk.2) (.slice Ao36 t475.length co36)) (fun _ hk => hk.2) (.slice Ao37 t478.length co37)) (fun _ h_ => h_.1))) (Kd.R_base ho0) hb); have n4_ := Aside0.mk (Kd.R_below (by (with_reducible repeat (first | apply Kd.R_alloc | apply Kd.R_drewN | apply Kd.R_drew)); exact (Kd.R_mono (Kd.R_far (p := ⟨gb481, 2, none⟩) (Kd.R_far (p := ⟨gb481, 1, none⟩) (Kd.R_far (p := ⟨gb481, 0, none⟩) (Kd.R_types HO480.out BK481.out (by decide)) (fun _ hk => hk.2) (.int .i64 t474)) (fun _ hk => hk.2) (.slice Ao36 t475.length co36)) (fun _ hk => hk.2) (.slice Ao37 t478.length co37)) (fun _ h_ => h_.1))) hb); have n5_ := Aside0.mk (Kd.R_lower (Kd.R_new' (Kd.R_new' (Kd.R_new' ho0 (Kd.R_lt (by (with_reducible repeat (first | apply Kd.R_alloc | apply Kd.R_drewN | apply Kd.R_drew)); exact (Kd.R_mono (Kd.R_far (p := ⟨gb481, 2, none⟩) (Kd.R_far (p := ⟨gb481, 1, none⟩) (Kd.R_far (p := ⟨gb481, 0, none⟩) (Kd.R_types HO465.out BK481.out (by decide)) (fun _ hk => hk.2) (.int .i64 t474)) (fun _ hk => hk.2) (.slice Ao36 t475.length co36)) (fun _ hk => hk.2) (.slice Ao37 t478.length co37)) (fun _ h_ => h_.1))))) (Kd.R_lt (by (with_reducible repeat (first | apply Kd.R_alloc | apply Kd.R_drewN | apply Kd.R_drew)); exact (Kd.R_mono (Kd.R_far (p := ⟨gb481, 2, none⟩) (Kd.R_far (p := ⟨gb481, 1, none⟩) (Kd.R_far (p := ⟨gb481, 0, none⟩) (Kd.R_types HO472.out BK481.out (by decide)) (fun _ hk => hk.2) (.int .i64 t474)) (fun _ hk => hk.2) (.slice Ao36 t475.length co36)) (fun _ hk => hk.2) (.slice Ao37 t478.length co37)) (fun _ h_ => h_.1))))) (Kd.R_lt (by (with_reducible repeat (first | apply Kd.R_alloc | apply Kd.R_drewN | apply Kd.R_drew)); exact (Kd.R_mono (Kd.R_far (p := ⟨gb481, 2, none⟩) (Kd.R_far (p := ⟨gb481, 1, none⟩) (Kd.R_far (p := ⟨gb481, 0, none⟩) (Kd.R_types HO477.out BK481.out (by decide)) (fun _ hk => hk.2) (.int .i64 t474)) (fun _ hk => hk.2) (.slice Ao36 t475.length co36)) (fun _ hk => hk.2) (.slice Ao37 t478.length co37)) (fun _ h_ => h_.1))))) (below_size (bl3 HB GE460 GE473 GE481))); have n6_ := Aside0.mk (blk_below (g := gb460) (o := .cells #[.int .i64 a0_0, .slice A0_1 l0_1.length c0_1, .slice A0_2 l0_2.length c0_2] 52 (0, 0)) (by (with_reducible repeat (first | refine blk_drewN ?_ _ | refine blk_drew ?_ | refine blk_alloc ?_ _)); refine blk_far ?_ NB460_481.out _; (with_reducible repeat (first | refine blk_drewN ?_ _ | refine blk_drew ?_ | refine blk_alloc ?_ _)); refine blk_far ?_ NB460_481.out _; (with_reducible repeat (first | refine blk_drewN ?_ _ | refine blk_drew ?_ | refine blk_alloc ?_ _)); refine blk_far ?_ NB460_481.out _; (with_reducible repeat (first | refine blk_drewN ?_ _ | refine blk_drew ?_ | refine blk_alloc ?_ _)); exact BK460.out) hb); have n7_ := Aside0.mk (blk_below (g := gb473) (o := .cells #[.int .i64 t469, .slice Ao29 t470.length co29] 25 (0, 0)) (by (with_reducible repeat (first | refine blk_drewN ?_ _ | refine blk_drew ?_ | refine blk_alloc ?_ _)); refine blk_far ?_ NB473_481.out _; (with_reducible repeat (first | refine blk_drewN ?_ _ | refine blk_drew ?_ | refine blk_alloc ?_ _)); refine blk_far ?_ NB473_481.out _; (with_reducible repeat (first | refine blk_drewN ?_ _ | refine blk_drew ?_ | refine blk_alloc ?_ _)); refine blk_far ?_ NB473_481.out _; (with_reducible repeat (first | refine blk_drewN ?_ _ | refine blk_drew ?_ | refine blk_alloc ?_ _)); exact BK473.out) hb); have n8_ := Aside0.mk (blk_below (g := gb481) (o := .cells #[.int .i64 t474, .slice Ao36 t475.length co36, .slice Ao37 t478.length co37] 57 (0, 0)) (by (with_reducible repeat (first | refine blk_drewN ?_ _ | refine blk_drew ?_ | refine blk_alloc ?_ _)); refine blk_put (cs := #[.int .i64 t474, .slice Ao36 t475.length co36, .slice none 0 0]) ?_ 2 _ rfl; (with_reducible repeat (first | refine blk_drewN ?_ _ | refine blk_drew ?_ | refine blk_alloc ?_ _)); refine blk_put (cs := #[.int .i64 t474, .slice none 0 0, .slice none 0 0]) ?_ 1 _ rfl; (with_reducible repeat (first | refine blk_drewN ?_ _ | refine blk_drew ?_ | refine blk_alloc ?_ _)); refine blk_put (cs := #[.int .i64 0, .slice none 0 0, .slice none 0 0]) ?_ 0 _ rfl; (with_reducible repeat (first | refine blk_drewN ?_ _ | refine blk_drew ?_ | refine blk_alloc ?_ _)); exact BK481.out) hb); have n9_ := Aside0.mk (below_step (bl3 HB GE460 GE473 GE481) hb); clear HO465; clear HO468; clear HO472; clear HO477; clear HO480; clear BK460; clear BK473; clear BK481; clear HB; have HO465 := n0_; have HO468 := n1_; have HO472 := n2_; have HO477 := n3_; have HO480 := n4_; have HO485 := n5_; have BK460 := n6_; have BK473 := n7_; have BK481 := n8_; have HB := n9_; clear n0_ n1_ n2_ n3_ n4_ n5_ n6_ n7_ n8_ n9_; (try clear hb); (try clear hb2); (try clear hk); (try clear hi); (try clear ho0)) | ((with_reducible refine gate_dst (N := 6) rfl ?_); refine box_event ?hg (N := 6) ?hd (cs := #[.int .i64 0, .slice none 0 0]) (t := 25) ?hr ?_; (case hd => rfl); (case hg => rfl); (case hr => first | (go_simp; done) | (go_simp; rfl)); intro gb486 hg w39 hbox hb; have n0_ := Aside0.mk (Kd.R_below (rk HO465) hb); have n1_ := Aside0.mk (Kd.R_below (rk HO468) hb); have n2_ := Aside0.mk (Kd.R_below (rk HO472) hb); have n3_ := Aside0.mk (Kd.R_below (rk HO477) hb); have n4_ := Aside0.mk (Kd.R_below (rk HO480) hb); have n5_ := Aside0.mk (Kd.R_below (rk HO485) hb); have n6_ := Aside0.mk (blk_below (bk BK460) hb); have n7_ := Aside0.mk (blk_below (bk BK473) hb); have n8_ := Aside0.mk (blk_below (bk BK481) hb); have n9_ := Aside0.mk (below_step (bl3 HB GE460 GE473 GE481) hb); have n10_ := Aside0.mk (hbox); have n11_ := Aside0.mk ((by rw [hg]; exact (below_size (bl3 HB GE460 GE473 GE481)) : w.heap.size ≤ gb486)); have n12_ := Aside0.mk ((by rw [hg]; exact (below_size (bl3 HB GE460 GE473 GE481)) : w.heap.size ≤ gb486)); have n13_ := Aside0.mk ((by rw [hg]; exact Nat.ne_of_lt (blk_lt (bk BK460)) : gb460 ≠ gb486)); have n14_ := Aside0.mk ((by rw [hg]; exact Nat.ne_of_gt (blk_lt (bk BK460)) : gb486 ≠ gb460)); have n15_ := Aside0.mk ((by rw [hg]; exact Nat.ne_of_lt (blk_lt (bk BK473)) : gb473 ≠ gb486)); have n16_ := Aside0.mk ((by rw [hg]; exact Nat.ne_of_gt (blk_lt (bk BK473)) : gb486 ≠ gb473)); have n17_ := Aside0.mk ((by rw [hg]; exact Nat.ne_of_lt (blk_lt (bk BK481)) : gb481 ≠ gb486)); have n18_ := Aside0.mk ((by rw [hg]; exact Nat.ne_of_gt (blk_lt (bk BK481)) : gb486 ≠ gb481)); clear HO465; clear HO468; clear HO472; clear HO477; clear HO480; clear HO485; clear BK460; clear BK473; clear BK481; clear HB; have HO465 := n0_; have HO468 := n1_; have HO472 := n2_; have HO477 := n3_; have HO480 := n4_; have HO485 := n5_; have BK460 := n6_; have BK473 := n7_; have BK481 := n8_; have HB := n9_; have BK486 := n10_; have GW486 := n11_; have GE486 := n12_; have NB460_486 := n13_; have NB486_460 := n14_; have NB473_486 := n15_; have NB486_473 := n16_; have NB481_486 := n17_; have NB486_481 := n18_; clear n0_ n1_ n2_ n3_ n4_ n5_ n6_ n7_ n8_ n9_ n10_ n11_ n12_ n13_ n14_ n15_ n16_ n17_ n18_; clear hb hbox hg; have hnb40 := NB486_460.out; have hnc40 := NB460_486.out; have hnb41 := NB486_473.out; have hnc41 := NB473_486.out; have hnb42 := NB486_481.out; have hnc42 := NB481_486.out; have hcz43_0 : w39.cell? ⟨gb486, 0, none⟩ = some (.int .i64 0) := (blk_cell BK486.out 0).trans rfl; have hcz43_1 : w39.cell? ⟨gb486, 1, none⟩ = some (.slice none 0 0) := (blk_cell BK486.out 1).trans rfl; have hfz43_0 := blk_frozen BK486.out 0; have hfz43_1 := blk_frozen BK486.out 1; obtain ⟨Ao44, co44, eo44⟩ := Kd.R_slice HO485.out; subst eo44; have hcz45_0 : w39.cell? ⟨gb473, 0, none⟩ = some (.int .i64 t469) := (blk_cell BK473.out 0).trans rfl; have hcz45_1 : w39.cell? ⟨gb473, 1, none⟩ = some (.slice Ao29 t470.length co29) := (blk_cell BK473.out 1).trans rfl; have hfz45_0 := blk_frozen BK473.out 0; have hfz45_1 := blk_frozen BK473.out 1) | ((with_reducible refine gate_callee (f := 22) rfl ?_); refine goesL_ (some 25) rfl rfl Try.func22 (by kernel_rfl) rfl #[.agg #[.int .i64 t482, .slice Ao44 t483.length co44], .agg #[.int .i64 t469, .slice Ao29 t470.length co29]] rfl (by (try simp only [List.map_toArray, List.map_cons, List.map_nil]); first | done | rfl | (simp only [List.length_drop, List.length_take]; rfl)) ?_; (with_reducible refine (laws_eqNet.calls k t482 _ _ t483 t469 _ _ t470 true _ ?side1 ?side2 ?side3 ?side4 A11.out).mono ?_); (case side1 => refine (Kd.R_reads' (e := 31) (base := w.heap.size) (ok := fun k_ => (((True ∧ some k_ ≠ (.slice Ao23 t463.length co23 : Value).ownBlock) ∧ some k_ ≠ (.slice Ao29 t470.length co29 : Value).ownBlock) ∧ some k_ ≠ (.slice Ao36 t475.length co36 : Value).ownBlock)) (n := t483.length) (c := co44) ?_).2.2; exact (by (with_reducible repeat (first | apply Kd.R_alloc | apply Kd.R_drewN | apply Kd.R_drew)); exact (Kd.R_mono (Kd.R_far (p := ⟨gb486, 1, none⟩) (Kd.R_far (p := ⟨gb486, 0, none⟩) (Kd.R_types HO485.out BK486.out (by decide)) (fun _ hk => hk.2) (.int .i64 t482)) (fun _ hk => hk.2) (.slice Ao44 t483.length co44)) (fun _ h_ => h_.1)))); (case side2 => exact (Kd.R_reads' HO485.out).2.1); (case side3 => refine (Kd.R_reads' (e := 31) (base := w.heap.size) (ok := fun k_ => (((True ∧ some k_ ≠ (.slice Ao23 t463.length co23 : Value).ownBlock) ∧ some k_ ≠ (.slice Ao36 t475.length co36 : Value).ownBlock) ∧ some k_ ≠ (.slice Ao44 t483.length co44 : Value).ownBlock)) (n := t470.length) (c := co29) ?_).2.2; exact (by (with_reducible repeat (first | apply Kd.R_alloc | apply Kd.R_drewN | apply Kd.R_drew)); exact (Kd.R_mono (Kd.R_far (p := ⟨gb486, 1, none⟩) (Kd.R_far (p := ⟨gb486, 0, none⟩) (Kd.R_types HO472.out BK486.out (by decide)) (fun _ hk => hk.2) (.int .i64 t482)) (fun _ hk => hk.2) (.slice Ao44 t483.length co44)) (fun _ h_ => h_.1)))); (case side4 => exact (Kd.R_reads' HO472.out).2.1); rintro e w46 ⟨rfl, hb⟩; refine ⟨_, rfl, ?_⟩; have n0_ := Aside0.mk (Kd.R_below (by (with_reducible repeat (first | apply Kd.R_alloc | apply Kd.R_drewN | apply Kd.R_drew)); exact (Kd.R_mono (Kd.R_far (p := ⟨gb486, 1, none⟩) (Kd.R_far (p := ⟨gb486, 0, none⟩) (Kd.R_types HO465.out BK486.out (by decide)) (fun _ hk => hk.2) (.int .i64 t482)) (fun _ hk => hk.2) (.slice Ao44 t483.length co44)) (fun _ h_ => h_.1))) hb); have n1_ := Aside0.mk (Kd.R_below (by (with_reducible repeat (first | apply Kd.R_alloc | apply Kd.R_drewN | apply Kd.R_drew)); exact (Kd.R_mono (Kd.R_far (p := ⟨gb486, 1, none⟩) (Kd.R_far (p := ⟨gb486, 0, none⟩) (Kd.R_types HO468.out BK486.out (by decide)) (fun _ hk => hk.2) (.int .i64 t482)) (fun _ hk => hk.2) (.slice Ao44 t483.length co44)) (fun _ h_ => h_.1))) hb); have n2_ := Aside0.mk (Kd.R_below (by (with_reducible repeat (first | apply Kd.R_alloc | apply Kd.R_drewN | apply Kd.R_drew)); exact (Kd.R_mono (Kd.R_far (p := ⟨gb486, 1, none⟩) (Kd.R_far (p := ⟨gb486, 0, none⟩) (Kd.R_types HO472.out BK486.out (by decide)) (fun _ hk => hk.2) (.int .i64 t482)) (fun _ hk => hk.2) (.slice Ao44 t483.length co44)) (fun _ h_ => h_.1))) hb); have n3_ := Aside0.mk (Kd.R_below (by (with_reducible repeat (first | apply Kd.R_alloc | apply Kd.R_drewN | apply Kd.R_drew)); exact (Kd.R_mono (Kd.R_far (p := ⟨gb486, 1, none⟩) (Kd.R_far (p := ⟨gb486, 0, none⟩) (Kd.R_types HO477.out BK486.out (by decide)) (fun _ hk => hk.2) (.int .i64 t482)) (fun _ hk => hk.2) (.slice Ao44 t483.length co44)) (fun _ h_ => h_.1))) hb); have n4_ := Aside0.mk (Kd.R_below (by (with_reducible repeat (first | apply Kd.R_alloc | apply Kd.R_drewN | apply Kd.R_drew)); exact (Kd.R_mono (Kd.R_far (p := ⟨gb486, 1, none⟩) (Kd.R_far (p := ⟨gb486, 0, none⟩) (Kd.R_types HO480.out BK486.out (by decide)) (fun _ hk => hk.2) (.int .i64 t482)) (fun _ hk => hk.2) (.slice Ao44 t483.length co44)) (fun _ h_ => h_.1))) hb); have n5_ := Aside0.mk (Kd.R_below (by (with_reducible repeat (first | apply Kd.R_alloc | apply Kd.R_drewN | apply Kd.R_drew)); exact (Kd.R_mono (Kd.R_far (p := ⟨gb486, 1, none⟩) (Kd.R_far (p := ⟨gb486, 0, none⟩) (Kd.R_types HO485.out BK486.out (by decide)) (fun _ hk => hk.2) (.int .i64 t482)) (fun _ hk => hk.2) (.slice Ao44 t483.length co44)) (fun _ h_ => h_.1))) hb); have n6_ := Aside0.mk (blk_below (g := gb460) (o := .cells #[.int .i64 a0_0, .slice A0_1 l0_1.length c0_1, .slice A0_2 l0_2.length c0_2] 52 (0, 0)) (by (with_reducible repeat (first | refine blk_drewN ?_ _ | refine blk_drew ?_ | refine blk_alloc ?_ _)); refine blk_far ?_ NB460_486.out _; (with_reducible repeat (first | refine blk_drewN ?_ _ | refine blk_drew ?_ | refine blk_alloc ?_ _)); refine blk_far ?_ NB460_486.out _; (with_reducible repeat (first | refine blk_drewN ?_ _ | refine blk_drew ?_ | refine blk_alloc ?_ _)); exact BK460.out) hb); have n7_ := Aside0.mk (blk_below (g := gb473) (o := .cells #[.int .i64 t469, .slice Ao29 t470.length co29] 25 (0, 0)) (by (with_reducible repeat (first | refine blk_drewN ?_ _ | refine blk_drew ?_ | refine blk_alloc ?_ _)); refine blk_far ?_ NB473_486.out _; (with_reducible repeat (first | refine blk_drewN ?_ _ | refine blk_drew ?_ | refine blk_alloc ?_ _)); refine blk_far ?_ NB473_486.out _; (with_reducible repeat (first | refine blk_drewN ?_ _ | refine blk_drew ?_ | refine blk_alloc ?_ _)); exact BK473.out) hb); have n8_ := Aside0.mk (blk_below (g := gb481) (o := .cells #[.int .i64 t474, .slice Ao36 t475.length co36, .slice Ao37 t478.length co37] 57 (0, 0)) (by (with_reducible repeat (first | refine blk_drewN ?_ _ | refine blk_drew ?_ | refine blk_alloc ?_ _)); refine blk_far ?_ NB481_486.out _; (with_reducible repeat (first | refine blk_drewN ?_ _ | refine blk_drew ?_ | refine blk_alloc ?_ _)); refine blk_far ?_ NB481_486.out _; (with_reducible repeat (first | refine blk_drewN ?_ _ | refine blk_drew ?_ | refine blk_alloc ?_ _)); exact BK481.out) hb); have n9_ := Aside0.mk (blk_below (g := gb486) (o := .cells #[.int .i64 t482, .slice Ao44 t483.length co44] 25 (0, 0)) (by (with_reducible repeat (first | refine blk_drewN ?_ _ | refine blk_drew ?_ | refine blk_alloc ?_ _)); refine blk_put (cs := #[.int .i64 t482, .slice none 0 0]) ?_ 1 _ rfl; (with_reducible repeat (first | refine blk_drewN ?_ _ | refine blk_drew ?_ | refine blk_alloc ?_ _)); refine blk_put (cs := #[.int .i64 0, .slice none 0 0]) ?_ 0 _ rfl; (with_reducible repeat (first | refine blk_drewN ?_ _ | refine blk_drew ?_ | refine blk_alloc ?_ _)); exact BK486.out) hb); have n10_ := Aside0.mk (below_step (bl4 HB GE460 GE473 GE481 GE486) hb); clear HO465; clear HO468; clear HO472; clear HO477; clear HO480; clear HO485; clear BK460; clear BK473; clear BK481; clear BK486; clear HB; have HO465 := n0_; have HO468 := n1_; have HO472 := n2_; have HO477 := n3_; have HO480 := n4_; have HO485 := n5_; have BK460 := n6_; have BK473 := n7_; have BK481 := n8_; have BK486 := n9_; have HB := n10_; clear n0_ n1_ n2_ n3_ n4_ n5_ n6_ n7_ n8_ n9_ n10_; (try clear hb); (try clear hb2); (try clear hk); (try clear hi)))
    have n0_ := Aside0.mk (Kd.R_drew HO465.out)
    have n1_ := Aside0.mk (Kd.R_drew HO468.out)
    have n2_ := Aside0.mk (Kd.R_drew HO472.out)
    have n3_ := Aside0.mk (Kd.R_drew HO477.out)
    have n4_ := Aside0.mk (Kd.R_drew HO480.out)
    have n5_ := Aside0.mk (Kd.R_drew HO485.out)
    have n6_ := Aside0.mk (blk_drew BK460.out)
    have n7_ := Aside0.mk (blk_drew BK473.out)
    have n8_ := Aside0.mk (blk_drew BK481.out)
    have n9_ := Aside0.mk (blk_drew BK486.out)
    have n10_ := Aside0.mk (below_drew1 HB.out)
    clear HO465
    clear HO468
    clear HO472
    clear HO477
    clear HO480
    clear HO485
    clear BK460
    clear BK473
    clear BK481
    clear BK486
    clear HB
    have HO465 := n0_
    have HO468 := n1_
    have HO472 := n2_
    have HO477 := n3_
    have HO480 := n4_
    have HO485 := n5_
    have BK460 := n6_
    have BK473 := n7_
    have BK481 := n8_
    have BK486 := n9_
    have HB := n10_
    clear n0_ n1_ n2_ n3_ n4_ n5_ n6_ n7_ n8_ n9_ n10_
    refine start_ (n := 5) (S := fun w' => w'.cell? ⟨gb481, 0, none⟩ = some (.int .i64 t474) ∧ w'.cell? ⟨gb481, 1, none⟩ = some (.slice Ao36 t475.length co36) ∧ w'.cell? ⟨gb481, 2, none⟩ = some (.slice Ao37 t478.length co37) ∧ w'.cell? ⟨gb460, 0, none⟩ = some (.int .i64 a0_0) ∧ w'.cell? ⟨gb460, 1, none⟩ = some (.slice A0_1 l0_1.length c0_1) ∧ w'.cell? ⟨gb460, 2, none⟩ = some (.slice A0_2 l0_2.length c0_2)) (ds := []) (ms 5 0) (by kernel_rfl) rfl (by kernel_rfl) ⟨(blk_cell BK481.out 0).trans rfl, (blk_cell BK481.out 1).trans rfl, (blk_cell BK481.out 2).trans rfl, (blk_cell BK460.out 0).trans rfl, (blk_cell BK460.out 1).trans rfl, (blk_cell BK460.out 2).trans rfl⟩ (fun hHeld => ?_)
    generalize w46.drew = w47 at HO465 HO468 HO472 HO477 HO480 HO485 BK460 BK473 BK481 BK486 HB hHeld ⊢
    refine take_ (i := 0) (N := some 27) (v := ?_) (a' := ?_) (ms 5 1) rfl rfl (by kernel_rfl) (fun _ _ _ h => h) (Or.inl ⟨by rfl, ?_⟩) hHeld ?_ ?_
    rotate_left
    ·rintro w' ⟨s0, s1, s2, s3, s4, s5⟩
     go_simp
     with_reducible rfl
    rotate_left
    ·simp only [Act.put, sA, sB, sC, i64_w, i32_w]
     rfl
    refine take_ (i := 1) (N := some 28) (v := ?_) (a' := ?_) (ms 5 3) rfl rfl (by kernel_rfl) (fun _ _ _ h => h) (Or.inl ⟨by rfl, ?_⟩) hHeld ?_ ?_
    rotate_left
    ·rintro w' ⟨s0, s1, s2, s3, s4, s5⟩
     go_simp
     with_reducible rfl
    rotate_left
    ·simp only [Act.put, sA, sB, sC, i64_w, i32_w]
     rfl
    refine one_ (i := 2) (N := some 29) (ms 5 7) rfl rfl (by kernel_rfl) (by decide) (fun K hK => ?_)
    refine goes_ Try.func33 (by kernel_rfl) rfl #[.agg #[.int .i64 a0_0, .slice A0_1 l0_1.length c0_1, .slice A0_2 l0_2.length c0_2]] (by rfl) rfl rfl (by (try simp only [List.map_toArray, List.map_cons, List.map_nil]); first | done | rfl | (simp only [List.length_drop, List.length_take]; rfl)) ?_
    with_reducible refine (laws_toLive.calls k a0_0 _ _ l0_1 _ _ l0_2 t488 t489 t492 _ ?side1 ?side2 ?side3 ?side4 A13.out).mono ?_
    (case side1 => repeat (first | exact (Kd.C_below HR0_1.out HB.out) | (with_reducible refine Kd.C_alloc ?_ _) | (with_reducible refine Kd.C_drewN ?_ _) | (with_reducible refine Kd.C_drew ?_)))
    (case side2 => exact HC0_1.out)
    (case side3 => repeat (first | exact (Kd.C_below HR0_2.out HB.out) | (with_reducible refine Kd.C_alloc ?_ _) | (with_reducible refine Kd.C_drewN ?_ _) | (with_reducible refine Kd.C_drew ?_)))
    (case side4 => exact HC0_2.out)
    rintro e w48 ⟨v490, v493, rfl, ho0, ho1, hb⟩
    refine ⟨_, rfl, ?_⟩
    have n0_ := Aside0.mk (Kd.R_elder' (rk HO465) (Kd.R_base ho0) hb)
    have n1_ := Aside0.mk (Kd.R_elder' (rk HO468) (Kd.R_base ho1) hb)
    have n2_ := Aside0.mk (Kd.R_elder' (rk HO472) (Kd.R_base ho0) hb)
    have n3_ := Aside0.mk (Kd.R_elder' (rk HO477) (Kd.R_base ho0) hb)
    have n4_ := Aside0.mk (Kd.R_elder' (rk HO480) (Kd.R_base ho1) hb)
    have n5_ := Aside0.mk (Kd.R_elder' (rk HO485) (Kd.R_base ho0) hb)
    have n6_ := Aside0.mk (Kd.R_lower (Kd.R_new' (Kd.R_new' (Kd.R_new' (Kd.R_new' ho0 (Kd.R_lt (rk HO465))) (Kd.R_lt (rk HO472))) (Kd.R_lt (rk HO477))) (Kd.R_lt (rk HO485))) (below_size (bl4 HB GE460 GE473 GE481 GE486)))
    have n7_ := Aside0.mk (Kd.R_lower (Kd.R_new' (Kd.R_new' ho1 (Kd.R_lt (rk HO468))) (Kd.R_lt (rk HO480))) (below_size (bl4 HB GE460 GE473 GE481 GE486)))
    have n8_ := Aside0.mk (blk_below (bk BK460) hb)
    have n9_ := Aside0.mk (blk_below (bk BK473) hb)
    have n10_ := Aside0.mk (blk_below (bk BK481) hb)
    have n11_ := Aside0.mk (blk_below (bk BK486) hb)
    have n12_ := Aside0.mk (below_step (bl4 HB GE460 GE473 GE481 GE486) hb)
    clear HO465
    clear HO468
    clear HO472
    clear HO477
    clear HO480
    clear HO485
    clear BK460
    clear BK473
    clear BK481
    clear BK486
    clear HB
    have HO465 := n0_
    have HO468 := n1_
    have HO472 := n2_
    have HO477 := n3_
    have HO480 := n4_
    have HO485 := n5_
    have HO491 := n6_
    have HO494 := n7_
    have BK460 := n8_
    have BK473 := n9_
    have BK481 := n10_
    have BK486 := n11_
    have HB := n12_
    clear n0_ n1_ n2_ n3_ n4_ n5_ n6_ n7_ n8_ n9_ n10_ n11_ n12_
    (try clear hb)
    (try clear hb2)
    (try clear hk)
    (try clear hi)
    (try clear ho0)
    (try clear ho1)
    obtain ⟨Ao49, co49, eo49⟩ := Kd.R_slice HO491.out
    (first | subst eo49 | (injection eo49 with f1_ f2_ f3_; have f4_ := f1_.symm; have f5_ := f3_.symm; clear f1_ f2_ f3_; subst f4_; subst f5_))
    obtain ⟨Ao50, co50, eo50⟩ := Kd.R_slice HO494.out
    (first | subst eo50 | (injection eo50 with f1_ f2_ f3_; have f4_ := f1_.symm; have f5_ := f3_.symm; clear f1_ f2_ f3_; subst f4_; subst f5_))
    refine hK.out _ _ ⟨(blk_cell BK481.out 0).trans rfl, (blk_cell BK481.out 1).trans rfl, (blk_cell BK481.out 2).trans rfl, (blk_cell BK460.out 0).trans rfl, (blk_cell BK460.out 1).trans rfl, (blk_cell BK460.out 2).trans rfl⟩ (fun hHeld => ?_)
    clear hK K
    refine norm_ (a' := ?_) ?_ ?_
    rotate_left
    ·show Act.put _ (some 29) _ = _
     simp only [Act.put, sA, sB, sC, i64_w, i32_w]
     rfl
    refine one_ (i := 3) (N := some 30) (ms 5 15) rfl rfl (by kernel_rfl) (by decide) (fun K hK => ?_)
    refine goes_ Try.func35 (by kernel_rfl) rfl #[.agg #[.int .i64 t474, .slice Ao36 t475.length co36, .slice Ao37 t478.length co37], .agg #[.int .i64 t488, .slice Ao49 t489.length co49, .slice Ao50 t492.length co50]] (by rfl) rfl rfl (by (try simp only [List.map_toArray, List.map_cons, List.map_nil]); first | done | rfl | (simp only [List.length_drop, List.length_take]; rfl)) ?_
    with_reducible refine (laws_eqLive.calls k t474 _ _ t475 _ _ t478 t488 _ _ t489 _ _ t492 true _ ?side1 ?side2 ?side3 ?side4 ?side5 ?side6 ?side7 ?side8 A14.out).mono ?_
    (case side1 => repeat (first | exact (Kd.R_reads' HO477.out).2.2 | (with_reducible refine Kd.C_alloc ?_ _) | (with_reducible refine Kd.C_drewN ?_ _) | (with_reducible refine Kd.C_drew ?_)))
    (case side2 => exact (Kd.R_reads' HO477.out).2.1)
    (case side3 => repeat (first | exact (Kd.R_reads' HO480.out).2.2 | (with_reducible refine Kd.C_alloc ?_ _) | (with_reducible refine Kd.C_drewN ?_ _) | (with_reducible refine Kd.C_drew ?_)))
    (case side4 => exact (Kd.R_reads' HO480.out).2.1)
    (case side5 => repeat (first | exact (Kd.R_reads' HO491.out).2.2 | (with_reducible refine Kd.C_alloc ?_ _) | (with_reducible refine Kd.C_drewN ?_ _) | (with_reducible refine Kd.C_drew ?_)))
    (case side6 => exact (Kd.R_reads' HO491.out).2.1)
    (case side7 => repeat (first | exact (Kd.R_reads' HO494.out).2.2 | (with_reducible refine Kd.C_alloc ?_ _) | (with_reducible refine Kd.C_drewN ?_ _) | (with_reducible refine Kd.C_drew ?_)))
    (case side8 => exact (Kd.R_reads' HO494.out).2.1)
    rintro e w51 ⟨rfl, hb⟩
    refine ⟨_, rfl, ?_⟩
    have n0_ := Aside0.mk (Kd.R_below (rk HO465) hb)
    have n1_ := Aside0.mk (Kd.R_below (rk HO468) hb)
    have n2_ := Aside0.mk (Kd.R_below (rk HO472) hb)
    have n3_ := Aside0.mk (Kd.R_below (rk HO477) hb)
    have n4_ := Aside0.mk (Kd.R_below (rk HO480) hb)
    have n5_ := Aside0.mk (Kd.R_below (rk HO485) hb)
    have n6_ := Aside0.mk (Kd.R_below (rk HO491) hb)
    have n7_ := Aside0.mk (Kd.R_below (rk HO494) hb)
    have n8_ := Aside0.mk (blk_below (bk BK460) hb)
    have n9_ := Aside0.mk (blk_below (bk BK473) hb)
    have n10_ := Aside0.mk (blk_below (bk BK481) hb)
    have n11_ := Aside0.mk (blk_below (bk BK486) hb)
    have n12_ := Aside0.mk (below_step (bl4 HB GE460 GE473 GE481 GE486) hb)
    clear HO465
    clear HO468
    clear HO472
    clear HO477
    clear HO480
    clear HO485
    clear HO491
    clear HO494
    clear BK460
    clear BK473
    clear BK481
    clear BK486
    clear HB
    have HO465 := n0_
    have HO468 := n1_
    have HO472 := n2_
    have HO477 := n3_
    have HO480 := n4_
    have HO485 := n5_
    have HO491 := n6_
    have HO494 := n7_
    have BK460 := n8_
    have BK473 := n9_
    have BK481 := n10_
    have BK486 := n11_
    have HB := n12_
    clear n0_ n1_ n2_ n3_ n4_ n5_ n6_ n7_ n8_ n9_ n10_ n11_ n12_
    (try clear hb)
    (try clear hb2)
    (try clear hk)
    (try clear hi)
    refine hK.out _ _ ⟨(blk_cell BK481.out 0).trans rfl, (blk_cell BK481.out 1).trans rfl, (blk_cell BK481.out 2).trans rfl, (blk_cell BK460.out 0).trans rfl, (blk_cell BK460.out 1).trans rfl, (blk_cell BK460.out 2).trans rfl⟩ (fun hHeld => ?_)
    clear hK K
    refine norm_ (a' := ?_) ?_ ?_
    rotate_left
    ·show Act.put _ (some 30) _ = _
     simp only [Act.put, sA, sB, sC, i64_w, i32_w]
     rfl
    refine pure_ (i := 4) (N := some 31) (v := ?_) (a' := ?_) (ms 5 31) rfl rfl (by kernel_rfl) (fun _ _ _ h => h) (Or.inl ⟨by rfl, ?_⟩) ?_ ?_
    rotate_left
    ·intro w'
     go_simp
     with_reducible rfl
    rotate_left
    ·simp only [Act.put, sA, sB, sC, i64_w, i32_w]
     rfl
    refine done_ (by kernel_rfl) ?_
    have hcz52_0 : w51.cell? ⟨gb481, 0, none⟩ = some (.int .i64 t474) := (blk_cell BK481.out 0).trans rfl
    have hcz52_1 : w51.cell? ⟨gb481, 1, none⟩ = some (.slice Ao36 t475.length co36) := (blk_cell BK481.out 1).trans rfl
    have hcz52_2 : w51.cell? ⟨gb481, 2, none⟩ = some (.slice Ao37 t478.length co37) := (blk_cell BK481.out 2).trans rfl
    have hfz52_0 := blk_frozen BK481.out 0
    have hfz52_1 := blk_frozen BK481.out 1
    have hfz52_2 := blk_frozen BK481.out 2
    go_upto_region 14 with (first | ((with_reducible refine gate_callee (f := 39) rfl ?_); refine goesL_ (some 34) rfl rfl Try.func39 (by kernel_rfl) rfl #[.agg #[.int .i64 t474, .slice Ao36 t475.length co36, .slice Ao37 t478.length co37], .int .i64 1] rfl (by (try simp only [List.map_toArray, List.map_cons, List.map_nil]); first | done | rfl | (simp only [List.length_drop, List.length_take]; rfl)) ?_; (with_reducible refine (laws_markLive.calls k t474 (fun k_ => some k_ = (.slice Ao36 t475.length co36 : Value).ownBlock) (.slice Ao36 t475.length co36) t475 (fun k_ => some k_ = (.slice Ao37 t478.length co37 : Value).ownBlock) (.slice Ao37 t478.length co37) t478 1 t496 t497 t498 w _ ?side1 ?side2 ?side3 A16.out).mono ?_); (case side1 => repeat (first | (with_reducible first | exact HB.out | apply below_alloc | apply pw_below_drewN | apply below_drew1 | refine below_set ?_ GE460.out | refine below_set ?_ GE473.out | refine below_set ?_ GE481.out | refine below_set ?_ GE486.out) | exact HB.out)); (case side2 => exact Kd.R_tight rfl HO477.out); (case side3 => exact Kd.R_tight rfl HO480.out); rintro e w53 ⟨rfl, hy0, hy1, hb, hkp⟩; refine ⟨_, rfl, ?_⟩; have n0_ := Aside0.mk (blk_kept (bk BK460) hkp (fun hs_ => Or.elim hs_ (fun e_ => (fun e_ => (Kd.R_ne HO477.out BK460.out (by decide)) e_) e_) (fun e_ => (fun e_ => (Kd.R_ne HO480.out BK460.out (by decide)) e_) e_))); have n1_ := Aside0.mk (Kd.R_mono (ok' := fun k_ => some k_ ≠ (.slice Ao29 t470.length co29 : Value).ownBlock ∧ some k_ ≠ (.slice Ao36 t475.length co36 : Value).ownBlock ∧ some k_ ≠ (.slice Ao44 t483.length co44 : Value).ownBlock ∧ some k_ ≠ (.slice Ao49 t489.length co49 : Value).ownBlock) (Kd.R_keptB ((Kd.R_apart' HO465.out (Kd.R_typed HO480.out) (by decide))) hkp (fun k_ hk_ hs_ => Or.elim hs_ (fun e_ => (hk_.1.1.1.2) e_) (fun e_ => (hk_.2) e_))) (fun k_ hk_ => ⟨hk_.1.1.1.1.1.2, hk_.1.1.1.1.2, hk_.1.1.1.2, hk_.1.1.2⟩)); have n2_ := Aside0.mk (Kd.R_mono (ok' := fun k_ => some k_ ≠ (.slice Ao37 t478.length co37 : Value).ownBlock ∧ some k_ ≠ (.slice Ao50 t492.length co50 : Value).ownBlock) (Kd.R_keptB ((Kd.R_apart' HO468.out (Kd.R_typed HO477.out) (by decide))) hkp (fun k_ hk_ hs_ => Or.elim hs_ (fun e_ => (hk_.2) e_) (fun e_ => (hk_.1.1.2) e_))) (fun k_ hk_ => ⟨hk_.1.1.1.2, hk_.1.1.2⟩)); have n3_ := Aside0.mk (Kd.R_mono (ok' := fun k_ => some k_ ≠ (.slice Ao23 t463.length co23 : Value).ownBlock ∧ some k_ ≠ (.slice Ao36 t475.length co36 : Value).ownBlock ∧ some k_ ≠ (.slice Ao44 t483.length co44 : Value).ownBlock ∧ some k_ ≠ (.slice Ao49 t489.length co49 : Value).ownBlock) (Kd.R_keptB ((Kd.R_apart' HO472.out (Kd.R_typed HO480.out) (by decide))) hkp (fun k_ hk_ hs_ => Or.elim hs_ (fun e_ => (hk_.1.1.1.2) e_) (fun e_ => (hk_.2) e_))) (fun k_ hk_ => ⟨hk_.1.1.1.1.1.2, hk_.1.1.1.1.2, hk_.1.1.1.2, hk_.1.1.2⟩)); have n4_ := Aside0.mk (blk_kept (bk BK473) hkp (fun hs_ => Or.elim hs_ (fun e_ => (fun e_ => (Kd.R_ne HO477.out BK473.out (by decide)) e_) e_) (fun e_ => (fun e_ => (Kd.R_ne HO480.out BK473.out (by decide)) e_) e_))); have n5_ := Aside0.mk (Kd.R_reok rfl hy0 (fun k_ e_ => HO477.out.1 k_ e_)); have n6_ := Aside0.mk (Kd.R_reok rfl hy1 (fun k_ e_ => HO480.out.1 k_ e_)); have n7_ := Aside0.mk (blk_kept (bk BK481) hkp (fun hs_ => Or.elim hs_ (fun e_ => (fun e_ => (Kd.R_ne HO477.out BK481.out (by decide)) e_) e_) (fun e_ => (fun e_ => (Kd.R_ne HO480.out BK481.out (by decide)) e_) e_))); have n8_ := Aside0.mk (Kd.R_mono (ok' := fun k_ => some k_ ≠ (.slice Ao23 t463.length co23 : Value).ownBlock ∧ some k_ ≠ (.slice Ao29 t470.length co29 : Value).ownBlock ∧ some k_ ≠ (.slice Ao36 t475.length co36 : Value).ownBlock ∧ some k_ ≠ (.slice Ao49 t489.length co49 : Value).ownBlock) (Kd.R_keptB ((Kd.R_apart' HO485.out (Kd.R_typed HO480.out) (by decide))) hkp (fun k_ hk_ hs_ => Or.elim hs_ (fun e_ => (hk_.1.1.2) e_) (fun e_ => (hk_.2) e_))) (fun k_ hk_ => ⟨hk_.1.1.1.1.1.2, hk_.1.1.1.1.2, hk_.1.1.1.2, hk_.1.1.2⟩)); have n9_ := Aside0.mk (blk_kept (bk BK486) hkp (fun hs_ => Or.elim hs_ (fun e_ => (fun e_ => (Kd.R_ne HO477.out BK486.out (by decide)) e_) e_) (fun e_ => (fun e_ => (Kd.R_ne HO480.out BK486.out (by decide)) e_) e_))); have n10_ := Aside0.mk (Kd.R_mono (ok' := fun k_ => some k_ ≠ (.slice Ao23 t463.length co23 : Value).ownBlock ∧ some k_ ≠ (.slice Ao29 t470.length co29 : Value).ownBlock ∧ some k_ ≠ (.slice Ao36 t475.length co36 : Value).ownBlock ∧ some k_ ≠ (.slice Ao44 t483.length co44 : Value).ownBlock) (Kd.R_keptB ((Kd.R_apart' HO491.out (Kd.R_typed HO480.out) (by decide))) hkp (fun k_ hk_ hs_ => Or.elim hs_ (fun e_ => (hk_.1.1.2) e_) (fun e_ => (hk_.2) e_))) (fun k_ hk_ => ⟨hk_.1.1.1.1.1.2, hk_.1.1.1.1.2, hk_.1.1.1.2, hk_.1.1.2⟩)); have n11_ := Aside0.mk (Kd.R_mono (ok' := fun k_ => some k_ ≠ (.slice Ao24 t466.length co24 : Value).ownBlock ∧ some k_ ≠ (.slice Ao37 t478.length co37 : Value).ownBlock) (Kd.R_keptB ((Kd.R_apart' HO494.out (Kd.R_typed HO477.out) (by decide))) hkp (fun k_ hk_ hs_ => Or.elim hs_ (fun e_ => (hk_.2) e_) (fun e_ => (hk_.1.2) e_))) (fun k_ hk_ => ⟨hk_.1.1.1.2, hk_.1.1.2⟩)); have n12_ := Aside0.mk (hb); clear BK460; clear HO465; clear HO468; clear HO472; clear BK473; clear HO477; clear HO480; clear BK481; clear HO485; clear BK486; clear HO491; clear HO494; clear HB; have BK460 := n0_; have HO465 := n1_; have HO468 := n2_; have HO472 := n3_; have BK473 := n4_; have HO477 := n5_; have HO480 := n6_; have BK481 := n7_; have HO485 := n8_; have BK486 := n9_; have HO491 := n10_; have HO494 := n11_; have HB := n12_; clear n0_ n1_ n2_ n3_ n4_ n5_ n6_ n7_ n8_ n9_ n10_ n11_ n12_; (try clear hb); (try clear hkp); (try clear hy0); (try clear hy1)))
    (try simp only [Act.put, List.setIfInBounds_toArray, List.set_cons_zero, List.set_cons_succ])
    go_cut [42] (fun v42 wc => ∃ (kq : Nat) (x42_16 : Bool), v42 = .bool x42_16 ∧ Aside0 (laws_FnExactLiveNow.j0 kq x42_16 a0_0 l0_1 l0_2 t469 t470 t482 t483 = some r) ∧ Aside0 (kq ≤ k) ∧ Aside0 (Kd.R k31 31 wc w.heap.size (fun k_ => some k_ ≠ ((.slice Ao36 t475.length co36) : Value).ownBlock ∧ some k_ ≠ ((.slice Ao44 t483.length co44) : Value).ownBlock) (.slice Ao29 t470.length co29) t470) ∧ Aside0 (Kd.R k31 31 wc w.heap.size (fun k_ => some k_ ≠ ((.slice Ao29 t470.length co29) : Value).ownBlock ∧ some k_ ≠ ((.slice Ao44 t483.length co44) : Value).ownBlock) (.slice Ao36 t475.length co36) t497) ∧ Aside0 (Kd.R k64 64 wc w.heap.size (fun _ => True) (.slice Ao37 t478.length co37) t498) ∧ Aside0 (Kd.R k31 31 wc w.heap.size (fun k_ => some k_ ≠ ((.slice Ao29 t470.length co29) : Value).ownBlock ∧ some k_ ≠ ((.slice Ao36 t475.length co36) : Value).ownBlock) (.slice Ao44 t483.length co44) t483) ∧ Aside0 (wc.heap[gb460]? = some (.cells #[.int .i64 a0_0, (.slice A0_1 l0_1.length c0_1), (.slice A0_2 l0_2.length c0_2)] 52 (0, 0))) ∧ Aside0 (wc.heap[gb473]? = some (.cells #[.int .i64 t469, (.slice Ao29 t470.length co29)] 25 (0, 0))) ∧ Aside0 (wc.heap[gb481]? = some (.cells #[.int .i64 t474, (.slice Ao36 t475.length co36), (.slice Ao37 t478.length co37)] 57 (0, 0))) ∧ Aside0 (wc.heap[gb486]? = some (.cells #[.int .i64 t482, (.slice Ao44 t483.length co44)] 25 (0, 0))) ∧ Aside0 (Below w.heap.size w wc))
    case first =>
     have H := HC17.out
     clear HC17
     by_cases c54 : t496 < 0
     ·rw [if_pos c54] at H
      have c54b0 : decide (t496 < 0) = true := decide_eq_true c54
      clear c54
      (first | rw [c54b0] | (simp only [i64_w, i32_w]; rw [c54b0]) | skip)
      have H' := Aside0.mk H
      clear H
      go_wp2
      go_meet
      case rel => exact ⟨_, (true), (by first | rfl | (simp; done) | (simp [*]; done)), H', ⟨by first | omega | exact Nat.le_refl _⟩, ⟨by (with_reducible repeat (first | apply Kd.R_alloc | apply Kd.R_drewN | apply Kd.R_drew)); exact Kd.R_mono HO472.out (fun _ hk => ⟨hk.2.1, hk.2.2.1⟩)⟩, ⟨by (with_reducible repeat (first | apply Kd.R_alloc | apply Kd.R_drewN | apply Kd.R_drew)); exact Kd.R_mono HO477.out (fun _ hk => ⟨hk.1.1.2, hk.1.2⟩)⟩, ⟨by (with_reducible repeat (first | apply Kd.R_alloc | apply Kd.R_drewN | apply Kd.R_drew)); exact Kd.R_mono HO480.out (fun _ hk => trivial)⟩, ⟨by (with_reducible repeat (first | apply Kd.R_alloc | apply Kd.R_drewN | apply Kd.R_drew)); exact Kd.R_mono HO485.out (fun _ hk => ⟨hk.2.1, hk.2.2.1⟩)⟩, ⟨bk BK460⟩, ⟨bk BK473⟩, ⟨bk BK481⟩, ⟨bk BK486⟩, ⟨bl4 HB GE460 GE473 GE481 GE486⟩⟩
     ·rw [if_neg c54] at H
      have c54b0 : decide (t496 < 0) = false := decide_eq_false c54
      clear c54
      (first | rw [c54b0] | (simp only [i64_w, i32_w]; rw [c54b0]) | skip)
      replace H := Option.bind_eq_some_iff.mp H
      obtain ⟨t499, A550, H⟩ := H
      have A55 := Aside0.mk A550
      clear A550
      have H' := Aside0.mk H
      clear H
      have hnb56 := NB486_460.out
      have hnc56 := NB460_486.out
      have hnb57 := NB486_473.out
      have hnc57 := NB473_486.out
      have hnb58 := NB486_481.out
      have hnc58 := NB481_486.out
      have hcz59_0 : w53.cell? ⟨gb486, 0, none⟩ = some (.int .i64 t482) := (blk_cell BK486.out 0).trans rfl
      have hcz59_1 : w53.cell? ⟨gb486, 1, none⟩ = some (.slice Ao44 t483.length co44) := (blk_cell BK486.out 1).trans rfl
      have hfz59_0 := blk_frozen BK486.out 0
      have hfz59_1 := blk_frozen BK486.out 1
      have hnb60 := NB473_460.out
      have hnc60 := NB460_473.out
      have hnb61 := NB473_481.out
      have hnc61 := NB481_473.out
      have hcz62_0 : w53.cell? ⟨gb473, 0, none⟩ = some (.int .i64 t469) := (blk_cell BK473.out 0).trans rfl
      have hcz62_1 : w53.cell? ⟨gb473, 1, none⟩ = some (.slice Ao29 t470.length co29) := (blk_cell BK473.out 1).trans rfl
      have hfz62_0 := blk_frozen BK473.out 0
      have hfz62_1 := blk_frozen BK473.out 1
      go_wp2_with (first | (go_at_call 22; (with_reducible refine (laws_eqNet.calls k t482 _ _ t483 t469 _ _ t470 t499 _ ?side1 ?side2 ?side3 ?side4 A55.out).mono ?_); (case side1 => repeat (first | exact (Kd.R_reads' HO485.out).2.2 | (with_reducible refine Kd.C_alloc ?_ _) | (with_reducible refine Kd.C_drewN ?_ _) | (with_reducible refine Kd.C_drew ?_))); (case side2 => exact (Kd.R_reads' HO485.out).2.1); (case side3 => repeat (first | exact (Kd.R_reads' HO472.out).2.2 | (with_reducible refine Kd.C_alloc ?_ _) | (with_reducible refine Kd.C_drewN ?_ _) | (with_reducible refine Kd.C_drew ?_))); (case side4 => exact (Kd.R_reads' HO472.out).2.1); rintro e w63 ⟨rfl, hb⟩; have n0_ := Aside0.mk (Kd.R_below (rk HO465) hb); have n1_ := Aside0.mk (Kd.R_below (rk HO468) hb); have n2_ := Aside0.mk (Kd.R_below (rk HO472) hb); have n3_ := Aside0.mk (Kd.R_below (rk HO477) hb); have n4_ := Aside0.mk (Kd.R_below (rk HO480) hb); have n5_ := Aside0.mk (Kd.R_below (rk HO485) hb); have n6_ := Aside0.mk (Kd.R_below (rk HO491) hb); have n7_ := Aside0.mk (Kd.R_below (rk HO494) hb); have n8_ := Aside0.mk (blk_below (bk BK460) hb); have n9_ := Aside0.mk (blk_below (bk BK473) hb); have n10_ := Aside0.mk (blk_below (bk BK481) hb); have n11_ := Aside0.mk (blk_below (bk BK486) hb); have n12_ := Aside0.mk (below_step (bl4 HB GE460 GE473 GE481 GE486) hb); clear HO465; clear HO468; clear HO472; clear HO477; clear HO480; clear HO485; clear HO491; clear HO494; clear BK460; clear BK473; clear BK481; clear BK486; clear HB; have HO465 := n0_; have HO468 := n1_; have HO472 := n2_; have HO477 := n3_; have HO480 := n4_; have HO485 := n5_; have HO491 := n6_; have HO494 := n7_; have BK460 := n8_; have BK473 := n9_; have BK481 := n10_; have BK486 := n11_; have HB := n12_; clear n0_ n1_ n2_ n3_ n4_ n5_ n6_ n7_ n8_ n9_ n10_ n11_ n12_; (try clear hb); (try clear hb2); (try clear hk); (try clear hi)))
      go_meet
      case rel => exact ⟨_, (!t499), (by first | rfl | (simp; done) | (simp [*]; done)), H', ⟨by first | omega | exact Nat.le_refl _⟩, ⟨by (with_reducible repeat (first | apply Kd.R_alloc | apply Kd.R_drewN | apply Kd.R_drew)); exact Kd.R_mono HO472.out (fun _ hk => ⟨hk.2.1, hk.2.2.1⟩)⟩, ⟨by (with_reducible repeat (first | apply Kd.R_alloc | apply Kd.R_drewN | apply Kd.R_drew)); exact Kd.R_mono HO477.out (fun _ hk => ⟨hk.1.1.2, hk.1.2⟩)⟩, ⟨by (with_reducible repeat (first | apply Kd.R_alloc | apply Kd.R_drewN | apply Kd.R_drew)); exact Kd.R_mono HO480.out (fun _ hk => trivial)⟩, ⟨by (with_reducible repeat (first | apply Kd.R_alloc | apply Kd.R_drewN | apply Kd.R_drew)); exact Kd.R_mono HO485.out (fun _ hk => ⟨hk.2.1, hk.2.2.1⟩)⟩, ⟨bk BK460⟩, ⟨bk BK473⟩, ⟨bk BK481⟩, ⟨bk BK486⟩, ⟨bl4 HB GE460 GE473 GE481 GE486⟩⟩
    case rest =>
     clear HC17
     try clear c1
     try clear c2
     try clear p2
     try clear c3
     try clear c3b0
     try clear c4
     try clear c5
     try clear c6
     try clear c9
     try clear c12
     try clear c15
     try clear c22
     try clear c27
     try clear c31
     try clear c33
     try clear c34
     try clear c35
     try clear c37
     try clear c38
     try clear c39
     try clear c40
     try clear c41
     try clear c42
     try clear c54
     try clear c54b0
     try clear c56
     try clear c57
     try clear c58
     try clear c60
     try clear c61
     try clear hcz19_0
     try clear hcz19_1
     try clear hcz19_2
     try clear hcz21_0
     try clear hcz21_1
     try clear hcz21_2
     try clear hcz28_0
     try clear hcz28_1
     try clear hcz30_0
     try clear hcz30_1
     try clear hcz30_2
     try clear hcz35_0
     try clear hcz35_1
     try clear hcz35_2
     try clear hcz43_0
     try clear hcz43_1
     try clear hcz45_0
     try clear hcz45_1
     try clear hcz52_0
     try clear hcz52_1
     try clear hcz52_2
     try clear hcz59_0
     try clear hcz59_1
     try clear hcz5_0
     try clear hcz5_1
     try clear hcz5_2
     try clear hcz62_0
     try clear hcz62_1
     try clear hfz19_0
     try clear hfz19_1
     try clear hfz19_2
     try clear hfz21_0
     try clear hfz21_1
     try clear hfz21_2
     try clear hfz28_0
     try clear hfz28_1
     try clear hfz30_0
     try clear hfz30_1
     try clear hfz30_2
     try clear hfz35_0
     try clear hfz35_1
     try clear hfz35_2
     try clear hfz43_0
     try clear hfz43_1
     try clear hfz45_0
     try clear hfz45_1
     try clear hfz52_0
     try clear hfz52_1
     try clear hfz52_2
     try clear hfz59_0
     try clear hfz59_1
     try clear hfz5_0
     try clear hfz5_1
     try clear hfz5_2
     try clear hfz62_0
     try clear hfz62_1
     obtain ⟨kq, x42_16, rfl, HA, HJ16, HO_474001, HO_482001, HO_482002, HO_487001, BK460, BK473, BK481, BK486, HB⟩ := hcut
     have hl482001_16 := (Kd.R_reads' HO_482001.out).1
     rw [hl482001_16] at HO_482001
     (try simp only [hl482001_16])
     (try simp only [hl482001_16] at BK460)
     (try simp only [hl482001_16] at BK473)
     (try simp only [hl482001_16] at BK481)
     (try simp only [hl482001_16] at BK486)
     (try simp only [hl482001_16] at HO_474001)
     (try simp only [hl482001_16] at HO_482002)
     (try simp only [hl482001_16] at HO_487001)
     have hl482002_16 := (Kd.R_reads' HO_482002.out).1
     rw [hl482002_16] at HO_482002
     (try simp only [hl482002_16])
     (try simp only [hl482002_16] at BK460)
     (try simp only [hl482002_16] at BK473)
     (try simp only [hl482002_16] at BK481)
     (try simp only [hl482002_16] at BK486)
     (try simp only [hl482002_16] at HO_474001)
     (try simp only [hl482002_16] at HO_482001)
     (try simp only [hl482002_16] at HO_487001)
     cases kq with
     | zero => exact absurd HA.out (by simp [laws_FnExactLiveNow.j0])
     | succ kj16 =>
      have H := HA.out
      clear HA
      simp only [laws_FnExactLiveNow.j0] at H
      by_cases c64 : x42_16 = true
      ·subst c64
       rw [if_pos rfl] at H
       exact absurd ((Option.some.inj H).trans hr_) Bool.false_ne_true
      ·replace c64 := Bool.eq_false_iff.mpr c64
       subst c64
       rw [if_neg (show ¬ (false = true) by decide)] at H
       replace H := Option.bind_eq_some_iff.mp H
       obtain ⟨⟨t500, t501⟩, A650, H⟩ := H
       have A65 := Aside0.mk A650
       clear A650
       replace H := Option.bind_eq_some_iff.mp H
       obtain ⟨t502, A660, H⟩ := H
       have A66 := Aside0.mk A660
       clear A660
       by_cases c67 : t502 < 0
       ·rw [if_pos c67] at H
        have c67b0 : decide (t502 < 0) = true := decide_eq_true c67
        clear c67
        exact absurd ((Option.some.inj H).trans hr_) Bool.false_ne_true
       ·rw [if_neg c67] at H
        have c67b0 : decide (t502 < 0) = false := decide_eq_false c67
        clear c67
        by_cases c68 : t502 = t500
        ·rw [if_pos c68] at H
         have c68b0 : (t502 == t500) = true := beq_iff_eq.mpr c68
         have c68b1 : (t502 != t500) = false := bne_eq_false_iff_eq.mpr c68
         clear c68
         replace H := Option.bind_eq_some_iff.mp H
         obtain ⟨⟨t503, t504, t507⟩, A690, H⟩ := H
         have A69 := Aside0.mk A690
         clear A690
         replace H := Option.bind_eq_some_iff.mp H
         obtain ⟨⟨t510, t511⟩, A700, H⟩ := H
         have A70 := Aside0.mk A700
         clear A700
         replace H := Option.bind_eq_some_iff.mp H
         obtain ⟨t515, A710, H⟩ := H
         have A71 := Aside0.mk A710
         clear A710
         by_cases c72 : t515 = true
         ·subst c72
          rw [if_pos rfl] at H
          replace H := Option.bind_eq_some_iff.mp H
          obtain ⟨t516, A730, H⟩ := H
          have A73 := Aside0.mk A730
          clear A730
          by_cases c74 : t516 < 0
          ·rw [if_pos c74] at H
           have c74b0 : decide (t516 < 0) = true := decide_eq_true c74
           clear c74
           exact absurd ((Option.some.inj H).trans hr_) Bool.false_ne_true
          ·rw [if_neg c74] at H
           have c74b0 : decide (t516 < 0) = false := decide_eq_false c74
           clear c74
           by_cases c75 : t516 = t500
           ·rw [if_pos c75] at H
            have c75b0 : (t516 == t500) = true := beq_iff_eq.mpr c75
            have c75b1 : (t516 != t500) = false := bne_eq_false_iff_eq.mpr c75
            clear c75
            obtain rfl := Option.some.inj H
            have hnb76 := NB486_460.out
            have hnc76 := NB460_486.out
            have hnb77 := NB486_473.out
            have hnc77 := NB473_486.out
            have hnb78 := NB486_481.out
            have hnc78 := NB481_486.out
            have hcz79_0 : wc.cell? ⟨gb486, 0, none⟩ = some (.int .i64 t482) := (blk_cell BK486.out 0).trans rfl
            have hcz79_1 : wc.cell? ⟨gb486, 1, none⟩ = some (.slice Ao44 t483.length co44) := (blk_cell BK486.out 1).trans rfl
            have hfz79_0 := blk_frozen BK486.out 0
            have hfz79_1 := blk_frozen BK486.out 1
            go_wp2_with (first | ((with_reducible refine gate_callee (f := 23) rfl ?_); refine goesL_ (some 45) rfl rfl Try.func23 (by kernel_rfl) rfl #[.agg #[.int .i64 t482, .slice Ao44 t483.length co44], .int .i64 1] rfl (by (try simp only [List.map_toArray, List.map_cons, List.map_nil]); first | done | rfl | (simp only [List.length_drop, List.length_take]; rfl)) ?_; (with_reducible refine (laws_markNet.calls kj16 t482 (fun k_ => some k_ = (.slice Ao44 t483.length co44 : Value).ownBlock) (.slice Ao44 t483.length co44) t483 1 t500 t501 w _ ?side1 ?side2 A65.out).mono ?_); (case side1 => repeat (first | (with_reducible first | exact HB.out | apply below_alloc | apply pw_below_drewN | apply below_drew1 | refine below_set ?_ GE460.out | refine below_set ?_ GE473.out | refine below_set ?_ GE481.out | refine below_set ?_ GE486.out) | exact HB.out)); (case side2 => exact Kd.R_tight rfl HO_487001.out); rintro e w80 ⟨rfl, hy0, hb, hkp⟩; refine ⟨_, rfl, ?_⟩; have n0_ := Aside0.mk (Kd.R_mono (ok' := fun k_ => some k_ ≠ (.slice Ao36 t497.length co36 : Value).ownBlock ∧ some k_ ≠ (.slice Ao44 t483.length co44 : Value).ownBlock) (Kd.R_keptB (HO_474001.out) hkp (fun k_ hk_ hs_ => (hk_.2) hs_)) (fun k_ hk_ => ⟨hk_.1.1, hk_.1.2⟩)); have n1_ := Aside0.mk (Kd.R_mono (ok' := fun k_ => some k_ ≠ (.slice Ao29 t470.length co29 : Value).ownBlock ∧ some k_ ≠ (.slice Ao44 t483.length co44 : Value).ownBlock) (Kd.R_keptB (HO_482001.out) hkp (fun k_ hk_ hs_ => (hk_.2) hs_)) (fun k_ hk_ => ⟨hk_.1.1, hk_.1.2⟩)); have n2_ := Aside0.mk (Kd.R_mono (ok' := fun k_ => True) (Kd.R_keptB ((Kd.R_apart' HO_482002.out (Kd.R_typed HO_487001.out) (by decide))) hkp (fun k_ hk_ hs_ => (hk_.2) hs_)) (fun k_ hk_ => trivial)); have n3_ := Aside0.mk (Kd.R_reok rfl hy0 (fun k_ e_ => HO_487001.out.1 k_ e_)); have n4_ := Aside0.mk (blk_kept (bk BK460) hkp (fun hs_ => (fun e_ => (Kd.R_ne HO_487001.out BK460.out (by decide)) e_) hs_)); have n5_ := Aside0.mk (blk_kept (bk BK473) hkp (fun hs_ => (fun e_ => (Kd.R_ne HO_487001.out BK473.out (by decide)) e_) hs_)); have n6_ := Aside0.mk (blk_kept (bk BK481) hkp (fun hs_ => (fun e_ => (Kd.R_ne HO_487001.out BK481.out (by decide)) e_) hs_)); have n7_ := Aside0.mk (blk_kept (bk BK486) hkp (fun hs_ => (fun e_ => (Kd.R_ne HO_487001.out BK486.out (by decide)) e_) hs_)); have n8_ := Aside0.mk (hb); clear HO_474001; clear HO_482001; clear HO_482002; clear HO_487001; clear BK460; clear BK473; clear BK481; clear BK486; clear HB; have HO_474001 := n0_; have HO_482001 := n1_; have HO_482002 := n2_; have HO_487001 := n3_; have BK460 := n4_; have BK473 := n5_; have BK481 := n6_; have BK486 := n7_; have HB := n8_; clear n0_ n1_ n2_ n3_ n4_ n5_ n6_ n7_ n8_; (try clear hb); (try clear hkp); (try clear hy0); have hcz81_0 : w80.cell? ⟨gb486, 0, none⟩ = some (.int .i64 t482) := (blk_cell BK486.out 0).trans rfl; have hcz81_1 : w80.cell? ⟨gb486, 1, none⟩ = some (.slice Ao44 t483.length co44) := (blk_cell BK486.out 1).trans rfl; have hfz81_0 := blk_frozen BK486.out 0; have hfz81_1 := blk_frozen BK486.out 1) | ((with_reducible refine gate_callee (f := 24) rfl ?_); refine goesL_ (some 48) rfl rfl Try.func24 (by kernel_rfl) rfl #[.agg #[.int .i64 t482, .slice Ao44 t501.length co44], .int .i64 1] rfl (by (try simp only [List.map_toArray, List.map_cons, List.map_nil]); first | done | (rw [show t501.length = t483.length from (Kd.R_reads' HO_487001.out).1.symm] <;> rfl) | rfl | (simp only [List.length_drop, List.length_take]; rfl)) ?_; (with_reducible refine (laws_heldNet.calls kj16 t482 _ _ t501 1 t502 _ ?side1 ?side2 A66.out).mono ?_); (case side1 => repeat (first | exact (Kd.R_reads' HO_487001.out).2.2 | (with_reducible refine Kd.C_alloc ?_ _) | (with_reducible refine Kd.C_drewN ?_ _) | (with_reducible refine Kd.C_drew ?_))); (case side2 => rw [show t501.length = t483.length from (Kd.R_reads' HO_487001.out).1.symm]; exact (Kd.R_reads' HO_487001.out).2.1); rintro e w82 ⟨rfl, hb⟩; refine ⟨_, rfl, ?_⟩; have n0_ := Aside0.mk (Kd.R_below (rk HO_474001) hb); have n1_ := Aside0.mk (Kd.R_below (rk HO_482001) hb); have n2_ := Aside0.mk (Kd.R_below (rk HO_482002) hb); have n3_ := Aside0.mk (Kd.R_below (rk HO_487001) hb); have n4_ := Aside0.mk (blk_below (bk BK460) hb); have n5_ := Aside0.mk (blk_below (bk BK473) hb); have n6_ := Aside0.mk (blk_below (bk BK481) hb); have n7_ := Aside0.mk (blk_below (bk BK486) hb); have n8_ := Aside0.mk (below_step (bl4 HB GE460 GE473 GE481 GE486) hb); clear HO_474001; clear HO_482001; clear HO_482002; clear HO_487001; clear BK460; clear BK473; clear BK481; clear BK486; clear HB; have HO_474001 := n0_; have HO_482001 := n1_; have HO_482002 := n2_; have HO_487001 := n3_; have BK460 := n4_; have BK473 := n5_; have BK481 := n6_; have BK486 := n7_; have HB := n8_; clear n0_ n1_ n2_ n3_ n4_ n5_ n6_ n7_ n8_; (try clear hb); (try clear hb2); (try clear hk); (try clear hi); have hnb83 := NB460_473.out; have hnc83 := NB473_460.out; have hnb84 := NB460_481.out; have hnc84 := NB481_460.out; have hcz85_0 : w82.cell? ⟨gb460, 0, none⟩ = some (.int .i64 a0_0) := (blk_cell BK460.out 0).trans rfl; have hcz85_1 : w82.cell? ⟨gb460, 1, none⟩ = some (.slice A0_1 l0_1.length c0_1) := (blk_cell BK460.out 1).trans rfl; have hcz85_2 : w82.cell? ⟨gb460, 2, none⟩ = some (.slice A0_2 l0_2.length c0_2) := (blk_cell BK460.out 2).trans rfl; have hfz85_0 := blk_frozen BK460.out 0; have hfz85_1 := blk_frozen BK460.out 1; have hfz85_2 := blk_frozen BK460.out 2) | ((with_reducible refine gate_callee (f := 33) rfl ?_); refine goesL_ (some 55) rfl rfl Try.func33 (by kernel_rfl) rfl #[.agg #[.int .i64 a0_0, .slice A0_1 l0_1.length c0_1, .slice A0_2 l0_2.length c0_2]] rfl (by (try simp only [List.map_toArray, List.map_cons, List.map_nil]); first | done | rfl | (simp only [List.length_drop, List.length_take]; rfl)) ?_; (with_reducible refine (laws_toLive.calls kj16 a0_0 _ _ l0_1 _ _ l0_2 t503 t504 t507 _ ?side1 ?side2 ?side3 ?side4 A69.out).mono ?_); (case side1 => repeat (first | exact (Kd.C_below HR0_1.out HB.out) | (with_reducible refine Kd.C_alloc ?_ _) | (with_reducible refine Kd.C_drewN ?_ _) | (with_reducible refine Kd.C_drew ?_))); (case side2 => exact HC0_1.out); (case side3 => repeat (first | exact (Kd.C_below HR0_2.out HB.out) | (with_reducible refine Kd.C_alloc ?_ _) | (with_reducible refine Kd.C_drewN ?_ _) | (with_reducible refine Kd.C_drew ?_))); (case side4 => exact HC0_2.out); rintro e w86 ⟨v505, v508, rfl, ho0, ho1, hb⟩; refine ⟨_, rfl, ?_⟩; have n0_ := Aside0.mk (Kd.R_elder' (rk HO_474001) (Kd.R_base ho0) hb); have n1_ := Aside0.mk (Kd.R_elder' (rk HO_482001) (Kd.R_base ho0) hb); have n2_ := Aside0.mk (Kd.R_elder' (rk HO_482002) (Kd.R_base ho1) hb); have n3_ := Aside0.mk (Kd.R_elder' (rk HO_487001) (Kd.R_base ho0) hb); have n4_ := Aside0.mk (Kd.R_lower (Kd.R_new' (Kd.R_new' (Kd.R_new' ho0 (Kd.R_lt (rk HO_474001))) (Kd.R_lt (rk HO_482001))) (Kd.R_lt (rk HO_487001))) (below_size (bl4 HB GE460 GE473 GE481 GE486))); have n5_ := Aside0.mk (Kd.R_lower (Kd.R_new' ho1 (Kd.R_lt (rk HO_482002))) (below_size (bl4 HB GE460 GE473 GE481 GE486))); have n6_ := Aside0.mk (blk_below (bk BK460) hb); have n7_ := Aside0.mk (blk_below (bk BK473) hb); have n8_ := Aside0.mk (blk_below (bk BK481) hb); have n9_ := Aside0.mk (blk_below (bk BK486) hb); have n10_ := Aside0.mk (below_step (bl4 HB GE460 GE473 GE481 GE486) hb); clear HO_474001; clear HO_482001; clear HO_482002; clear HO_487001; clear BK460; clear BK473; clear BK481; clear BK486; clear HB; have HO_474001 := n0_; have HO_482001 := n1_; have HO_482002 := n2_; have HO_487001 := n3_; have HO506 := n4_; have HO509 := n5_; have BK460 := n6_; have BK473 := n7_; have BK481 := n8_; have BK486 := n9_; have HB := n10_; clear n0_ n1_ n2_ n3_ n4_ n5_ n6_ n7_ n8_ n9_ n10_; (try clear hb); (try clear hb2); (try clear hk); (try clear hi); (try clear ho0); (try clear ho1); obtain ⟨Ao87, co87, eo87⟩ := Kd.R_slice HO506.out; subst eo87; obtain ⟨Ao88, co88, eo88⟩ := Kd.R_slice HO509.out; subst eo88) | ((with_reducible refine gate_callee (f := 37) rfl ?_); refine goesL_ (some 56) rfl rfl Try.func37 (by kernel_rfl) rfl #[.agg #[.int .i64 t503, .slice Ao87 t504.length co87, .slice Ao88 t507.length co88]] rfl (by (try simp only [List.map_toArray, List.map_cons, List.map_nil]); first | done | rfl | (simp only [List.length_drop, List.length_take]; rfl)) ?_; (with_reducible refine (impl_LiveNow.calls kj16 t503 _ _ t504 _ _ t507 t510 t511 _ ?side1 ?side2 ?side3 ?side4 A70.out).mono ?_); (case side1 => repeat (first | exact (Kd.R_reads' HO506.out).2.2 | (with_reducible refine Kd.C_alloc ?_ _) | (with_reducible refine Kd.C_drewN ?_ _) | (with_reducible refine Kd.C_drew ?_))); (case side2 => exact (Kd.R_reads' HO506.out).2.1); (case side3 => repeat (first | exact (Kd.R_reads' HO509.out).2.2 | (with_reducible refine Kd.C_alloc ?_ _) | (with_reducible refine Kd.C_drewN ?_ _) | (with_reducible refine Kd.C_drew ?_))); (case side4 => exact (Kd.R_reads' HO509.out).2.1); rintro e w89 ⟨v512, rfl, ho0, hb⟩; refine ⟨_, rfl, ?_⟩; have n0_ := Aside0.mk (Kd.R_elder' (rk HO_474001) (Kd.R_base ho0) hb); have n1_ := Aside0.mk (Kd.R_elder' (rk HO_482001) (Kd.R_base ho0) hb); have n2_ := Aside0.mk (Kd.R_below (rk HO_482002) hb); have n3_ := Aside0.mk (Kd.R_elder' (rk HO_487001) (Kd.R_base ho0) hb); have n4_ := Aside0.mk (Kd.R_elder' (rk HO506) (Kd.R_base ho0) hb); have n5_ := Aside0.mk (Kd.R_below (rk HO509) hb); have n6_ := Aside0.mk (Kd.R_lower (Kd.R_new' (Kd.R_new' (Kd.R_new' (Kd.R_new' ho0 (Kd.R_lt (rk HO_474001))) (Kd.R_lt (rk HO_482001))) (Kd.R_lt (rk HO_487001))) (Kd.R_lt (rk HO506))) (below_size (bl4 HB GE460 GE473 GE481 GE486))); have n7_ := Aside0.mk (blk_below (bk BK460) hb); have n8_ := Aside0.mk (blk_below (bk BK473) hb); have n9_ := Aside0.mk (blk_below (bk BK481) hb); have n10_ := Aside0.mk (blk_below (bk BK486) hb); have n11_ := Aside0.mk (below_step (bl4 HB GE460 GE473 GE481 GE486) hb); clear HO_474001; clear HO_482001; clear HO_482002; clear HO_487001; clear HO506; clear HO509; clear BK460; clear BK473; clear BK481; clear BK486; clear HB; have HO_474001 := n0_; have HO_482001 := n1_; have HO_482002 := n2_; have HO_487001 := n3_; have HO506 := n4_; have HO509 := n5_; have HO513 := n6_; have BK460 := n7_; have BK473 := n8_; have BK481 := n9_; have BK486 := n10_; have HB := n11_; clear n0_ n1_ n2_ n3_ n4_ n5_ n6_ n7_ n8_ n9_ n10_ n11_; (try clear hb); (try clear hb2); (try clear hk); (try clear hi); (try clear ho0)) | ((with_reducible refine gate_dst (N := 10) rfl ?_); refine box_event ?hg (N := 10) ?hd (cs := #[.int .i64 0, .slice none 0 0]) (t := 25) ?hr ?_; (case hd => rfl); (case hg => rfl); (case hr => first | (go_simp; done) | (go_simp; rfl)); intro gb514 hg w90 hbox hb; have n0_ := Aside0.mk (Kd.R_below (rk HO_474001) hb); have n1_ := Aside0.mk (Kd.R_below (rk HO_482001) hb); have n2_ := Aside0.mk (Kd.R_below (rk HO_482002) hb); have n3_ := Aside0.mk (Kd.R_below (rk HO_487001) hb); have n4_ := Aside0.mk (Kd.R_below (rk HO506) hb); have n5_ := Aside0.mk (Kd.R_below (rk HO509) hb); have n6_ := Aside0.mk (Kd.R_below (rk HO513) hb); have n7_ := Aside0.mk (blk_below (bk BK460) hb); have n8_ := Aside0.mk (blk_below (bk BK473) hb); have n9_ := Aside0.mk (blk_below (bk BK481) hb); have n10_ := Aside0.mk (blk_below (bk BK486) hb); have n11_ := Aside0.mk (below_step (bl4 HB GE460 GE473 GE481 GE486) hb); have n12_ := Aside0.mk (hbox); have n13_ := Aside0.mk ((by rw [hg]; exact (below_size (bl4 HB GE460 GE473 GE481 GE486)) : w.heap.size ≤ gb514)); have n14_ := Aside0.mk ((by rw [hg]; exact (below_size (bl4 HB GE460 GE473 GE481 GE486)) : w.heap.size ≤ gb514)); have n15_ := Aside0.mk ((by rw [hg]; exact Nat.ne_of_lt (blk_lt (bk BK460)) : gb460 ≠ gb514)); have n16_ := Aside0.mk ((by rw [hg]; exact Nat.ne_of_gt (blk_lt (bk BK460)) : gb514 ≠ gb460)); have n17_ := Aside0.mk ((by rw [hg]; exact Nat.ne_of_lt (blk_lt (bk BK473)) : gb473 ≠ gb514)); have n18_ := Aside0.mk ((by rw [hg]; exact Nat.ne_of_gt (blk_lt (bk BK473)) : gb514 ≠ gb473)); have n19_ := Aside0.mk ((by rw [hg]; exact Nat.ne_of_lt (blk_lt (bk BK481)) : gb481 ≠ gb514)); have n20_ := Aside0.mk ((by rw [hg]; exact Nat.ne_of_gt (blk_lt (bk BK481)) : gb514 ≠ gb481)); have n21_ := Aside0.mk ((by rw [hg]; exact Nat.ne_of_lt (blk_lt (bk BK486)) : gb486 ≠ gb514)); have n22_ := Aside0.mk ((by rw [hg]; exact Nat.ne_of_gt (blk_lt (bk BK486)) : gb514 ≠ gb486)); clear HO_474001; clear HO_482001; clear HO_482002; clear HO_487001; clear HO506; clear HO509; clear HO513; clear BK460; clear BK473; clear BK481; clear BK486; clear HB; have HO_474001 := n0_; have HO_482001 := n1_; have HO_482002 := n2_; have HO_487001 := n3_; have HO506 := n4_; have HO509 := n5_; have HO513 := n6_; have BK460 := n7_; have BK473 := n8_; have BK481 := n9_; have BK486 := n10_; have HB := n11_; have BK514 := n12_; have GW514 := n13_; have GE514 := n14_; have NB460_514 := n15_; have NB514_460 := n16_; have NB473_514 := n17_; have NB514_473 := n18_; have NB481_514 := n19_; have NB514_481 := n20_; have NB486_514 := n21_; have NB514_486 := n22_; clear n0_ n1_ n2_ n3_ n4_ n5_ n6_ n7_ n8_ n9_ n10_ n11_ n12_ n13_ n14_ n15_ n16_ n17_ n18_ n19_ n20_ n21_ n22_; clear hb hbox hg; have hnb91 := NB514_460.out; have hnc91 := NB460_514.out; have hnb92 := NB514_473.out; have hnc92 := NB473_514.out; have hnb93 := NB514_481.out; have hnc93 := NB481_514.out; have hnb94 := NB514_486.out; have hnc94 := NB486_514.out; have hcz95_0 : w90.cell? ⟨gb514, 0, none⟩ = some (.int .i64 0) := (blk_cell BK514.out 0).trans rfl; have hcz95_1 : w90.cell? ⟨gb514, 1, none⟩ = some (.slice none 0 0) := (blk_cell BK514.out 1).trans rfl; have hfz95_0 := blk_frozen BK514.out 0; have hfz95_1 := blk_frozen BK514.out 1; obtain ⟨Ao96, co96, eo96⟩ := Kd.R_slice HO513.out; subst eo96; have hnb97 := NB473_481.out; have hnc97 := NB481_473.out; have hcz98_0 : w90.cell? ⟨gb473, 0, none⟩ = some (.int .i64 t469) := (blk_cell BK473.out 0).trans rfl; have hcz98_1 : w90.cell? ⟨gb473, 1, none⟩ = some (.slice Ao29 t470.length co29) := (blk_cell BK473.out 1).trans rfl; have hfz98_0 := blk_frozen BK473.out 0; have hfz98_1 := blk_frozen BK473.out 1) | ((with_reducible refine gate_callee (f := 22) rfl ?_); refine goesL_ (some 59) rfl rfl Try.func22 (by kernel_rfl) rfl #[.agg #[.int .i64 t510, .slice Ao96 t511.length co96], .agg #[.int .i64 t469, .slice Ao29 t470.length co29]] rfl (by (try simp only [List.map_toArray, List.map_cons, List.map_nil]); first | done | rfl | (simp only [List.length_drop, List.length_take]; rfl)) ?_; (with_reducible refine (laws_eqNet.calls kj16 t510 _ _ t511 t469 _ _ t470 true _ ?side1 ?side2 ?side3 ?side4 A71.out).mono ?_); (case side1 => refine (Kd.R_reads' (e := 31) (base := w.heap.size) (ok := fun k_ => ((((True ∧ some k_ ≠ (.slice Ao29 t470.length co29 : Value).ownBlock) ∧ some k_ ≠ (.slice Ao36 t497.length co36 : Value).ownBlock) ∧ some k_ ≠ (.slice Ao44 t483.length co44 : Value).ownBlock) ∧ some k_ ≠ (.slice Ao87 t504.length co87 : Value).ownBlock)) (n := t511.length) (c := co96) ?_).2.2; exact (by (with_reducible repeat (first | apply Kd.R_alloc | apply Kd.R_drewN | apply Kd.R_drew)); exact (Kd.R_mono (Kd.R_far (p := ⟨gb514, 1, none⟩) (Kd.R_far (p := ⟨gb514, 0, none⟩) (Kd.R_types HO513.out BK514.out (by decide)) (fun _ hk => hk.2) (.int .i64 t510)) (fun _ hk => hk.2) (.slice Ao96 t511.length co96)) (fun _ h_ => h_.1)))); (case side2 => exact (Kd.R_reads' HO513.out).2.1); (case side3 => refine (Kd.R_reads' (e := 31) (base := w.heap.size) (ok := fun k_ => (((some k_ ≠ (.slice Ao36 t497.length co36 : Value).ownBlock ∧ some k_ ≠ (.slice Ao44 t483.length co44 : Value).ownBlock) ∧ some k_ ≠ (.slice Ao87 t504.length co87 : Value).ownBlock) ∧ some k_ ≠ (.slice Ao96 t511.length co96 : Value).ownBlock)) (n := t470.length) (c := co29) ?_).2.2; exact (by (with_reducible repeat (first | apply Kd.R_alloc | apply Kd.R_drewN | apply Kd.R_drew)); exact (Kd.R_mono (Kd.R_far (p := ⟨gb514, 1, none⟩) (Kd.R_far (p := ⟨gb514, 0, none⟩) (Kd.R_types HO_474001.out BK514.out (by decide)) (fun _ hk => hk.2) (.int .i64 t510)) (fun _ hk => hk.2) (.slice Ao96 t511.length co96)) (fun _ h_ => h_.1)))); (case side4 => exact (Kd.R_reads' HO_474001.out).2.1); rintro e w99 ⟨rfl, hb⟩; refine ⟨_, rfl, ?_⟩; have n0_ := Aside0.mk (Kd.R_below (by (with_reducible repeat (first | apply Kd.R_alloc | apply Kd.R_drewN | apply Kd.R_drew)); exact (Kd.R_mono (Kd.R_far (p := ⟨gb514, 1, none⟩) (Kd.R_far (p := ⟨gb514, 0, none⟩) (Kd.R_types HO_474001.out BK514.out (by decide)) (fun _ hk => hk.2) (.int .i64 t510)) (fun _ hk => hk.2) (.slice Ao96 t511.length co96)) (fun _ h_ => h_.1))) hb); have n1_ := Aside0.mk (Kd.R_below (by (with_reducible repeat (first | apply Kd.R_alloc | apply Kd.R_drewN | apply Kd.R_drew)); exact (Kd.R_mono (Kd.R_far (p := ⟨gb514, 1, none⟩) (Kd.R_far (p := ⟨gb514, 0, none⟩) (Kd.R_types HO_482001.out BK514.out (by decide)) (fun _ hk => hk.2) (.int .i64 t510)) (fun _ hk => hk.2) (.slice Ao96 t511.length co96)) (fun _ h_ => h_.1))) hb); have n2_ := Aside0.mk (Kd.R_below (by (with_reducible repeat (first | apply Kd.R_alloc | apply Kd.R_drewN | apply Kd.R_drew)); exact (Kd.R_mono (Kd.R_far (p := ⟨gb514, 1, none⟩) (Kd.R_far (p := ⟨gb514, 0, none⟩) (Kd.R_types HO_482002.out BK514.out (by decide)) (fun _ hk => hk.2) (.int .i64 t510)) (fun _ hk => hk.2) (.slice Ao96 t511.length co96)) (fun _ h_ => h_.1))) hb); have n3_ := Aside0.mk (Kd.R_below (by (with_reducible repeat (first | apply Kd.R_alloc | apply Kd.R_drewN | apply Kd.R_drew)); exact (Kd.R_mono (Kd.R_far (p := ⟨gb514, 1, none⟩) (Kd.R_far (p := ⟨gb514, 0, none⟩) (Kd.R_types HO_487001.out BK514.out (by decide)) (fun _ hk => hk.2) (.int .i64 t510)) (fun _ hk => hk.2) (.slice Ao96 t511.length co96)) (fun _ h_ => h_.1))) hb); have n4_ := Aside0.mk (Kd.R_below (by (with_reducible repeat (first | apply Kd.R_alloc | apply Kd.R_drewN | apply Kd.R_drew)); exact (Kd.R_mono (Kd.R_far (p := ⟨gb514, 1, none⟩) (Kd.R_far (p := ⟨gb514, 0, none⟩) (Kd.R_types HO506.out BK514.out (by decide)) (fun _ hk => hk.2) (.int .i64 t510)) (fun _ hk => hk.2) (.slice Ao96 t511.length co96)) (fun _ h_ => h_.1))) hb); have n5_ := Aside0.mk (Kd.R_below (by (with_reducible repeat (first | apply Kd.R_alloc | apply Kd.R_drewN | apply Kd.R_drew)); exact (Kd.R_mono (Kd.R_far (p := ⟨gb514, 1, none⟩) (Kd.R_far (p := ⟨gb514, 0, none⟩) (Kd.R_types HO509.out BK514.out (by decide)) (fun _ hk => hk.2) (.int .i64 t510)) (fun _ hk => hk.2) (.slice Ao96 t511.length co96)) (fun _ h_ => h_.1))) hb); have n6_ := Aside0.mk (Kd.R_below (by (with_reducible repeat (first | apply Kd.R_alloc | apply Kd.R_drewN | apply Kd.R_drew)); exact (Kd.R_mono (Kd.R_far (p := ⟨gb514, 1, none⟩) (Kd.R_far (p := ⟨gb514, 0, none⟩) (Kd.R_types HO513.out BK514.out (by decide)) (fun _ hk => hk.2) (.int .i64 t510)) (fun _ hk => hk.2) (.slice Ao96 t511.length co96)) (fun _ h_ => h_.1))) hb); have n7_ := Aside0.mk (blk_below (g := gb460) (o := .cells #[.int .i64 a0_0, .slice A0_1 l0_1.length c0_1, .slice A0_2 l0_2.length c0_2] 52 (0, 0)) (by (with_reducible repeat (first | refine blk_drewN ?_ _ | refine blk_drew ?_ | refine blk_alloc ?_ _)); refine blk_far ?_ NB460_514.out _; (with_reducible repeat (first | refine blk_drewN ?_ _ | refine blk_drew ?_ | refine blk_alloc ?_ _)); refine blk_far ?_ NB460_514.out _; (with_reducible repeat (first | refine blk_drewN ?_ _ | refine blk_drew ?_ | refine blk_alloc ?_ _)); exact BK460.out) hb); have n8_ := Aside0.mk (blk_below (g := gb473) (o := .cells #[.int .i64 t469, .slice Ao29 t470.length co29] 25 (0, 0)) (by (with_reducible repeat (first | refine blk_drewN ?_ _ | refine blk_drew ?_ | refine blk_alloc ?_ _)); refine blk_far ?_ NB473_514.out _; (with_reducible repeat (first | refine blk_drewN ?_ _ | refine blk_drew ?_ | refine blk_alloc ?_ _)); refine blk_far ?_ NB473_514.out _; (with_reducible repeat (first | refine blk_drewN ?_ _ | refine blk_drew ?_ | refine blk_alloc ?_ _)); exact BK473.out) hb); have n9_ := Aside0.mk (blk_below (g := gb481) (o := .cells #[.int .i64 t474, .slice Ao36 t497.length co36, .slice Ao37 t498.length co37] 57 (0, 0)) (by (with_reducible repeat (first | refine blk_drewN ?_ _ | refine blk_drew ?_ | refine blk_alloc ?_ _)); refine blk_far ?_ NB481_514.out _; (with_reducible repeat (first | refine blk_drewN ?_ _ | refine blk_drew ?_ | refine blk_alloc ?_ _)); refine blk_far ?_ NB481_514.out _; (with_reducible repeat (first | refine blk_drewN ?_ _ | refine blk_drew ?_ | refine blk_alloc ?_ _)); exact BK481.out) hb); have n10_ := Aside0.mk (blk_below (g := gb486) (o := .cells #[.int .i64 t482, .slice Ao44 t483.length co44] 25 (0, 0)) (by (with_reducible repeat (first | refine blk_drewN ?_ _ | refine blk_drew ?_ | refine blk_alloc ?_ _)); refine blk_far ?_ NB486_514.out _; (with_reducible repeat (first | refine blk_drewN ?_ _ | refine blk_drew ?_ | refine blk_alloc ?_ _)); refine blk_far ?_ NB486_514.out _; (with_reducible repeat (first | refine blk_drewN ?_ _ | refine blk_drew ?_ | refine blk_alloc ?_ _)); exact BK486.out) hb); have n11_ := Aside0.mk (blk_below (g := gb514) (o := .cells #[.int .i64 t510, .slice Ao96 t511.length co96] 25 (0, 0)) (by (with_reducible repeat (first | refine blk_drewN ?_ _ | refine blk_drew ?_ | refine blk_alloc ?_ _)); refine blk_put (cs := #[.int .i64 t510, .slice none 0 0]) ?_ 1 _ rfl; (with_reducible repeat (first | refine blk_drewN ?_ _ | refine blk_drew ?_ | refine blk_alloc ?_ _)); refine blk_put (cs := #[.int .i64 0, .slice none 0 0]) ?_ 0 _ rfl; (with_reducible repeat (first | refine blk_drewN ?_ _ | refine blk_drew ?_ | refine blk_alloc ?_ _)); exact BK514.out) hb); have n12_ := Aside0.mk (below_step (by repeat (first | (with_reducible first | exact HB.out | apply below_alloc | apply pw_below_drewN | apply below_drew1 | refine below_set ?_ GE460.out | refine below_set ?_ GE473.out | refine below_set ?_ GE481.out | refine below_set ?_ GE486.out | refine below_set ?_ GE514.out) | exact HB.out)) hb); clear HO_474001; clear HO_482001; clear HO_482002; clear HO_487001; clear HO506; clear HO509; clear HO513; clear BK460; clear BK473; clear BK481; clear BK486; clear BK514; clear HB; have HO_474001 := n0_; have HO_482001 := n1_; have HO_482002 := n2_; have HO_487001 := n3_; have HO506 := n4_; have HO509 := n5_; have HO513 := n6_; have BK460 := n7_; have BK473 := n8_; have BK481 := n9_; have BK486 := n10_; have BK514 := n11_; have HB := n12_; clear n0_ n1_ n2_ n3_ n4_ n5_ n6_ n7_ n8_ n9_ n10_ n11_ n12_; (try clear hb); (try clear hb2); (try clear hk); (try clear hi); have hcz100_0 : w99.cell? ⟨gb486, 0, none⟩ = some (.int .i64 t482) := (blk_cell BK486.out 0).trans rfl; have hcz100_1 : w99.cell? ⟨gb486, 1, none⟩ = some (.slice Ao44 t483.length co44) := (blk_cell BK486.out 1).trans rfl; have hfz100_0 := blk_frozen BK486.out 0; have hfz100_1 := blk_frozen BK486.out 1) | ((with_reducible refine gate_callee (f := 24) rfl ?_); refine goesL_ (some 63) rfl rfl Try.func24 (by kernel_rfl) rfl #[.agg #[.int .i64 t482, .slice Ao44 t501.length co44], .int .i64 1] rfl (by (try simp only [List.map_toArray, List.map_cons, List.map_nil]); first | done | (rw [show t501.length = t483.length from (Kd.R_reads' HO_487001.out).1.symm] <;> rfl) | rfl | (simp only [List.length_drop, List.length_take]; rfl)) ?_; (with_reducible refine (laws_heldNet.calls kj16 t482 _ _ t501 1 t516 _ ?side1 ?side2 A73.out).mono ?_); (case side1 => repeat (first | exact (Kd.R_reads' HO_487001.out).2.2 | (with_reducible refine Kd.C_alloc ?_ _) | (with_reducible refine Kd.C_drewN ?_ _) | (with_reducible refine Kd.C_drew ?_))); (case side2 => rw [show t501.length = t483.length from (Kd.R_reads' HO_487001.out).1.symm]; exact (Kd.R_reads' HO_487001.out).2.1); rintro e w101 ⟨rfl, hb⟩; refine ⟨_, rfl, ?_⟩; have n0_ := Aside0.mk (Kd.R_below (rk HO_474001) hb); have n1_ := Aside0.mk (Kd.R_below (rk HO_482001) hb); have n2_ := Aside0.mk (Kd.R_below (rk HO_482002) hb); have n3_ := Aside0.mk (Kd.R_below (rk HO_487001) hb); have n4_ := Aside0.mk (Kd.R_below (rk HO506) hb); have n5_ := Aside0.mk (Kd.R_below (rk HO509) hb); have n6_ := Aside0.mk (Kd.R_below (rk HO513) hb); have n7_ := Aside0.mk (blk_below (bk BK460) hb); have n8_ := Aside0.mk (blk_below (bk BK473) hb); have n9_ := Aside0.mk (blk_below (bk BK481) hb); have n10_ := Aside0.mk (blk_below (bk BK486) hb); have n11_ := Aside0.mk (blk_below (bk BK514) hb); have n12_ := Aside0.mk (below_step (by repeat (first | (with_reducible first | exact HB.out | apply below_alloc | apply pw_below_drewN | apply below_drew1 | refine below_set ?_ GE460.out | refine below_set ?_ GE473.out | refine below_set ?_ GE481.out | refine below_set ?_ GE486.out | refine below_set ?_ GE514.out) | exact HB.out)) hb); clear HO_474001; clear HO_482001; clear HO_482002; clear HO_487001; clear HO506; clear HO509; clear HO513; clear BK460; clear BK473; clear BK481; clear BK486; clear BK514; clear HB; have HO_474001 := n0_; have HO_482001 := n1_; have HO_482002 := n2_; have HO_487001 := n3_; have HO506 := n4_; have HO509 := n5_; have HO513 := n6_; have BK460 := n7_; have BK473 := n8_; have BK481 := n9_; have BK486 := n10_; have BK514 := n11_; have HB := n12_; clear n0_ n1_ n2_ n3_ n4_ n5_ n6_ n7_ n8_ n9_ n10_ n11_ n12_; (try clear hb); (try clear hb2); (try clear hk); (try clear hi)))
            go_ret
            exact ⟨by first | rfl | (simp [errW_none, errW_some] <;> rfl) | (simp [*, errW_none, errW_some] <;> rfl), by repeat (first | (with_reducible first | exact HB.out | apply below_alloc | apply pw_below_drewN | apply below_drew1 | refine below_set ?_ GE460.out | refine below_set ?_ GE473.out | refine below_set ?_ GE481.out | refine below_set ?_ GE486.out | refine below_set ?_ GE514.out) | exact HB.out)⟩
           ·rw [if_neg c75] at H
            have c75b0 : (t516 == t500) = false := beq_eq_false_iff_ne.mpr c75
            have c75b1 : (t516 != t500) = true := bne_iff_ne.mpr c75
            exact absurd ((Option.some.inj H).trans hr_) Bool.false_ne_true
         ·replace c72 := Bool.eq_false_iff.mpr c72
          subst c72
          rw [if_neg (show ¬ (false = true) by decide)] at H
          exact absurd ((Option.some.inj H).trans hr_) Bool.false_ne_true
        ·rw [if_neg c68] at H
         have c68b0 : (t502 == t500) = false := beq_eq_false_iff_ne.mpr c68
         have c68b1 : (t502 != t500) = true := bne_iff_ne.mpr c68
         exact absurd ((Option.some.inj H).trans hr_) Bool.false_ne_true
   ·replace c15 := Bool.eq_false_iff.mpr c15
    subst c15
    rw [if_neg (show ¬ (false = true) by decide)] at H
    exact absurd ((Option.some.inj H).trans hr_) Bool.false_ne_true
  ·replace c12 := Bool.eq_false_iff.mpr c12
   subst c12
   rw [if_neg (show ¬ (false = true) by decide)] at H
   exact absurd ((Option.some.inj H).trans hr_) Bool.false_ne_true
/-- THE ONE PURE STATEMENT of laws_FnExactLiveNow. -/
def laws_FnExactLiveNow.Pure : Prop := ∀ (a0_0 : Int) (l0_1 : List (S118)) (l0_2 : List (S122)), (Lit.int .i64 a0_0).wf = true → (l0_1.length ≤ 9223372036854775807 ∧ ∀ y_ ∈ l0_1, ((Lit.int .i64 y_.f0).wf = true ∧ ((Lit.int .i64 y_.f1).wf = true ∧ ((Lit.int .i64 y_.f2).wf = true ∧ ((Lit.int .i64 y_.f3).wf = true ∧ ((Lit.int .i64 y_.f4).wf = true)))))) → (l0_2.length ≤ 9223372036854775807 ∧ ∀ y_ ∈ l0_2, ((Lit.int .i64 y_.f0).wf = true ∧ ((Lit.int .i64 y_.f1).wf = true ∧ ((Lit.int .i64 y_.f2).wf = true)))) → ∃ k, laws_FnExactLiveNow.f k a0_0 l0_1 l0_2 = some true

end Go.Proofs.Ythgihpbpebbebaa.F
