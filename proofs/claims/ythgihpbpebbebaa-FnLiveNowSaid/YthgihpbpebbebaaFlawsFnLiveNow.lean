-- Printed by wip/px/px.py of this claim's repository (the kit's printer, extended there). Lean checks it.
import Derived.Test.YthgihpbpebbebaaFKinds
import Derived.Test.YthgihpbpebbebaaFEq31
import Derived.Test.YthgihpbpebbebaaFimplNetOk
import Derived.Test.YthgihpbpebbebaaFwkNet
import Derived.Test.YthgihpbpebbebaaFspecLiveOk
import Derived.Test.YthgihpbpebbebaaFimplLiveOk
import Derived.Test.YthgihpbpebbebaaFspecDrawLiveNow
import Derived.Test.YthgihpbpebbebaaFimplLiveNow
import Derived.Test.YthgihpbpebbebaaFspecLiveNow
namespace Go.Proofs.Ythgihpbpebbebaa.F
open Go.RowKit Go.Proofs.YthgihpbpebbebaaW.PrintWords Go.Proofs.YthgihpbpebbebaaW.PrintLast Go.Proofs.YthgihpbpebbebaaW.PrintMore
attribute [local go_sem] max2_int min2_int max_two min_two max_three min_three max_four min_four   -- for this text's walks alone
set_option linter.unusedVariables false
set_option linter.unusedSimpArgs false

attribute [local go_sem high] eqA31
/-! ### laws_FnLiveNow: function 8 -/
mutual
def laws_FnLiveNow.j0 : Nat → Bool → Int → List (S31) → List (S64) → Int → List (S31) → Option (Bool)
 | 0, _, _, _, _, _, _ => none
 | k + 1, x34, x824000, x824001, x824002, x829000, x829001 => if x34 = true then ((spec_LiveNow.f k x824000 x824001 x824002).bind fun bt837 => ((laws_wkNet.f k x829000 x829001 bt837.1 bt837.2).bind fun t841 => (if t841 = true then ((impl_LiveOk.f k x824000 x824001 x824002).bind fun t842 => ((spec_LiveOk.f k x824000 x824001 x824002).bind fun t843 => (some (t842 == t843)))) else (some false)))) else (laws_FnLiveNow.l0 k 0 0 x824000 x824001 x824002 x829000 x829001)
def laws_FnLiveNow.l0 : Nat → Int → Int → Int → List (S31) → List (S64) → Int → List (S31) → Option (Bool)
 | 0, _, _, _, _, _, _, _ => none
 | k + 1, x5, x6, x824000, x824001, x824002, x829000, x829001 => if x6 < (x824001.length : Int) then (if 0 ≤ x6 then (laws_FnLiveNow.l1 k x5 x6 false ((rd_T31 x824001 x6).f2) 0 x824000 x824001 x824002 x829000 x829001) else (none)) else ((impl_NetOk.f x829000 x829001).bind fun t844 => (if t844 = true then (if x5 = (x829001.length : Int) then ((impl_LiveNow.f k x824000 x824001 ([] : List (S64))).bind fun bt845 => ((laws_wkNet.f k bt845.1 bt845.2 x824000 x824001).bind fun t849 => (some t849))) else (some false)) else (some false)))
def laws_FnLiveNow.l1 : Nat → Int → Int → Bool → Int → Int → Int → List (S31) → List (S64) → Int → List (S31) → Option (Bool)
 | 0, _, _, _, _, _, _, _, _, _, _ => none
 | k + 1, x5, x6, x7, x8, x9, x824000, x824001, x824002, x829000, x829001 => if x9 < (x824002.length : Int) then (if 0 ≤ x9 then (if ((rd_T64 x824002 x9).f1) = x6 then (if x7 = true then (laws_FnLiveNow.l1 k x5 x6 true (wrap64 (x8 + ((rd_T64 x824002 x9).f2))) (wrap64 (x9 + 1)) x824000 x824001 x824002 x829000 x829001) else (laws_FnLiveNow.l1 k x5 x6 (decide (((rd_T64 x824002 x9).f2) < 0)) (wrap64 (x8 + ((rd_T64 x824002 x9).f2))) (wrap64 (x9 + 1)) x824000 x824001 x824002 x829000 x829001)) else (laws_FnLiveNow.l1 k x5 x6 x7 x8 (wrap64 (x9 + 1)) x824000 x824001 x824002 x829000 x829001)) else (none)) else (if x7 = true then (laws_FnLiveNow.l0 k x5 (wrap64 (x6 + 1)) x824000 x824001 x824002 x829000 x829001) else (if x8 > 99 then (if 0 ≤ x6 then (if x6 < (x824001.length : Int) then (if x5 ≥ (x829001.length : Int) then (some false) else (if 0 ≤ x5 then (if x5 < (x829001.length : Int) then (if (!(((rd_T31 x829001 x5).f0) == ((rd_T31 x824001 x6).f0)) || (!(((rd_T31 x829001 x5).f1) == ((rd_T31 x824001 x6).f1)) || (!(((rd_T31 x829001 x5).f2) == 99) || (!(((rd_T31 x829001 x5).f3) == ((rd_T31 x824001 x6).f3)) || (!(((rd_T31 x829001 x5).f4) == ((rd_T31 x824001 x6).f4))))))) = true then (some false) else (laws_FnLiveNow.l0 k (wrap64 (x5 + 1)) (wrap64 (x6 + 1)) x824000 x824001 x824002 x829000 x829001)) else (none)) else (none))) else (none)) else (none)) else (if 0 ≤ x6 then (if x6 < (x824001.length : Int) then (if x5 ≥ (x829001.length : Int) then (some false) else (if 0 ≤ x5 then (if x5 < (x829001.length : Int) then (if (!(((rd_T31 x829001 x5).f0) == ((rd_T31 x824001 x6).f0)) || (!(((rd_T31 x829001 x5).f1) == ((rd_T31 x824001 x6).f1)) || (!(((rd_T31 x829001 x5).f2) == x8) || (!(((rd_T31 x829001 x5).f3) == ((rd_T31 x824001 x6).f3)) || (!(((rd_T31 x829001 x5).f4) == ((rd_T31 x824001 x6).f4))))))) = true then (some false) else (laws_FnLiveNow.l0 k (wrap64 (x5 + 1)) (wrap64 (x6 + 1)) x824000 x824001 x824002 x829000 x829001)) else (none)) else (none))) else (none)) else (none))))
end
def laws_FnLiveNow.f (k : Nat) (l0 : List Int) : Option (Bool) := if (l0.length : Int) > 1048576 then (some true) else ((spec_DrawLiveNow.f k l0).bind fun bt816 => ((impl_LiveNow.f k bt816.1 bt816.2.1 bt816.2.2).bind fun bt824 => ((spec_LiveNow.f k bt816.1 bt816.2.1 bt816.2.2).bind fun bt829 => ((laws_wkNet.f k bt824.1 bt824.2 bt829.1 bt829.2).bind fun t833 => (if t833 = true then ((impl_LiveOk.f k bt816.1 bt816.2.1 bt816.2.2).bind fun t834 => ((spec_LiveOk.f k bt816.1 bt816.2.1 bt816.2.2).bind fun t835 => (if (t834 != t835) = true then (laws_FnLiveNow.j0 k true bt816.1 bt816.2.1 bt816.2.2 bt824.1 bt824.2) else ((impl_LiveOk.f k bt816.1 bt816.2.1 bt816.2.2).bind fun t836 => (laws_FnLiveNow.j0 k (!t836) bt816.1 bt816.2.1 bt816.2.2 bt824.1 bt824.2))))) else (laws_FnLiveNow.j0 k true bt816.1 bt816.2.1 bt816.2.2 bt824.1 bt824.2))))))
theorem laws_FnLiveNow.mono_l : ∀ k, (∀ y0 y1 y2 y3 y4 y5, LeO (laws_FnLiveNow.j0 k y0 y1 y2 y3 y4 y5) (laws_FnLiveNow.j0 (k + 1) y0 y1 y2 y3 y4 y5)) ∧ (∀ y0 y1 y2 y3 y4 y5 y6, LeO (laws_FnLiveNow.l0 k y0 y1 y2 y3 y4 y5 y6) (laws_FnLiveNow.l0 (k + 1) y0 y1 y2 y3 y4 y5 y6)) ∧ (∀ y0 y1 y2 y3 y4 y5 y6 y7 y8 y9, LeO (laws_FnLiveNow.l1 k y0 y1 y2 y3 y4 y5 y6 y7 y8 y9) (laws_FnLiveNow.l1 (k + 1) y0 y1 y2 y3 y4 y5 y6 y7 y8 y9))
 | 0 => ⟨fun _ _ _ _ _ _ r h => by simp [laws_FnLiveNow.j0] at h, fun _ _ _ _ _ _ _ r h => by simp [laws_FnLiveNow.l0] at h, fun _ _ _ _ _ _ _ _ _ _ r h => by simp [laws_FnLiveNow.l1] at h⟩
 | k + 1 => by
  obtain ⟨ih0, ih1, ih2⟩ := laws_FnLiveNow.mono_l k
  refine ⟨?_, ?_, ?_⟩
  ·intro y0 y1 y2 y3 y4 y5
   unfold laws_FnLiveNow.j0
   repeat' first
   | (with_reducible exact ih0 _ _ _ _ _ _)
   | (with_reducible exact ih1 _ _ _ _ _ _ _)
   | (with_reducible exact ih2 _ _ _ _ _ _ _ _ _ _)
   | (with_reducible exact impl_LiveNow.mono _ _ _ _)
   | (with_reducible exact impl_LiveOk.mono _ _ _ _)
   | (with_reducible exact laws_wkNet.mono _ _ _ _ _)
   | (with_reducible exact spec_DrawLiveNow.mono _ _)
   | (with_reducible exact spec_LiveNow.mono _ _ _ _)
   | (with_reducible exact spec_LiveOk.mono _ _ _ _)
   | (with_reducible exact LeO.refl _)
   | (with_reducible exact LeO.none _)
   | (with_reducible refine LeO.ite ?_ ?_)
   | (with_reducible refine LeO.bind ?_ (fun _ => ?_))
   | exact ih0 _ _ _ _ _ _
   | exact ih1 _ _ _ _ _ _ _
   | exact ih2 _ _ _ _ _ _ _ _ _ _
   | exact impl_LiveNow.mono _ _ _ _
   | exact impl_LiveOk.mono _ _ _ _
   | exact laws_wkNet.mono _ _ _ _ _
   | exact spec_DrawLiveNow.mono _ _
   | exact spec_LiveNow.mono _ _ _ _
   | exact spec_LiveOk.mono _ _ _ _
   | exact LeO.none _
   | refine LeO.ite ?_ ?_
   | refine LeO.bind ?_ (fun _ => ?_)
  ·intro y0 y1 y2 y3 y4 y5 y6
   unfold laws_FnLiveNow.l0
   repeat' first
   | (with_reducible exact ih0 _ _ _ _ _ _)
   | (with_reducible exact ih1 _ _ _ _ _ _ _)
   | (with_reducible exact ih2 _ _ _ _ _ _ _ _ _ _)
   | (with_reducible exact impl_LiveNow.mono _ _ _ _)
   | (with_reducible exact impl_LiveOk.mono _ _ _ _)
   | (with_reducible exact laws_wkNet.mono _ _ _ _ _)
   | (with_reducible exact spec_DrawLiveNow.mono _ _)
   | (with_reducible exact spec_LiveNow.mono _ _ _ _)
   | (with_reducible exact spec_LiveOk.mono _ _ _ _)
   | (with_reducible exact LeO.refl _)
   | (with_reducible exact LeO.none _)
   | (with_reducible refine LeO.ite ?_ ?_)
   | (with_reducible refine LeO.bind ?_ (fun _ => ?_))
   | exact ih0 _ _ _ _ _ _
   | exact ih1 _ _ _ _ _ _ _
   | exact ih2 _ _ _ _ _ _ _ _ _ _
   | exact impl_LiveNow.mono _ _ _ _
   | exact impl_LiveOk.mono _ _ _ _
   | exact laws_wkNet.mono _ _ _ _ _
   | exact spec_DrawLiveNow.mono _ _
   | exact spec_LiveNow.mono _ _ _ _
   | exact spec_LiveOk.mono _ _ _ _
   | exact LeO.none _
   | refine LeO.ite ?_ ?_
   | refine LeO.bind ?_ (fun _ => ?_)
  ·intro y0 y1 y2 y3 y4 y5 y6 y7 y8 y9
   unfold laws_FnLiveNow.l1
   repeat' first
   | (with_reducible exact ih0 _ _ _ _ _ _)
   | (with_reducible exact ih1 _ _ _ _ _ _ _)
   | (with_reducible exact ih2 _ _ _ _ _ _ _ _ _ _)
   | (with_reducible exact impl_LiveNow.mono _ _ _ _)
   | (with_reducible exact impl_LiveOk.mono _ _ _ _)
   | (with_reducible exact laws_wkNet.mono _ _ _ _ _)
   | (with_reducible exact spec_DrawLiveNow.mono _ _)
   | (with_reducible exact spec_LiveNow.mono _ _ _ _)
   | (with_reducible exact spec_LiveOk.mono _ _ _ _)
   | (with_reducible exact LeO.refl _)
   | (with_reducible exact LeO.none _)
   | (with_reducible refine LeO.ite ?_ ?_)
   | (with_reducible refine LeO.bind ?_ (fun _ => ?_))
   | exact ih0 _ _ _ _ _ _
   | exact ih1 _ _ _ _ _ _ _
   | exact ih2 _ _ _ _ _ _ _ _ _ _
   | exact impl_LiveNow.mono _ _ _ _
   | exact impl_LiveOk.mono _ _ _ _
   | exact laws_wkNet.mono _ _ _ _ _
   | exact spec_DrawLiveNow.mono _ _
   | exact spec_LiveNow.mono _ _ _ _
   | exact spec_LiveOk.mono _ _ _ _
   | exact LeO.none _
   | refine LeO.ite ?_ ?_
   | refine LeO.bind ?_ (fun _ => ?_)
theorem laws_FnLiveNow.mono : ∀ a0 k, LeO (laws_FnLiveNow.f k a0) (laws_FnLiveNow.f (k + 1) a0) := by
 intro a0 k
 obtain ⟨ih0, ih1, ih2⟩ := laws_FnLiveNow.mono_l k
 unfold laws_FnLiveNow.f
 repeat' first
   | (with_reducible exact ih0 _ _ _ _ _ _)
   | (with_reducible exact ih1 _ _ _ _ _ _ _)
   | (with_reducible exact ih2 _ _ _ _ _ _ _ _ _ _)
   | (with_reducible exact impl_LiveNow.mono _ _ _ _)
   | (with_reducible exact impl_LiveOk.mono _ _ _ _)
   | (with_reducible exact laws_wkNet.mono _ _ _ _ _)
   | (with_reducible exact spec_DrawLiveNow.mono _ _)
   | (with_reducible exact spec_LiveNow.mono _ _ _ _)
   | (with_reducible exact spec_LiveOk.mono _ _ _ _)
   | (with_reducible exact LeO.refl _)
   | (with_reducible exact LeO.none _)
   | (with_reducible refine LeO.ite ?_ ?_)
   | (with_reducible refine LeO.bind ?_ (fun _ => ?_))
   | exact ih0 _ _ _ _ _ _
   | exact ih1 _ _ _ _ _ _ _
   | exact ih2 _ _ _ _ _ _ _ _ _ _
   | exact impl_LiveNow.mono _ _ _ _
   | exact impl_LiveOk.mono _ _ _ _
   | exact laws_wkNet.mono _ _ _ _ _
   | exact spec_DrawLiveNow.mono _ _
   | exact spec_LiveNow.mono _ _ _ _
   | exact spec_LiveOk.mono _ _ _ _
   | exact LeO.none _
   | refine LeO.ite ?_ ?_
   | refine LeO.bind ?_ (fun _ => ?_)
def laws_FnLiveNow.T5 : Bool × List (List Nat × List Nat) := (true, [([], []), ([], []), ([1], [1]), ([0, 2, 2], [0, 2]), ([3], [3]), ([4, 3], [4]), ([5], [5]), ([6, 5, 5], [5, 6]), ([5], [5]), ([8, 7, 5], [5, 8]), ([7, 9, 5], [5, 7, 9]), ([5, 10], [5, 10]), ([11, 9], [11]), ([12], [12]), ([13, 12, 12], [12, 13]), ([14, 12], [12, 14]), ([12, 15], [12, 15])])
def laws_FnLiveNow.B5 : List Nat := [0, 0, 2, 7, 15, 31, 63, 127, 63, 511, 1023, 2047, 4095, 8191, 16383, 32767, 65535]
theorem laws_FnLiveNow.tab5 : rtab .any (opsOf Try.f8 5) = laws_FnLiveNow.T5 := by kernel_rfl
theorem laws_FnLiveNow.bits5 : waitsOk laws_FnLiveNow.T5.2 laws_FnLiveNow.B5 = true := by kernel_rfl
def laws_FnLiveNow.T6 : Bool × List (List Nat × List Nat) := (true, [([], []), ([], []), ([1], [1]), ([0, 2, 2], [0, 2]), ([3, 3], [3]), ([4], [4]), ([5, 4, 4], [4, 5]), ([4], [4]), ([7, 6, 4], [4, 7]), ([6, 8, 4], [4, 6, 8]), ([4, 9], [4, 9]), ([10, 8, 0, 1, 2, 3, 4, 5, 6, 7, 8, 9, 10], [10])])
def laws_FnLiveNow.B6 : List Nat := [0, 0, 2, 7, 15, 31, 63, 31, 255, 511, 1023, 2047]
theorem laws_FnLiveNow.tab6 : rtab .any (opsOf Try.f8 6) = laws_FnLiveNow.T6 := by kernel_rfl
theorem laws_FnLiveNow.bits6 : waitsOk laws_FnLiveNow.T6.2 laws_FnLiveNow.B6 = true := by kernel_rfl
def laws_FnLiveNow.T24 : Bool × List (List Nat × List Nat) := (true, [([], []), ([], []), ([1], [1]), ([2], [2]), ([0, 3], [0, 3]), ([4], [4]), ([5], [5]), ([6, 5], [5, 6]), ([5], [5]), ([7, 8, 5], [5, 7, 8]), ([9, 5], [5, 9]), ([5], [5]), ([10, 11, 5], [5, 10, 11]), ([5, 12], [5, 12])])
def laws_FnLiveNow.B24 : List Nat := [0, 0, 2, 6, 15, 31, 63, 127, 63, 511, 1023, 63, 4095, 8191]
theorem laws_FnLiveNow.tab24 : rtab .any (opsOf Try.f8 24) = laws_FnLiveNow.T24 := by kernel_rfl
theorem laws_FnLiveNow.bits24 : waitsOk laws_FnLiveNow.T24.2 laws_FnLiveNow.B24 = true := by kernel_rfl
def laws_FnLiveNow.T27 : Bool × List (List Nat × List Nat) := (true, [([], []), ([0], [0]), ([1, 1], [1]), ([2], [2]), ([2], [2]), ([4, 2], [2, 4]), ([5, 2], [2, 5]), ([3, 6, 2], [2, 3, 6]), ([2, 7], [2, 7]), ([8, 2], [8]), ([9], [9]), ([10, 9], [9, 10]), ([11, 9], [9, 11]), ([12, 9, 9], [9, 12]), ([9], [9]), ([14, 9], [9, 14]), ([13, 15, 13, 9], [9, 13, 15]), ([9, 16], [9, 16]), ([17, 16, 0, 1, 2, 3, 4, 5, 6, 7, 8, 9, 10, 11, 12, 13, 14, 15, 16, 17], [17])])
def laws_FnLiveNow.B27 : List Nat := [0, 1, 3, 7, 7, 23, 55, 127, 255, 511, 1023, 2047, 4095, 8191, 1023, 17407, 65535, 131071, 262143]
theorem laws_FnLiveNow.tab27 : rtab .any (opsOf Try.f8 27) = laws_FnLiveNow.T27 := by kernel_rfl
theorem laws_FnLiveNow.bits27 : waitsOk laws_FnLiveNow.T27.2 laws_FnLiveNow.B27 = true := by kernel_rfl
set_option maxHeartbeats 8000000 in
set_option maxRecDepth 100000 in
theorem laws_FnLiveNow.calls (k : Nat) (A0 : Option Addr) (c0 : Nat) (l0 : List Int) (r : Bool) (w : World) (hr0 : Kd.C (Kd.int .u8) w A0 l0.length l0) (hc0 : l0.length ≤ c0) (h : laws_FnLiveNow.f k l0 = some r) (hr_ : r = true) :
  Calls Try.prog 8 #[.slice A0 l0.length c0] w fun e w' => e = .returned (.bool r) ∧ Below w.heap.size w w' := by
 have hu57 := Try.underlying57
 have hu25 := Try.underlying25
 have hu31 := Try.underlying31
 have HR0 := Aside0.mk hr0
 have HC0 := Aside0.mk hc0
 clear hr0 hc0
 have HB := Aside0.mk (Below.refl w.heap.size w)
 have H : (if (l0.length : Int) > 1048576 then (some true) else ((spec_DrawLiveNow.f k l0).bind fun bt816 => ((impl_LiveNow.f k bt816.1 bt816.2.1 bt816.2.2).bind fun bt824 => ((spec_LiveNow.f k bt816.1 bt816.2.1 bt816.2.2).bind fun bt829 => ((laws_wkNet.f k bt824.1 bt824.2 bt829.1 bt829.2).bind fun t833 => (if t833 = true then ((impl_LiveOk.f k bt816.1 bt816.2.1 bt816.2.2).bind fun t834 => ((spec_LiveOk.f k bt816.1 bt816.2.1 bt816.2.2).bind fun t835 => (if (t834 != t835) = true then (laws_FnLiveNow.j0 k true bt816.1 bt816.2.1 bt816.2.2 bt824.1 bt824.2) else ((impl_LiveOk.f k bt816.1 bt816.2.1 bt816.2.2).bind fun t836 => (laws_FnLiveNow.j0 k (!t836) bt816.1 bt816.2.1 bt816.2.2 bt824.1 bt824.2))))) else (laws_FnLiveNow.j0 k true bt816.1 bt816.2.1 bt816.2.2 bt824.1 bt824.2))))))) = some r := h
 clear h
 by_cases c2 : (l0.length : Int) > 1048576
 ·rw [if_pos c2] at H
  have c2b0 : decide (1048576 < (l0.length : Int)) = true := decide_eq_true c2
  have c2b1 : decide (1048576 < l0.length) = true := decide_eq_true (by omega)
  clear c2
  obtain rfl := Option.some.inj H
  go_enter Try.func8, Try.ntmps8
  go_wp2
  go_ret
  exact ⟨by first | rfl | (simp [errW_none, errW_some] <;> rfl) | (simp [*, errW_none, errW_some] <;> rfl), bl HB⟩
 rw [if_neg c2] at H
 have c2b0 : decide (1048576 < (l0.length : Int)) = false := decide_eq_false c2
 have c2b1 : decide (1048576 < l0.length) = false := decide_eq_false (by omega)
 clear c2
 replace H := Option.bind_eq_some_iff.mp H
 obtain ⟨⟨t816, t817, t820⟩, A30, H⟩ := H
 have A3 := Aside0.mk A30
 clear A30
 replace H := Option.bind_eq_some_iff.mp H
 obtain ⟨⟨t824, t825⟩, A40, H⟩ := H
 have A4 := Aside0.mk A40
 clear A40
 have HC5 := Aside0.mk H
 clear H
 go_enter Try.func8, Try.ntmps8
 go_upto_region 5 with (first | ((with_reducible refine gate_callee (f := 36) rfl ?_); refine goesL_ (some 15) rfl rfl Try.func36 (by kernel_rfl) rfl #[.slice A0 l0.length c0] rfl (by (try simp only [List.map_toArray, List.map_cons, List.map_nil]); first | done | rfl | (simp only [List.length_drop, List.length_take]; rfl)) ?_; (with_reducible refine (spec_DrawLiveNow.calls k _ _ l0 t816 t817 t820 _ ?side1 ?side2 A3.out).mono ?_); (case side1 => repeat (first | exact HR0.out | (with_reducible refine Kd.C_alloc ?_ _) | (with_reducible refine Kd.C_drewN ?_ _) | (with_reducible refine Kd.C_drew ?_))); (case side2 => exact HC0.out); rintro e w6 ⟨v818, v821, rfl, ho0, ho1, hb⟩; refine ⟨_, rfl, ?_⟩; have HO819 := Aside0.mk (Kd.R_lower ho0 (below_size (bl HB))); have HO822 := Aside0.mk (Kd.R_lower ho1 (below_size (bl HB))); replace HB := Aside0.mk (below_step (bl HB) hb); (try clear hb); (try clear hb2); (try clear hk); (try clear hi); (try clear ho0); (try clear ho1)) | ((with_reducible refine gate_dst (N := 3) rfl ?_); refine box_event ?hg (N := 3) ?hd (cs := #[.int .i64 0, .slice none 0 0, .slice none 0 0]) (t := 57) ?hr ?_; (case hd => rfl); (case hg => rfl); (case hr => first | (go_simp; done) | (go_simp; rfl)); intro gb823 hg w7 hbox hb; replace HO819 := Aside0.mk (Kd.R_below (rk HO819) hb); replace HO822 := Aside0.mk (Kd.R_below (rk HO822) hb); have BK823 := Aside0.mk (hbox); have GW823 := Aside0.mk ((by rw [hg]; exact (below_size (bl HB)) : w.heap.size ≤ gb823)); have GE823 := Aside0.mk ((by rw [hg]; exact (below_size (bl HB)) : w.heap.size ≤ gb823)); replace HB := Aside0.mk (below_step (bl HB) hb); clear hb hbox hg; have hcz8_0 := bc w7 BK823 0 (.int .i64 0) rfl; have hcz8_1 := bc w7 BK823 1 (.slice none 0 0) rfl; have hcz8_2 := bc w7 BK823 2 (.slice none 0 0) rfl; have hfz8_0 := fz BK823 0; have hfz8_1 := fz BK823 1; have hfz8_2 := fz BK823 2; obtain ⟨Ao9, co9, eo9⟩ := Kd.R_slice HO819.out; subst eo9; obtain ⟨Ao10, co10, eo10⟩ := Kd.R_slice HO822.out; subst eo10) | ((with_reducible refine gate_callee (f := 37) rfl ?_); refine goesL_ (some 17) rfl rfl Try.func37 (by kernel_rfl) rfl #[.agg #[.int .i64 t816, .slice Ao9 t817.length co9, .slice Ao10 t820.length co10]] rfl (by (try simp only [List.map_toArray, List.map_cons, List.map_nil]); first | done | rfl | (simp only [List.length_drop, List.length_take]; rfl)) ?_; (with_reducible refine (impl_LiveNow.calls k t816 _ _ t817 _ _ t820 t824 t825 _ ?side1 ?side2 ?side3 ?side4 A4.out).mono ?_); (case side1 => refine (Kd.R_reads' (e := 31) (base := w.heap.size) (ok := fun k_ => True) (n := t817.length) (c := co9) ?_).2.2; exact (by (with_reducible repeat (first | apply Kd.R_alloc | apply Kd.R_drewN | apply Kd.R_drew)); exact (Kd.R_mono (Kd.R_far (p := ⟨gb823, 2, none⟩) (Kd.R_far (p := ⟨gb823, 1, none⟩) (Kd.R_far (p := ⟨gb823, 0, none⟩) (Kd.R_types HO819.out BK823.out (by decide)) (fun _ hk => hk.2) (.int .i64 t816)) (fun _ hk => hk.2) (.slice Ao9 t817.length co9)) (fun _ hk => hk.2) (.slice Ao10 t820.length co10)) (fun _ h_ => h_.1)))); (case side2 => exact (Kd.R_reads' HO819.out).2.1); (case side3 => refine (Kd.R_reads' (e := 64) (base := w.heap.size) (ok := fun k_ => True) (n := t820.length) (c := co10) ?_).2.2; exact (by (with_reducible repeat (first | apply Kd.R_alloc | apply Kd.R_drewN | apply Kd.R_drew)); exact (Kd.R_mono (Kd.R_far (p := ⟨gb823, 2, none⟩) (Kd.R_far (p := ⟨gb823, 1, none⟩) (Kd.R_far (p := ⟨gb823, 0, none⟩) (Kd.R_types HO822.out BK823.out (by decide)) (fun _ hk => hk.2) (.int .i64 t816)) (fun _ hk => hk.2) (.slice Ao9 t817.length co9)) (fun _ hk => hk.2) (.slice Ao10 t820.length co10)) (fun _ h_ => h_.1)))); (case side4 => exact (Kd.R_reads' HO822.out).2.1); rintro e w11 ⟨v826, rfl, ho0, hb⟩; refine ⟨_, rfl, ?_⟩; replace HO822 := Aside0.mk (Kd.R_below (by (with_reducible repeat (first | apply Kd.R_alloc | apply Kd.R_drewN | apply Kd.R_drew)); exact (Kd.R_mono (Kd.R_far (p := ⟨gb823, 2, none⟩) (Kd.R_far (p := ⟨gb823, 1, none⟩) (Kd.R_far (p := ⟨gb823, 0, none⟩) (Kd.R_types HO822.out BK823.out (by decide)) (fun _ hk => hk.2) (.int .i64 t816)) (fun _ hk => hk.2) (.slice Ao9 t817.length co9)) (fun _ hk => hk.2) (.slice Ao10 t820.length co10)) (fun _ h_ => h_.1))) hb); have HO827 := Aside0.mk (Kd.R_lower (Kd.R_new' ho0 (Kd.R_lt (by (with_reducible repeat (first | apply Kd.R_alloc | apply Kd.R_drewN | apply Kd.R_drew)); exact (Kd.R_mono (Kd.R_far (p := ⟨gb823, 2, none⟩) (Kd.R_far (p := ⟨gb823, 1, none⟩) (Kd.R_far (p := ⟨gb823, 0, none⟩) (Kd.R_types HO819.out BK823.out (by decide)) (fun _ hk => hk.2) (.int .i64 t816)) (fun _ hk => hk.2) (.slice Ao9 t817.length co9)) (fun _ hk => hk.2) (.slice Ao10 t820.length co10)) (fun _ h_ => h_.1))))) (below_size (bl1 HB GE823))); replace HO819 := Aside0.mk (Kd.R_elder' (by (with_reducible repeat (first | apply Kd.R_alloc | apply Kd.R_drewN | apply Kd.R_drew)); exact (Kd.R_mono (Kd.R_far (p := ⟨gb823, 2, none⟩) (Kd.R_far (p := ⟨gb823, 1, none⟩) (Kd.R_far (p := ⟨gb823, 0, none⟩) (Kd.R_types HO819.out BK823.out (by decide)) (fun _ hk => hk.2) (.int .i64 t816)) (fun _ hk => hk.2) (.slice Ao9 t817.length co9)) (fun _ hk => hk.2) (.slice Ao10 t820.length co10)) (fun _ h_ => h_.1))) (Kd.R_base ho0) hb); replace BK823 := Aside0.mk (blk_below (g := gb823) (o := .cells #[.int .i64 t816, .slice Ao9 t817.length co9, .slice Ao10 t820.length co10] 57 (0, 0)) (by (with_reducible repeat (first | refine blk_drewN ?_ _ | refine blk_drew ?_ | refine blk_alloc ?_ _)); refine blk_put (cs := #[.int .i64 t816, .slice Ao9 t817.length co9, .slice none 0 0]) ?_ 2 _ rfl; refine blk_put (cs := #[.int .i64 t816, .slice none 0 0, .slice none 0 0]) ?_ 1 _ rfl; refine blk_put (cs := #[.int .i64 0, .slice none 0 0, .slice none 0 0]) ?_ 0 _ rfl; (with_reducible repeat (first | refine blk_drewN ?_ _ | refine blk_drew ?_ | refine blk_alloc ?_ _)); exact BK823.out) hb); replace HB := Aside0.mk (below_step (bl1 HB GE823) hb); (try clear hb); (try clear hb2); (try clear hk); (try clear hi); (try clear ho0)) | ((with_reducible refine gate_dst (N := 4) rfl ?_); refine box_event ?hg (N := 4) ?hd (cs := #[.int .i64 0, .slice none 0 0]) (t := 25) ?hr ?_; (case hd => rfl); (case hg => rfl); (case hr => first | (go_simp; done) | (go_simp; rfl)); intro gb828 hg w12 hbox hb; replace HO819 := Aside0.mk (Kd.R_below (rk HO819) hb); replace HO822 := Aside0.mk (Kd.R_below (rk HO822) hb); replace HO827 := Aside0.mk (Kd.R_below (rk HO827) hb); have BK828 := Aside0.mk (hbox); have GW828 := Aside0.mk ((by rw [hg]; exact (below_size (bl1 HB GE823)) : w.heap.size ≤ gb828)); have GE828 := Aside0.mk ((by rw [hg]; exact (below_size (bl1 HB GE823)) : w.heap.size ≤ gb828)); replace HB := Aside0.mk (below_step (bl1 HB GE823) hb); have NB823_828 := Aside0.mk ((by rw [hg]; exact Nat.ne_of_lt (blk_lt (bk BK823)) : gb823 ≠ gb828)); have NB828_823 := Aside0.mk ((by rw [hg]; exact Nat.ne_of_gt (blk_lt (bk BK823)) : gb828 ≠ gb823)); replace BK823 := Aside0.mk (blk_below (bk BK823) hb); clear hb hbox hg; have hnb13 := NB828_823.out; have hnc13 := NB823_828.out; have hcz14_0 := bc w12 BK828 0 (.int .i64 0) rfl; have hcz14_1 := bc w12 BK828 1 (.slice none 0 0) rfl; have hfz14_0 := fz BK828 0; have hfz14_1 := fz BK828 1; obtain ⟨Ao15, co15, eo15⟩ := Kd.R_slice HO827.out; subst eo15))
 (try simp only [Act.put, List.setIfInBounds_toArray, List.set_cons_zero, List.set_cons_succ])
 go_cut [34] (fun v34 wc => ∃ (kq : Nat) (x34_4 : Bool), v34 = .bool x34_4 ∧ Aside0 (laws_FnLiveNow.j0 kq x34_4 t816 t817 t820 t824 t825 = some r) ∧ Aside0 (kq ≤ k) ∧ Aside0 (Kd.R k31 31 wc w.heap.size (fun k_ => some k_ ≠ ((.slice Ao15 t825.length co15) : Value).ownBlock) (.slice Ao9 t817.length co9) t817) ∧ Aside0 (Kd.R k64 64 wc w.heap.size (fun _ => True) (.slice Ao10 t820.length co10) t820) ∧ Aside0 (Kd.R k31 31 wc w.heap.size (fun k_ => some k_ ≠ ((.slice Ao9 t817.length co9) : Value).ownBlock) (.slice Ao15 t825.length co15) t825) ∧ Aside0 (wc.heap[gb823]? = some (.cells #[.int .i64 t816, (.slice Ao9 t817.length co9), (.slice Ao10 t820.length co10)] 57 (0, 0))) ∧ Aside0 (wc.heap[gb828]? = some (.cells #[.int .i64 t824, (.slice Ao15 t825.length co15)] 25 (0, 0))) ∧ Aside0 (Below w.heap.size w wc))
 case first =>
  have H := HC5.out
  clear HC5
  replace H := Option.bind_eq_some_iff.mp H
  obtain ⟨⟨t829, t830⟩, A160, H⟩ := H
  have A16 := Aside0.mk A160
  clear A160
  replace H := Option.bind_eq_some_iff.mp H
  obtain ⟨t833, A170, H⟩ := H
  have A17 := Aside0.mk A170
  clear A170
  by_cases c18 : t833 = true
  rotate_left
  ·replace c18 := Bool.eq_false_iff.mpr c18
   subst c18
   rw [if_neg (show ¬ (false = true) by decide)] at H
   have H' := Aside0.mk H
   clear H
   try go_wp2
   have n0_ : Aside0 (Kd.R k31 31 ((w12.setCell ⟨gb828, 0, none⟩ (.int .i64 t824)).setCell ⟨gb828, 1, none⟩ (.slice Ao15 t825.length co15)) w.heap.size (fun k_ => some k_ ≠ (.slice Ao15 t825.length co15 : Value).ownBlock) (.slice Ao9 t817.length co9) t817) := ⟨by (with_reducible repeat (first | apply Kd.R_alloc | apply Kd.R_drewN | apply Kd.R_drew)); exact Kd.R_mono (Kd.R_far (p := ⟨gb828, 1, none⟩) (Kd.R_far (p := ⟨gb828, 0, none⟩) (Kd.R_types HO819.out BK828.out (by decide)) (fun _ hk => hk.2) (.int .i64 t824)) (fun _ hk => hk.2) (.slice Ao15 t825.length co15)) (fun _ hk => hk.1.2)⟩
   have n1_ : Aside0 (Kd.R k64 64 ((w12.setCell ⟨gb828, 0, none⟩ (.int .i64 t824)).setCell ⟨gb828, 1, none⟩ (.slice Ao15 t825.length co15)) w.heap.size (fun _ => True) (.slice Ao10 t820.length co10) t820) := ⟨by (with_reducible repeat (first | apply Kd.R_alloc | apply Kd.R_drewN | apply Kd.R_drew)); exact Kd.R_mono (Kd.R_far (p := ⟨gb828, 1, none⟩) (Kd.R_far (p := ⟨gb828, 0, none⟩) (Kd.R_types HO822.out BK828.out (by decide)) (fun _ hk => hk.2) (.int .i64 t824)) (fun _ hk => hk.2) (.slice Ao15 t825.length co15)) (fun _ hk => trivial)⟩
   have n2_ : Aside0 (Kd.R k31 31 ((w12.setCell ⟨gb828, 0, none⟩ (.int .i64 t824)).setCell ⟨gb828, 1, none⟩ (.slice Ao15 t825.length co15)) w.heap.size (fun k_ => some k_ ≠ (.slice Ao9 t817.length co9 : Value).ownBlock) (.slice Ao15 t825.length co15) t825) := ⟨by (with_reducible repeat (first | apply Kd.R_alloc | apply Kd.R_drewN | apply Kd.R_drew)); exact Kd.R_mono (Kd.R_far (p := ⟨gb828, 1, none⟩) (Kd.R_far (p := ⟨gb828, 0, none⟩) (Kd.R_types HO827.out BK828.out (by decide)) (fun _ hk => hk.2) (.int .i64 t824)) (fun _ hk => hk.2) (.slice Ao15 t825.length co15)) (fun _ hk => hk.1.2)⟩
   have n3_ : Aside0 (((w12.setCell ⟨gb828, 0, none⟩ (.int .i64 t824)).setCell ⟨gb828, 1, none⟩ (.slice Ao15 t825.length co15)).heap[gb823]? = some (.cells #[.int .i64 t816, .slice Ao9 t817.length co9, .slice Ao10 t820.length co10] 57 (0, 0))) := ⟨by (with_reducible repeat (first | refine blk_drewN ?_ _ | refine blk_drew ?_ | refine blk_alloc ?_ _)); refine blk_far ?_ NB823_828.out _; refine blk_far ?_ NB823_828.out _; (with_reducible repeat (first | refine blk_drewN ?_ _ | refine blk_drew ?_ | refine blk_alloc ?_ _)); exact BK823.out⟩
   have n4_ : Aside0 (((w12.setCell ⟨gb828, 0, none⟩ (.int .i64 t824)).setCell ⟨gb828, 1, none⟩ (.slice Ao15 t825.length co15)).heap[gb828]? = some (.cells #[.int .i64 t824, .slice Ao15 t825.length co15] 25 (0, 0))) := ⟨by (with_reducible repeat (first | refine blk_drewN ?_ _ | refine blk_drew ?_ | refine blk_alloc ?_ _)); refine blk_put (cs := #[.int .i64 t824, .slice none 0 0]) ?_ 1 _ rfl; refine blk_put (cs := #[.int .i64 0, .slice none 0 0]) ?_ 0 _ rfl; (with_reducible repeat (first | refine blk_drewN ?_ _ | refine blk_drew ?_ | refine blk_alloc ?_ _)); exact BK828.out⟩
   have n5_ : Aside0 (Below w.heap.size w ((w12.setCell ⟨gb828, 0, none⟩ (.int .i64 t824)).setCell ⟨gb828, 1, none⟩ (.slice Ao15 t825.length co15))) := ⟨bl2 HB GE823 GE828⟩
   (try clear HO819)
   (try clear HO822)
   (try clear HO827)
   (try clear BK823)
   (try clear BK828)
   (try clear HB)
   generalize ((w12.setCell ⟨gb828, 0, none⟩ (.int .i64 t824)).setCell ⟨gb828, 1, none⟩ (.slice Ao15 t825.length co15)) = w38 at n0_ n1_ n2_ n3_ n4_ n5_ ⊢
   have HO819 := n0_
   have HO822 := n1_
   have HO827 := n2_
   have BK823 := n3_
   have BK828 := n4_
   have HB := n5_
   clear n0_ n1_ n2_ n3_ n4_ n5_
   replace HO819 := Aside0.mk (Kd.R_drew HO819.out)
   replace HO822 := Aside0.mk (Kd.R_drew HO822.out)
   replace HO827 := Aside0.mk (Kd.R_drew HO827.out)
   replace BK823 := Aside0.mk (blk_drew BK823.out)
   replace BK828 := Aside0.mk (blk_drew BK828.out)
   replace HB := Aside0.mk (below_drew1 HB.out)
   refine start_ (n := 17) (S := fun w' => w'.cell? ⟨gb828, 0, none⟩ = some (.int .i64 t824) ∧ w'.cell? ⟨gb828, 1, none⟩ = some (.slice Ao15 t825.length co15) ∧ w'.cell? ⟨gb823, 0, none⟩ = some (.int .i64 t816) ∧ w'.cell? ⟨gb823, 1, none⟩ = some (.slice Ao9 t817.length co9) ∧ w'.cell? ⟨gb823, 2, none⟩ = some (.slice Ao10 t820.length co10)) (ds := []) (ms 17 0) (by kernel_rfl) rfl (by kernel_rfl) ⟨(blk_cell BK828.out 0).trans rfl, (blk_cell BK828.out 1).trans rfl, (blk_cell BK823.out 0).trans rfl, (blk_cell BK823.out 1).trans rfl, (blk_cell BK823.out 2).trans rfl⟩ (fun hHeld => ?_); refine with_tabW laws_FnLiveNow.tab5 laws_FnLiveNow.bits5 (fun HT_ HW_ => ?_)
   generalize w38.drew = w39 at HO819 HO822 HO827 BK823 BK828 HB hHeld ⊢
   refine tk 0 18 ?_ (ms 17 1) rfl rfl HT_ HW_ (by kernel_rfl) (fun _ _ _ h => h) (by rfl) ?_ hHeld ?_ ?_ ?_
   rotate_left
   ·rintro w' ⟨s0, s1, s2, s3, s4⟩
    go_simp
    with_reducible rfl
   rotate_left
   ·simp only [SX]
    rfl
   refine tk 1 19 ?_ (ms 17 3) rfl rfl HT_ HW_ (by kernel_rfl) (fun _ _ _ h => h) (by rfl) ?_ hHeld ?_ ?_ ?_
   rotate_left
   ·rintro w' ⟨s0, s1, s2, s3, s4⟩
    go_simp
    with_reducible rfl
   rotate_left
   ·simp only [SX]
    rfl
   refine one_ (i := 2) (N := some 20) (ms 17 7) rfl rfl (one_of HT_.out (by kernel_rfl)) (by decide) (fun K hK => ?_)
   refine goes_ Try.func38 (by kernel_rfl) rfl #[.agg #[.int .i64 t816, .slice Ao9 t817.length co9, .slice Ao10 t820.length co10]] (by rfl) rfl rfl (by (try simp only [List.map_toArray, List.map_cons, List.map_nil]); first | done | rfl | (simp only [List.length_drop, List.length_take]; rfl)) ?_
   with_reducible refine (spec_LiveNow.calls k t816 _ _ t817 _ _ t820 t829 t830 _ ?side1 ?side2 ?side3 ?side4 A16.out).mono ?_
   (case side1 => repeat (first | exact (Kd.R_reads' HO819.out).2.2 | (with_reducible refine Kd.C_alloc ?_ _) | (with_reducible refine Kd.C_drewN ?_ _) | (with_reducible refine Kd.C_drew ?_)))
   (case side2 => exact (Kd.R_reads' HO819.out).2.1)
   (case side3 => repeat (first | exact (Kd.R_reads' HO822.out).2.2 | (with_reducible refine Kd.C_alloc ?_ _) | (with_reducible refine Kd.C_drewN ?_ _) | (with_reducible refine Kd.C_drew ?_)))
   (case side4 => exact (Kd.R_reads' HO822.out).2.1)
   rintro e w40 ⟨v831, rfl, ho0, hb⟩
   refine ⟨_, rfl, ?_⟩
   replace HO822 := Aside0.mk (Kd.R_below (rk HO822) hb)
   have HO832 := Aside0.mk (Kd.R_lower (Kd.R_new' (Kd.R_new' ho0 (Kd.R_lt (rk HO819))) (Kd.R_lt (rk HO827))) (below_size (bl2 HB GE823 GE828)))
   replace HO819 := Aside0.mk (Kd.R_elder' (rk HO819) (Kd.R_base ho0) hb)
   replace HO827 := Aside0.mk (Kd.R_elder' (rk HO827) (Kd.R_base ho0) hb)
   replace BK823 := Aside0.mk (blk_below (bk BK823) hb)
   replace BK828 := Aside0.mk (blk_below (bk BK828) hb)
   replace HB := Aside0.mk (below_step (bl2 HB GE823 GE828) hb)
   (try clear hb)
   (try clear hb2)
   (try clear hk)
   (try clear hi)
   (try clear ho0)
   obtain ⟨Ao41, co41, eo41⟩ := Kd.R_slice HO832.out
   (first | subst eo41 | (injection eo41 with f1_ f2_ f3_; have f4_ := f1_.symm; have f5_ := f3_.symm; clear f1_ f2_ f3_; subst f4_; subst f5_))
   refine hK.out _ _ ⟨(blk_cell BK828.out 0).trans rfl, (blk_cell BK828.out 1).trans rfl, (blk_cell BK823.out 0).trans rfl, (blk_cell BK823.out 1).trans rfl, (blk_cell BK823.out 2).trans rfl⟩ (fun hHeld => ?_)
   clear hK K
   refine norm_ (a' := ?_) ?_ ?_
   rotate_left
   ·show Act.put _ (some 20) _ = _
    simp only [SX]
    rfl
   refine one_ (i := 3) (N := some 21) (ms 17 15) rfl rfl (one_of HT_.out (by kernel_rfl)) (by decide) (fun K hK => ?_)
   refine goes_ Try.func17 (by kernel_rfl) rfl #[.agg #[.int .i64 t824, .slice Ao15 t825.length co15], .agg #[.int .i64 t829, .slice Ao41 t830.length co41]] (by rfl) rfl rfl (by (try simp only [List.map_toArray, List.map_cons, List.map_nil]); first | done | rfl | (simp only [List.length_drop, List.length_take]; rfl)) ?_
   with_reducible refine (laws_wkNet.calls k t824 _ _ t825 t829 _ _ t830 false _ ?side1 ?side2 ?side3 ?side4 A17.out).mono ?_
   (case side1 => repeat (first | exact (Kd.R_reads' HO827.out).2.2 | (with_reducible refine Kd.C_alloc ?_ _) | (with_reducible refine Kd.C_drewN ?_ _) | (with_reducible refine Kd.C_drew ?_)))
   (case side2 => exact (Kd.R_reads' HO827.out).2.1)
   (case side3 => repeat (first | exact (Kd.R_reads' HO832.out).2.2 | (with_reducible refine Kd.C_alloc ?_ _) | (with_reducible refine Kd.C_drewN ?_ _) | (with_reducible refine Kd.C_drew ?_)))
   (case side4 => exact (Kd.R_reads' HO832.out).2.1)
   rintro e w42 ⟨rfl, hb⟩
   refine ⟨_, rfl, ?_⟩
   replace HO819 := Aside0.mk (Kd.R_below (rk HO819) hb)
   replace HO822 := Aside0.mk (Kd.R_below (rk HO822) hb)
   replace HO827 := Aside0.mk (Kd.R_below (rk HO827) hb)
   replace HO832 := Aside0.mk (Kd.R_below (rk HO832) hb)
   replace BK823 := Aside0.mk (blk_below (bk BK823) hb)
   replace BK828 := Aside0.mk (blk_below (bk BK828) hb)
   replace HB := Aside0.mk (below_step (bl2 HB GE823 GE828) hb)
   (try clear hb)
   (try clear hb2)
   (try clear hk)
   (try clear hi)
   refine hK.out _ _ ⟨(blk_cell BK828.out 0).trans rfl, (blk_cell BK828.out 1).trans rfl, (blk_cell BK823.out 0).trans rfl, (blk_cell BK823.out 1).trans rfl, (blk_cell BK823.out 2).trans rfl⟩ (fun hHeld => ?_)
   clear hK K
   refine norm_ (a' := ?_) ?_ ?_
   rotate_left
   ·show Act.put _ (some 21) _ = _
    simp only [SX]
    rfl
   refine pu 4 22 ?_ (ms 17 31) rfl rfl HT_ (by kernel_rfl) (fun _ _ _ h => h) (by rfl) ?_ ?_ ?_ ?_
   rotate_left
   ·intro w'
    go_simp
    with_reducible rfl
   rotate_left
   ·simp only [SX]
    rfl
   refine pu 5 23 ?_ (ms 17 63) rfl rfl HT_ (by kernel_rfl) (fun _ _ _ h => h) (by rfl) ?_ ?_ ?_ ?_
   rotate_left
   ·intro w'
    go_simp
    with_reducible rfl
   rotate_left
   ·simp only [SX]
    rfl
   refine pure_ (i := 6) (N := some 24) (v := undef) (a' := ?_) (ms 17 127) rfl rfl (any_of HT_.out (by kernel_rfl)) (fun _ _ _ h => h) (Or.inr ⟨by rfl, rfl⟩) ?_ ?_
   rotate_left
   ·simp only [SX]
    rfl
   refine pure_ (i := 7) (N := some 25) (v := undef) (a' := ?_) (ms 17 255) rfl rfl (any_of HT_.out (by kernel_rfl)) (fun _ _ _ h => h) (Or.inr ⟨by rfl, rfl⟩) ?_ ?_
   rotate_left
   ·simp only [SX]
    rfl
   refine pure_ (i := 8) (N := some 26) (v := undef) (a' := ?_) (ms 17 511) rfl rfl (any_of HT_.out (by kernel_rfl)) (fun _ _ _ h => h) (Or.inr ⟨by rfl, rfl⟩) ?_ ?_
   rotate_left
   ·simp only [SX]
    rfl
   refine pure_ (i := 9) (N := some 27) (v := undef) (a' := ?_) (ms 17 1023) rfl rfl (any_of HT_.out (by kernel_rfl)) (fun _ _ _ h => h) (Or.inr ⟨by rfl, rfl⟩) ?_ ?_
   rotate_left
   ·simp only [SX]
    rfl
   refine pure_ (i := 10) (N := some 28) (v := undef) (a' := ?_) (ms 17 2047) rfl rfl (any_of HT_.out (by kernel_rfl)) (fun _ _ _ h => h) (Or.inr ⟨by rfl, rfl⟩) ?_ ?_
   rotate_left
   ·simp only [SX]
    rfl
   refine pu 11 29 ?_ (ms 17 4095) rfl rfl HT_ (by kernel_rfl) (fun _ _ _ h => h) (by rfl) ?_ ?_ ?_ ?_
   rotate_left
   ·intro w'
    go_simp
    with_reducible rfl
   rotate_left
   ·simp only [SX]
    rfl
   refine pu 12 30 ?_ (ms 17 8191) rfl rfl HT_ (by kernel_rfl) (fun _ _ _ h => h) (by rfl) ?_ ?_ ?_ ?_
   rotate_left
   ·intro w'
    go_simp
    with_reducible rfl
   rotate_left
   ·simp only [SX]
    rfl
   refine pure_ (i := 13) (N := some 31) (v := undef) (a' := ?_) (ms 17 16383) rfl rfl (any_of HT_.out (by kernel_rfl)) (fun _ _ _ h => h) (Or.inr ⟨by rfl, rfl⟩) ?_ ?_
   rotate_left
   ·simp only [SX]
    rfl
   refine pure_ (i := 14) (N := some 32) (v := undef) (a' := ?_) (ms 17 32767) rfl rfl (any_of HT_.out (by kernel_rfl)) (fun _ _ _ h => h) (Or.inr ⟨by rfl, rfl⟩) ?_ ?_
   rotate_left
   ·simp only [SX]
    rfl
   refine pure_ (i := 15) (N := some 33) (v := undef) (a' := ?_) (ms 17 65535) rfl rfl (any_of HT_.out (by kernel_rfl)) (fun _ _ _ h => h) (Or.inr ⟨by rfl, rfl⟩) ?_ ?_
   rotate_left
   ·simp only [SX]
    rfl
   refine pu 16 34 ?_ (ms 17 131071) rfl rfl HT_ (by kernel_rfl) (fun _ _ _ h => h) (by rfl) ?_ ?_ ?_ ?_
   rotate_left
   ·intro w'
    go_simp
    with_reducible rfl
   rotate_left
   ·simp only [SX]
    rfl
   refine done_ (done_of HT_.out (by kernel_rfl)) ?_
   try go_wp2
   go_meet
   case rel => exact ⟨_, (true), (by first | rfl | (simp; done) | (simp [*]; done)), H', ⟨by first | omega | exact Nat.le_refl _⟩, ⟨by (with_reducible repeat (first | apply Kd.R_alloc | apply Kd.R_drewN | apply Kd.R_drew)); exact Kd.R_mono HO819.out (fun _ hk => hk.1)⟩, ⟨rk HO822⟩, ⟨by (with_reducible repeat (first | apply Kd.R_alloc | apply Kd.R_drewN | apply Kd.R_drew)); exact Kd.R_mono HO827.out (fun _ hk => hk.1)⟩, ⟨bk BK823⟩, ⟨bk BK828⟩, ⟨bl2 HB GE823 GE828⟩⟩
  subst c18
  rw [if_pos rfl] at H
  replace H := Option.bind_eq_some_iff.mp H
  obtain ⟨t834, A190, H⟩ := H
  have A19 := Aside0.mk A190
  clear A190
  replace H := Option.bind_eq_some_iff.mp H
  obtain ⟨t835, A200, H⟩ := H
  have A20 := Aside0.mk A200
  clear A200
  by_cases c21 : (t834 != t835) = true
  ·rw [if_pos c21] at H
   have c21b0 : (t834 != t835) = true := c21
   (try (have c21b1 : decide (t834 = t835) = false := by simpa using c21))
   (try (have c21b2 : (t834 == t835) = false := by simpa using c21))
   (try (have c21b3 : ¬ (t834 = t835) := by simpa using c21))
   clear c21
   (first | rw [c21b0] | (simp only [i64_w, i32_w]; rw [c21b0]) | skip)
   have H' := Aside0.mk H
   clear H
   try go_wp2
   have n0_ : Aside0 (Kd.R k31 31 ((w12.setCell ⟨gb828, 0, none⟩ (.int .i64 t824)).setCell ⟨gb828, 1, none⟩ (.slice Ao15 t825.length co15)) w.heap.size (fun k_ => some k_ ≠ (.slice Ao15 t825.length co15 : Value).ownBlock) (.slice Ao9 t817.length co9) t817) := ⟨by (with_reducible repeat (first | apply Kd.R_alloc | apply Kd.R_drewN | apply Kd.R_drew)); exact Kd.R_mono (Kd.R_far (p := ⟨gb828, 1, none⟩) (Kd.R_far (p := ⟨gb828, 0, none⟩) (Kd.R_types HO819.out BK828.out (by decide)) (fun _ hk => hk.2) (.int .i64 t824)) (fun _ hk => hk.2) (.slice Ao15 t825.length co15)) (fun _ hk => hk.1.2)⟩
   have n1_ : Aside0 (Kd.R k64 64 ((w12.setCell ⟨gb828, 0, none⟩ (.int .i64 t824)).setCell ⟨gb828, 1, none⟩ (.slice Ao15 t825.length co15)) w.heap.size (fun _ => True) (.slice Ao10 t820.length co10) t820) := ⟨by (with_reducible repeat (first | apply Kd.R_alloc | apply Kd.R_drewN | apply Kd.R_drew)); exact Kd.R_mono (Kd.R_far (p := ⟨gb828, 1, none⟩) (Kd.R_far (p := ⟨gb828, 0, none⟩) (Kd.R_types HO822.out BK828.out (by decide)) (fun _ hk => hk.2) (.int .i64 t824)) (fun _ hk => hk.2) (.slice Ao15 t825.length co15)) (fun _ hk => trivial)⟩
   have n2_ : Aside0 (Kd.R k31 31 ((w12.setCell ⟨gb828, 0, none⟩ (.int .i64 t824)).setCell ⟨gb828, 1, none⟩ (.slice Ao15 t825.length co15)) w.heap.size (fun k_ => some k_ ≠ (.slice Ao9 t817.length co9 : Value).ownBlock) (.slice Ao15 t825.length co15) t825) := ⟨by (with_reducible repeat (first | apply Kd.R_alloc | apply Kd.R_drewN | apply Kd.R_drew)); exact Kd.R_mono (Kd.R_far (p := ⟨gb828, 1, none⟩) (Kd.R_far (p := ⟨gb828, 0, none⟩) (Kd.R_types HO827.out BK828.out (by decide)) (fun _ hk => hk.2) (.int .i64 t824)) (fun _ hk => hk.2) (.slice Ao15 t825.length co15)) (fun _ hk => hk.1.2)⟩
   have n3_ : Aside0 (((w12.setCell ⟨gb828, 0, none⟩ (.int .i64 t824)).setCell ⟨gb828, 1, none⟩ (.slice Ao15 t825.length co15)).heap[gb823]? = some (.cells #[.int .i64 t816, .slice Ao9 t817.length co9, .slice Ao10 t820.length co10] 57 (0, 0))) := ⟨by (with_reducible repeat (first | refine blk_drewN ?_ _ | refine blk_drew ?_ | refine blk_alloc ?_ _)); refine blk_far ?_ NB823_828.out _; refine blk_far ?_ NB823_828.out _; (with_reducible repeat (first | refine blk_drewN ?_ _ | refine blk_drew ?_ | refine blk_alloc ?_ _)); exact BK823.out⟩
   have n4_ : Aside0 (((w12.setCell ⟨gb828, 0, none⟩ (.int .i64 t824)).setCell ⟨gb828, 1, none⟩ (.slice Ao15 t825.length co15)).heap[gb828]? = some (.cells #[.int .i64 t824, .slice Ao15 t825.length co15] 25 (0, 0))) := ⟨by (with_reducible repeat (first | refine blk_drewN ?_ _ | refine blk_drew ?_ | refine blk_alloc ?_ _)); refine blk_put (cs := #[.int .i64 t824, .slice none 0 0]) ?_ 1 _ rfl; refine blk_put (cs := #[.int .i64 0, .slice none 0 0]) ?_ 0 _ rfl; (with_reducible repeat (first | refine blk_drewN ?_ _ | refine blk_drew ?_ | refine blk_alloc ?_ _)); exact BK828.out⟩
   have n5_ : Aside0 (Below w.heap.size w ((w12.setCell ⟨gb828, 0, none⟩ (.int .i64 t824)).setCell ⟨gb828, 1, none⟩ (.slice Ao15 t825.length co15))) := ⟨bl2 HB GE823 GE828⟩
   (try clear HO819)
   (try clear HO822)
   (try clear HO827)
   (try clear BK823)
   (try clear BK828)
   (try clear HB)
   generalize ((w12.setCell ⟨gb828, 0, none⟩ (.int .i64 t824)).setCell ⟨gb828, 1, none⟩ (.slice Ao15 t825.length co15)) = w22 at n0_ n1_ n2_ n3_ n4_ n5_ ⊢
   have HO819 := n0_
   have HO822 := n1_
   have HO827 := n2_
   have BK823 := n3_
   have BK828 := n4_
   have HB := n5_
   clear n0_ n1_ n2_ n3_ n4_ n5_
   replace HO819 := Aside0.mk (Kd.R_drew HO819.out)
   replace HO822 := Aside0.mk (Kd.R_drew HO822.out)
   replace HO827 := Aside0.mk (Kd.R_drew HO827.out)
   replace BK823 := Aside0.mk (blk_drew BK823.out)
   replace BK828 := Aside0.mk (blk_drew BK828.out)
   replace HB := Aside0.mk (below_drew1 HB.out)
   refine start_ (n := 17) (S := fun w' => w'.cell? ⟨gb828, 0, none⟩ = some (.int .i64 t824) ∧ w'.cell? ⟨gb828, 1, none⟩ = some (.slice Ao15 t825.length co15) ∧ w'.cell? ⟨gb823, 0, none⟩ = some (.int .i64 t816) ∧ w'.cell? ⟨gb823, 1, none⟩ = some (.slice Ao9 t817.length co9) ∧ w'.cell? ⟨gb823, 2, none⟩ = some (.slice Ao10 t820.length co10)) (ds := []) (ms 17 0) (by kernel_rfl) rfl (by kernel_rfl) ⟨(blk_cell BK828.out 0).trans rfl, (blk_cell BK828.out 1).trans rfl, (blk_cell BK823.out 0).trans rfl, (blk_cell BK823.out 1).trans rfl, (blk_cell BK823.out 2).trans rfl⟩ (fun hHeld => ?_); refine with_tabW laws_FnLiveNow.tab5 laws_FnLiveNow.bits5 (fun HT_ HW_ => ?_)
   generalize w22.drew = w23 at HO819 HO822 HO827 BK823 BK828 HB hHeld ⊢
   refine tk 0 18 ?_ (ms 17 1) rfl rfl HT_ HW_ (by kernel_rfl) (fun _ _ _ h => h) (by rfl) ?_ hHeld ?_ ?_ ?_
   rotate_left
   ·rintro w' ⟨s0, s1, s2, s3, s4⟩
    go_simp
    with_reducible rfl
   rotate_left
   ·simp only [SX]
    rfl
   refine tk 1 19 ?_ (ms 17 3) rfl rfl HT_ HW_ (by kernel_rfl) (fun _ _ _ h => h) (by rfl) ?_ hHeld ?_ ?_ ?_
   rotate_left
   ·rintro w' ⟨s0, s1, s2, s3, s4⟩
    go_simp
    with_reducible rfl
   rotate_left
   ·simp only [SX]
    rfl
   refine one_ (i := 2) (N := some 20) (ms 17 7) rfl rfl (one_of HT_.out (by kernel_rfl)) (by decide) (fun K hK => ?_)
   refine goes_ Try.func38 (by kernel_rfl) rfl #[.agg #[.int .i64 t816, .slice Ao9 t817.length co9, .slice Ao10 t820.length co10]] (by rfl) rfl rfl (by (try simp only [List.map_toArray, List.map_cons, List.map_nil]); first | done | rfl | (simp only [List.length_drop, List.length_take]; rfl)) ?_
   with_reducible refine (spec_LiveNow.calls k t816 _ _ t817 _ _ t820 t829 t830 _ ?side1 ?side2 ?side3 ?side4 A16.out).mono ?_
   (case side1 => repeat (first | exact (Kd.R_reads' HO819.out).2.2 | (with_reducible refine Kd.C_alloc ?_ _) | (with_reducible refine Kd.C_drewN ?_ _) | (with_reducible refine Kd.C_drew ?_)))
   (case side2 => exact (Kd.R_reads' HO819.out).2.1)
   (case side3 => repeat (first | exact (Kd.R_reads' HO822.out).2.2 | (with_reducible refine Kd.C_alloc ?_ _) | (with_reducible refine Kd.C_drewN ?_ _) | (with_reducible refine Kd.C_drew ?_)))
   (case side4 => exact (Kd.R_reads' HO822.out).2.1)
   rintro e w24 ⟨v831, rfl, ho0, hb⟩
   refine ⟨_, rfl, ?_⟩
   replace HO822 := Aside0.mk (Kd.R_below (rk HO822) hb)
   have HO832 := Aside0.mk (Kd.R_lower (Kd.R_new' (Kd.R_new' ho0 (Kd.R_lt (rk HO819))) (Kd.R_lt (rk HO827))) (below_size (bl2 HB GE823 GE828)))
   replace HO819 := Aside0.mk (Kd.R_elder' (rk HO819) (Kd.R_base ho0) hb)
   replace HO827 := Aside0.mk (Kd.R_elder' (rk HO827) (Kd.R_base ho0) hb)
   replace BK823 := Aside0.mk (blk_below (bk BK823) hb)
   replace BK828 := Aside0.mk (blk_below (bk BK828) hb)
   replace HB := Aside0.mk (below_step (bl2 HB GE823 GE828) hb)
   (try clear hb)
   (try clear hb2)
   (try clear hk)
   (try clear hi)
   (try clear ho0)
   obtain ⟨Ao25, co25, eo25⟩ := Kd.R_slice HO832.out
   (first | subst eo25 | (injection eo25 with f1_ f2_ f3_; have f4_ := f1_.symm; have f5_ := f3_.symm; clear f1_ f2_ f3_; subst f4_; subst f5_))
   refine hK.out _ _ ⟨(blk_cell BK828.out 0).trans rfl, (blk_cell BK828.out 1).trans rfl, (blk_cell BK823.out 0).trans rfl, (blk_cell BK823.out 1).trans rfl, (blk_cell BK823.out 2).trans rfl⟩ (fun hHeld => ?_)
   clear hK K
   refine norm_ (a' := ?_) ?_ ?_
   rotate_left
   ·show Act.put _ (some 20) _ = _
    simp only [SX]
    rfl
   refine one_ (i := 3) (N := some 21) (ms 17 15) rfl rfl (one_of HT_.out (by kernel_rfl)) (by decide) (fun K hK => ?_)
   refine goes_ Try.func17 (by kernel_rfl) rfl #[.agg #[.int .i64 t824, .slice Ao15 t825.length co15], .agg #[.int .i64 t829, .slice Ao25 t830.length co25]] (by rfl) rfl rfl (by (try simp only [List.map_toArray, List.map_cons, List.map_nil]); first | done | rfl | (simp only [List.length_drop, List.length_take]; rfl)) ?_
   with_reducible refine (laws_wkNet.calls k t824 _ _ t825 t829 _ _ t830 true _ ?side1 ?side2 ?side3 ?side4 A17.out).mono ?_
   (case side1 => repeat (first | exact (Kd.R_reads' HO827.out).2.2 | (with_reducible refine Kd.C_alloc ?_ _) | (with_reducible refine Kd.C_drewN ?_ _) | (with_reducible refine Kd.C_drew ?_)))
   (case side2 => exact (Kd.R_reads' HO827.out).2.1)
   (case side3 => repeat (first | exact (Kd.R_reads' HO832.out).2.2 | (with_reducible refine Kd.C_alloc ?_ _) | (with_reducible refine Kd.C_drewN ?_ _) | (with_reducible refine Kd.C_drew ?_)))
   (case side4 => exact (Kd.R_reads' HO832.out).2.1)
   rintro e w26 ⟨rfl, hb⟩
   refine ⟨_, rfl, ?_⟩
   replace HO819 := Aside0.mk (Kd.R_below (rk HO819) hb)
   replace HO822 := Aside0.mk (Kd.R_below (rk HO822) hb)
   replace HO827 := Aside0.mk (Kd.R_below (rk HO827) hb)
   replace HO832 := Aside0.mk (Kd.R_below (rk HO832) hb)
   replace BK823 := Aside0.mk (blk_below (bk BK823) hb)
   replace BK828 := Aside0.mk (blk_below (bk BK828) hb)
   replace HB := Aside0.mk (below_step (bl2 HB GE823 GE828) hb)
   (try clear hb)
   (try clear hb2)
   (try clear hk)
   (try clear hi)
   refine hK.out _ _ ⟨(blk_cell BK828.out 0).trans rfl, (blk_cell BK828.out 1).trans rfl, (blk_cell BK823.out 0).trans rfl, (blk_cell BK823.out 1).trans rfl, (blk_cell BK823.out 2).trans rfl⟩ (fun hHeld => ?_)
   clear hK K
   refine norm_ (a' := ?_) ?_ ?_
   rotate_left
   ·show Act.put _ (some 21) _ = _
    simp only [SX]
    rfl
   refine pu 4 22 ?_ (ms 17 31) rfl rfl HT_ (by kernel_rfl) (fun _ _ _ h => h) (by rfl) ?_ ?_ ?_ ?_
   rotate_left
   ·intro w'
    go_simp
    with_reducible rfl
   rotate_left
   ·simp only [SX]
    rfl
   refine pu 5 23 ?_ (ms 17 63) rfl rfl HT_ (by kernel_rfl) (fun _ _ _ h => h) (by rfl) ?_ ?_ ?_ ?_
   rotate_left
   ·intro w'
    go_simp
    with_reducible rfl
   rotate_left
   ·simp only [SX]
    rfl
   refine tk 6 24 ?_ (ms 17 127) rfl rfl HT_ HW_ (by kernel_rfl) (fun _ _ _ h => h) (by rfl) ?_ hHeld ?_ ?_ ?_
   rotate_left
   ·rintro w' ⟨s0, s1, s2, s3, s4⟩
    go_simp
    with_reducible rfl
   rotate_left
   ·simp only [SX]
    rfl
   refine tk 8 26 ?_ (ms 17 383) rfl rfl HT_ HW_ (by kernel_rfl) (fun _ _ _ h => h) (by rfl) ?_ hHeld ?_ ?_ ?_
   rotate_left
   ·rintro w' ⟨s0, s1, s2, s3, s4⟩
    go_simp
    with_reducible rfl
   rotate_left
   ·simp only [SX]
    rfl
   refine one_ (i := 7) (N := some 25) (ms 17 511) rfl rfl (one_of HT_.out (by kernel_rfl)) (by decide) (fun K hK => ?_)
   refine goes_ Try.func34 (by kernel_rfl) rfl #[.agg #[.int .i64 t816, .slice Ao9 t817.length co9, .slice Ao10 t820.length co10]] (by rfl) rfl rfl (by (try simp only [List.map_toArray, List.map_cons, List.map_nil]); first | done | rfl | (simp only [List.length_drop, List.length_take]; rfl)) ?_
   with_reducible refine (impl_LiveOk.calls k t816 _ _ t817 _ _ t820 t834 _ ?side1 ?side2 ?side3 ?side4 A19.out).mono ?_
   (case side1 => repeat (first | exact (Kd.R_reads' HO819.out).2.2 | (with_reducible refine Kd.C_alloc ?_ _) | (with_reducible refine Kd.C_drewN ?_ _) | (with_reducible refine Kd.C_drew ?_)))
   (case side2 => exact (Kd.R_reads' HO819.out).2.1)
   (case side3 => repeat (first | exact (Kd.R_reads' HO822.out).2.2 | (with_reducible refine Kd.C_alloc ?_ _) | (with_reducible refine Kd.C_drewN ?_ _) | (with_reducible refine Kd.C_drew ?_)))
   (case side4 => exact (Kd.R_reads' HO822.out).2.1)
   rintro e w27 ⟨rfl, hb⟩
   refine ⟨_, rfl, ?_⟩
   replace HO819 := Aside0.mk (Kd.R_below (rk HO819) hb)
   replace HO822 := Aside0.mk (Kd.R_below (rk HO822) hb)
   replace HO827 := Aside0.mk (Kd.R_below (rk HO827) hb)
   replace HO832 := Aside0.mk (Kd.R_below (rk HO832) hb)
   replace BK823 := Aside0.mk (blk_below (bk BK823) hb)
   replace BK828 := Aside0.mk (blk_below (bk BK828) hb)
   replace HB := Aside0.mk (below_step (bl2 HB GE823 GE828) hb)
   (try clear hb)
   (try clear hb2)
   (try clear hk)
   (try clear hi)
   refine hK.out _ _ ⟨(blk_cell BK828.out 0).trans rfl, (blk_cell BK828.out 1).trans rfl, (blk_cell BK823.out 0).trans rfl, (blk_cell BK823.out 1).trans rfl, (blk_cell BK823.out 2).trans rfl⟩ (fun hHeld => ?_)
   clear hK K
   refine norm_ (a' := ?_) ?_ ?_
   rotate_left
   ·show Act.put _ (some 25) _ = _
    simp only [SX]
    rfl
   refine one_ (i := 9) (N := some 27) (ms 17 1023) rfl rfl (one_of HT_.out (by kernel_rfl)) (by decide) (fun K hK => ?_)
   refine goes_ Try.func32 (by kernel_rfl) rfl #[.agg #[.int .i64 t816, .slice Ao9 t817.length co9, .slice Ao10 t820.length co10]] (by rfl) rfl rfl (by (try simp only [List.map_toArray, List.map_cons, List.map_nil]); first | done | rfl | (simp only [List.length_drop, List.length_take]; rfl)) ?_
   with_reducible refine (spec_LiveOk.calls k t816 _ _ t817 _ _ t820 t835 _ ?side1 ?side2 ?side3 ?side4 A20.out).mono ?_
   (case side1 => repeat (first | exact (Kd.R_reads' HO819.out).2.2 | (with_reducible refine Kd.C_alloc ?_ _) | (with_reducible refine Kd.C_drewN ?_ _) | (with_reducible refine Kd.C_drew ?_)))
   (case side2 => exact (Kd.R_reads' HO819.out).2.1)
   (case side3 => repeat (first | exact (Kd.R_reads' HO822.out).2.2 | (with_reducible refine Kd.C_alloc ?_ _) | (with_reducible refine Kd.C_drewN ?_ _) | (with_reducible refine Kd.C_drew ?_)))
   (case side4 => exact (Kd.R_reads' HO822.out).2.1)
   rintro e w28 ⟨rfl, hb⟩
   refine ⟨_, rfl, ?_⟩
   replace HO819 := Aside0.mk (Kd.R_below (rk HO819) hb)
   replace HO822 := Aside0.mk (Kd.R_below (rk HO822) hb)
   replace HO827 := Aside0.mk (Kd.R_below (rk HO827) hb)
   replace HO832 := Aside0.mk (Kd.R_below (rk HO832) hb)
   replace BK823 := Aside0.mk (blk_below (bk BK823) hb)
   replace BK828 := Aside0.mk (blk_below (bk BK828) hb)
   replace HB := Aside0.mk (below_step (bl2 HB GE823 GE828) hb)
   (try clear hb)
   (try clear hb2)
   (try clear hk)
   (try clear hi)
   refine hK.out _ _ ⟨(blk_cell BK828.out 0).trans rfl, (blk_cell BK828.out 1).trans rfl, (blk_cell BK823.out 0).trans rfl, (blk_cell BK823.out 1).trans rfl, (blk_cell BK823.out 2).trans rfl⟩ (fun hHeld => ?_)
   clear hK K
   refine norm_ (a' := ?_) ?_ ?_
   rotate_left
   ·show Act.put _ (some 27) _ = _
    simp only [SX]
    rfl
   refine pu 10 28 ?_ (ms 17 2047) rfl rfl HT_ (by kernel_rfl) (fun _ _ _ h => h) (by rfl) ?_ ?_ ?_ ?_
   rotate_left
   ·intro w'
    go_simp
    with_reducible rfl
   rotate_left
   ·simp only [SX]
    rfl
   refine pu 11 29 ?_ (ms 17 4095) rfl rfl HT_ (by kernel_rfl) (fun _ _ _ h => h) (by rfl) ?_ ?_ ?_ ?_
   rotate_left
   ·intro w'
    go_simp
    with_reducible rfl
   rotate_left
   ·simp only [SX]
    rfl
   refine pu 12 30 ?_ (ms 17 8191) rfl rfl HT_ (by kernel_rfl) (fun _ _ _ h => h) (by rfl) ?_ ?_ ?_ ?_
   rotate_left
   ·intro w'
    go_simp
    with_reducible rfl
   rotate_left
   ·simp only [SX]
    rfl
   refine pure_ (i := 13) (N := some 31) (v := undef) (a' := ?_) (ms 17 16383) rfl rfl (any_of HT_.out (by kernel_rfl)) (fun _ _ _ h => h) (Or.inr ⟨by rfl, rfl⟩) ?_ ?_
   rotate_left
   ·simp only [SX]
    rfl
   refine pure_ (i := 14) (N := some 32) (v := undef) (a' := ?_) (ms 17 32767) rfl rfl (any_of HT_.out (by kernel_rfl)) (fun _ _ _ h => h) (Or.inr ⟨by rfl, rfl⟩) ?_ ?_
   rotate_left
   ·simp only [SX]
    rfl
   refine pure_ (i := 15) (N := some 33) (v := undef) (a' := ?_) (ms 17 65535) rfl rfl (any_of HT_.out (by kernel_rfl)) (fun _ _ _ h => h) (Or.inr ⟨by rfl, rfl⟩) ?_ ?_
   rotate_left
   ·simp only [SX]
    rfl
   refine pu 16 34 ?_ (ms 17 131071) rfl rfl HT_ (by kernel_rfl) (fun _ _ _ h => h) (by rfl) ?_ ?_ ?_ ?_
   rotate_left
   ·intro w'
    go_simp
    with_reducible rfl
   rotate_left
   ·simp only [SX]
    rfl
   refine done_ (done_of HT_.out (by kernel_rfl)) ?_
   try go_wp2
   go_meet
   case rel => exact ⟨_, (true), (by first | rfl | (simp; done) | (simp [*]; done)), H', ⟨by first | omega | exact Nat.le_refl _⟩, ⟨by (with_reducible repeat (first | apply Kd.R_alloc | apply Kd.R_drewN | apply Kd.R_drew)); exact Kd.R_mono HO819.out (fun _ hk => hk.1)⟩, ⟨rk HO822⟩, ⟨by (with_reducible repeat (first | apply Kd.R_alloc | apply Kd.R_drewN | apply Kd.R_drew)); exact Kd.R_mono HO827.out (fun _ hk => hk.1)⟩, ⟨bk BK823⟩, ⟨bk BK828⟩, ⟨bl2 HB GE823 GE828⟩⟩
  rw [if_neg c21] at H
  have c21b0 : (t834 != t835) = false := by simpa using c21
  (try (have c21b1 : decide (t834 = t835) = true := by simpa using c21))
  (try (have c21b2 : (t834 == t835) = true := by simpa using c21))
  clear c21
  (first | rw [c21b0] | (simp only [i64_w, i32_w]; rw [c21b0]) | skip)
  replace H := Option.bind_eq_some_iff.mp H
  obtain ⟨t836, A290, H⟩ := H
  have A29 := Aside0.mk A290
  clear A290
  have H' := Aside0.mk H
  clear H
  try go_wp2
  have n0_ : Aside0 (Kd.R k31 31 ((w12.setCell ⟨gb828, 0, none⟩ (.int .i64 t824)).setCell ⟨gb828, 1, none⟩ (.slice Ao15 t825.length co15)) w.heap.size (fun k_ => some k_ ≠ (.slice Ao15 t825.length co15 : Value).ownBlock) (.slice Ao9 t817.length co9) t817) := ⟨by (with_reducible repeat (first | apply Kd.R_alloc | apply Kd.R_drewN | apply Kd.R_drew)); exact Kd.R_mono (Kd.R_far (p := ⟨gb828, 1, none⟩) (Kd.R_far (p := ⟨gb828, 0, none⟩) (Kd.R_types HO819.out BK828.out (by decide)) (fun _ hk => hk.2) (.int .i64 t824)) (fun _ hk => hk.2) (.slice Ao15 t825.length co15)) (fun _ hk => hk.1.2)⟩
  have n1_ : Aside0 (Kd.R k64 64 ((w12.setCell ⟨gb828, 0, none⟩ (.int .i64 t824)).setCell ⟨gb828, 1, none⟩ (.slice Ao15 t825.length co15)) w.heap.size (fun _ => True) (.slice Ao10 t820.length co10) t820) := ⟨by (with_reducible repeat (first | apply Kd.R_alloc | apply Kd.R_drewN | apply Kd.R_drew)); exact Kd.R_mono (Kd.R_far (p := ⟨gb828, 1, none⟩) (Kd.R_far (p := ⟨gb828, 0, none⟩) (Kd.R_types HO822.out BK828.out (by decide)) (fun _ hk => hk.2) (.int .i64 t824)) (fun _ hk => hk.2) (.slice Ao15 t825.length co15)) (fun _ hk => trivial)⟩
  have n2_ : Aside0 (Kd.R k31 31 ((w12.setCell ⟨gb828, 0, none⟩ (.int .i64 t824)).setCell ⟨gb828, 1, none⟩ (.slice Ao15 t825.length co15)) w.heap.size (fun k_ => some k_ ≠ (.slice Ao9 t817.length co9 : Value).ownBlock) (.slice Ao15 t825.length co15) t825) := ⟨by (with_reducible repeat (first | apply Kd.R_alloc | apply Kd.R_drewN | apply Kd.R_drew)); exact Kd.R_mono (Kd.R_far (p := ⟨gb828, 1, none⟩) (Kd.R_far (p := ⟨gb828, 0, none⟩) (Kd.R_types HO827.out BK828.out (by decide)) (fun _ hk => hk.2) (.int .i64 t824)) (fun _ hk => hk.2) (.slice Ao15 t825.length co15)) (fun _ hk => hk.1.2)⟩
  have n3_ : Aside0 (((w12.setCell ⟨gb828, 0, none⟩ (.int .i64 t824)).setCell ⟨gb828, 1, none⟩ (.slice Ao15 t825.length co15)).heap[gb823]? = some (.cells #[.int .i64 t816, .slice Ao9 t817.length co9, .slice Ao10 t820.length co10] 57 (0, 0))) := ⟨by (with_reducible repeat (first | refine blk_drewN ?_ _ | refine blk_drew ?_ | refine blk_alloc ?_ _)); refine blk_far ?_ NB823_828.out _; refine blk_far ?_ NB823_828.out _; (with_reducible repeat (first | refine blk_drewN ?_ _ | refine blk_drew ?_ | refine blk_alloc ?_ _)); exact BK823.out⟩
  have n4_ : Aside0 (((w12.setCell ⟨gb828, 0, none⟩ (.int .i64 t824)).setCell ⟨gb828, 1, none⟩ (.slice Ao15 t825.length co15)).heap[gb828]? = some (.cells #[.int .i64 t824, .slice Ao15 t825.length co15] 25 (0, 0))) := ⟨by (with_reducible repeat (first | refine blk_drewN ?_ _ | refine blk_drew ?_ | refine blk_alloc ?_ _)); refine blk_put (cs := #[.int .i64 t824, .slice none 0 0]) ?_ 1 _ rfl; refine blk_put (cs := #[.int .i64 0, .slice none 0 0]) ?_ 0 _ rfl; (with_reducible repeat (first | refine blk_drewN ?_ _ | refine blk_drew ?_ | refine blk_alloc ?_ _)); exact BK828.out⟩
  have n5_ : Aside0 (Below w.heap.size w ((w12.setCell ⟨gb828, 0, none⟩ (.int .i64 t824)).setCell ⟨gb828, 1, none⟩ (.slice Ao15 t825.length co15))) := ⟨bl2 HB GE823 GE828⟩
  (try clear HO819)
  (try clear HO822)
  (try clear HO827)
  (try clear BK823)
  (try clear BK828)
  (try clear HB)
  generalize ((w12.setCell ⟨gb828, 0, none⟩ (.int .i64 t824)).setCell ⟨gb828, 1, none⟩ (.slice Ao15 t825.length co15)) = w30 at n0_ n1_ n2_ n3_ n4_ n5_ ⊢
  have HO819 := n0_
  have HO822 := n1_
  have HO827 := n2_
  have BK823 := n3_
  have BK828 := n4_
  have HB := n5_
  clear n0_ n1_ n2_ n3_ n4_ n5_
  replace HO819 := Aside0.mk (Kd.R_drew HO819.out)
  replace HO822 := Aside0.mk (Kd.R_drew HO822.out)
  replace HO827 := Aside0.mk (Kd.R_drew HO827.out)
  replace BK823 := Aside0.mk (blk_drew BK823.out)
  replace BK828 := Aside0.mk (blk_drew BK828.out)
  replace HB := Aside0.mk (below_drew1 HB.out)
  refine start_ (n := 17) (S := fun w' => w'.cell? ⟨gb828, 0, none⟩ = some (.int .i64 t824) ∧ w'.cell? ⟨gb828, 1, none⟩ = some (.slice Ao15 t825.length co15) ∧ w'.cell? ⟨gb823, 0, none⟩ = some (.int .i64 t816) ∧ w'.cell? ⟨gb823, 1, none⟩ = some (.slice Ao9 t817.length co9) ∧ w'.cell? ⟨gb823, 2, none⟩ = some (.slice Ao10 t820.length co10)) (ds := []) (ms 17 0) (by kernel_rfl) rfl (by kernel_rfl) ⟨(blk_cell BK828.out 0).trans rfl, (blk_cell BK828.out 1).trans rfl, (blk_cell BK823.out 0).trans rfl, (blk_cell BK823.out 1).trans rfl, (blk_cell BK823.out 2).trans rfl⟩ (fun hHeld => ?_); refine with_tabW laws_FnLiveNow.tab5 laws_FnLiveNow.bits5 (fun HT_ HW_ => ?_)
  generalize w30.drew = w31 at HO819 HO822 HO827 BK823 BK828 HB hHeld ⊢
  refine tk 0 18 ?_ (ms 17 1) rfl rfl HT_ HW_ (by kernel_rfl) (fun _ _ _ h => h) (by rfl) ?_ hHeld ?_ ?_ ?_
  rotate_left
  ·rintro w' ⟨s0, s1, s2, s3, s4⟩
   go_simp
   with_reducible rfl
  rotate_left
  ·simp only [SX]
   rfl
  refine tk 1 19 ?_ (ms 17 3) rfl rfl HT_ HW_ (by kernel_rfl) (fun _ _ _ h => h) (by rfl) ?_ hHeld ?_ ?_ ?_
  rotate_left
  ·rintro w' ⟨s0, s1, s2, s3, s4⟩
   go_simp
   with_reducible rfl
  rotate_left
  ·simp only [SX]
   rfl
  refine one_ (i := 2) (N := some 20) (ms 17 7) rfl rfl (one_of HT_.out (by kernel_rfl)) (by decide) (fun K hK => ?_)
  refine goes_ Try.func38 (by kernel_rfl) rfl #[.agg #[.int .i64 t816, .slice Ao9 t817.length co9, .slice Ao10 t820.length co10]] (by rfl) rfl rfl (by (try simp only [List.map_toArray, List.map_cons, List.map_nil]); first | done | rfl | (simp only [List.length_drop, List.length_take]; rfl)) ?_
  with_reducible refine (spec_LiveNow.calls k t816 _ _ t817 _ _ t820 t829 t830 _ ?side1 ?side2 ?side3 ?side4 A16.out).mono ?_
  (case side1 => repeat (first | exact (Kd.R_reads' HO819.out).2.2 | (with_reducible refine Kd.C_alloc ?_ _) | (with_reducible refine Kd.C_drewN ?_ _) | (with_reducible refine Kd.C_drew ?_)))
  (case side2 => exact (Kd.R_reads' HO819.out).2.1)
  (case side3 => repeat (first | exact (Kd.R_reads' HO822.out).2.2 | (with_reducible refine Kd.C_alloc ?_ _) | (with_reducible refine Kd.C_drewN ?_ _) | (with_reducible refine Kd.C_drew ?_)))
  (case side4 => exact (Kd.R_reads' HO822.out).2.1)
  rintro e w32 ⟨v831, rfl, ho0, hb⟩
  refine ⟨_, rfl, ?_⟩
  replace HO822 := Aside0.mk (Kd.R_below (rk HO822) hb)
  have HO832 := Aside0.mk (Kd.R_lower (Kd.R_new' (Kd.R_new' ho0 (Kd.R_lt (rk HO819))) (Kd.R_lt (rk HO827))) (below_size (bl2 HB GE823 GE828)))
  replace HO819 := Aside0.mk (Kd.R_elder' (rk HO819) (Kd.R_base ho0) hb)
  replace HO827 := Aside0.mk (Kd.R_elder' (rk HO827) (Kd.R_base ho0) hb)
  replace BK823 := Aside0.mk (blk_below (bk BK823) hb)
  replace BK828 := Aside0.mk (blk_below (bk BK828) hb)
  replace HB := Aside0.mk (below_step (bl2 HB GE823 GE828) hb)
  (try clear hb)
  (try clear hb2)
  (try clear hk)
  (try clear hi)
  (try clear ho0)
  obtain ⟨Ao33, co33, eo33⟩ := Kd.R_slice HO832.out
  (first | subst eo33 | (injection eo33 with f1_ f2_ f3_; have f4_ := f1_.symm; have f5_ := f3_.symm; clear f1_ f2_ f3_; subst f4_; subst f5_))
  refine hK.out _ _ ⟨(blk_cell BK828.out 0).trans rfl, (blk_cell BK828.out 1).trans rfl, (blk_cell BK823.out 0).trans rfl, (blk_cell BK823.out 1).trans rfl, (blk_cell BK823.out 2).trans rfl⟩ (fun hHeld => ?_)
  clear hK K
  refine norm_ (a' := ?_) ?_ ?_
  rotate_left
  ·show Act.put _ (some 20) _ = _
   simp only [SX]
   rfl
  refine one_ (i := 3) (N := some 21) (ms 17 15) rfl rfl (one_of HT_.out (by kernel_rfl)) (by decide) (fun K hK => ?_)
  refine goes_ Try.func17 (by kernel_rfl) rfl #[.agg #[.int .i64 t824, .slice Ao15 t825.length co15], .agg #[.int .i64 t829, .slice Ao33 t830.length co33]] (by rfl) rfl rfl (by (try simp only [List.map_toArray, List.map_cons, List.map_nil]); first | done | rfl | (simp only [List.length_drop, List.length_take]; rfl)) ?_
  with_reducible refine (laws_wkNet.calls k t824 _ _ t825 t829 _ _ t830 true _ ?side1 ?side2 ?side3 ?side4 A17.out).mono ?_
  (case side1 => repeat (first | exact (Kd.R_reads' HO827.out).2.2 | (with_reducible refine Kd.C_alloc ?_ _) | (with_reducible refine Kd.C_drewN ?_ _) | (with_reducible refine Kd.C_drew ?_)))
  (case side2 => exact (Kd.R_reads' HO827.out).2.1)
  (case side3 => repeat (first | exact (Kd.R_reads' HO832.out).2.2 | (with_reducible refine Kd.C_alloc ?_ _) | (with_reducible refine Kd.C_drewN ?_ _) | (with_reducible refine Kd.C_drew ?_)))
  (case side4 => exact (Kd.R_reads' HO832.out).2.1)
  rintro e w34 ⟨rfl, hb⟩
  refine ⟨_, rfl, ?_⟩
  replace HO819 := Aside0.mk (Kd.R_below (rk HO819) hb)
  replace HO822 := Aside0.mk (Kd.R_below (rk HO822) hb)
  replace HO827 := Aside0.mk (Kd.R_below (rk HO827) hb)
  replace HO832 := Aside0.mk (Kd.R_below (rk HO832) hb)
  replace BK823 := Aside0.mk (blk_below (bk BK823) hb)
  replace BK828 := Aside0.mk (blk_below (bk BK828) hb)
  replace HB := Aside0.mk (below_step (bl2 HB GE823 GE828) hb)
  (try clear hb)
  (try clear hb2)
  (try clear hk)
  (try clear hi)
  refine hK.out _ _ ⟨(blk_cell BK828.out 0).trans rfl, (blk_cell BK828.out 1).trans rfl, (blk_cell BK823.out 0).trans rfl, (blk_cell BK823.out 1).trans rfl, (blk_cell BK823.out 2).trans rfl⟩ (fun hHeld => ?_)
  clear hK K
  refine norm_ (a' := ?_) ?_ ?_
  rotate_left
  ·show Act.put _ (some 21) _ = _
   simp only [SX]
   rfl
  refine pu 4 22 ?_ (ms 17 31) rfl rfl HT_ (by kernel_rfl) (fun _ _ _ h => h) (by rfl) ?_ ?_ ?_ ?_
  rotate_left
  ·intro w'
   go_simp
   with_reducible rfl
  rotate_left
  ·simp only [SX]
   rfl
  refine pu 5 23 ?_ (ms 17 63) rfl rfl HT_ (by kernel_rfl) (fun _ _ _ h => h) (by rfl) ?_ ?_ ?_ ?_
  rotate_left
  ·intro w'
   go_simp
   with_reducible rfl
  rotate_left
  ·simp only [SX]
   rfl
  refine tk 6 24 ?_ (ms 17 127) rfl rfl HT_ HW_ (by kernel_rfl) (fun _ _ _ h => h) (by rfl) ?_ hHeld ?_ ?_ ?_
  rotate_left
  ·rintro w' ⟨s0, s1, s2, s3, s4⟩
   go_simp
   with_reducible rfl
  rotate_left
  ·simp only [SX]
   rfl
  refine tk 8 26 ?_ (ms 17 383) rfl rfl HT_ HW_ (by kernel_rfl) (fun _ _ _ h => h) (by rfl) ?_ hHeld ?_ ?_ ?_
  rotate_left
  ·rintro w' ⟨s0, s1, s2, s3, s4⟩
   go_simp
   with_reducible rfl
  rotate_left
  ·simp only [SX]
   rfl
  refine one_ (i := 7) (N := some 25) (ms 17 511) rfl rfl (one_of HT_.out (by kernel_rfl)) (by decide) (fun K hK => ?_)
  refine goes_ Try.func34 (by kernel_rfl) rfl #[.agg #[.int .i64 t816, .slice Ao9 t817.length co9, .slice Ao10 t820.length co10]] (by rfl) rfl rfl (by (try simp only [List.map_toArray, List.map_cons, List.map_nil]); first | done | rfl | (simp only [List.length_drop, List.length_take]; rfl)) ?_
  with_reducible refine (impl_LiveOk.calls k t816 _ _ t817 _ _ t820 t834 _ ?side1 ?side2 ?side3 ?side4 A19.out).mono ?_
  (case side1 => repeat (first | exact (Kd.R_reads' HO819.out).2.2 | (with_reducible refine Kd.C_alloc ?_ _) | (with_reducible refine Kd.C_drewN ?_ _) | (with_reducible refine Kd.C_drew ?_)))
  (case side2 => exact (Kd.R_reads' HO819.out).2.1)
  (case side3 => repeat (first | exact (Kd.R_reads' HO822.out).2.2 | (with_reducible refine Kd.C_alloc ?_ _) | (with_reducible refine Kd.C_drewN ?_ _) | (with_reducible refine Kd.C_drew ?_)))
  (case side4 => exact (Kd.R_reads' HO822.out).2.1)
  rintro e w35 ⟨rfl, hb⟩
  refine ⟨_, rfl, ?_⟩
  replace HO819 := Aside0.mk (Kd.R_below (rk HO819) hb)
  replace HO822 := Aside0.mk (Kd.R_below (rk HO822) hb)
  replace HO827 := Aside0.mk (Kd.R_below (rk HO827) hb)
  replace HO832 := Aside0.mk (Kd.R_below (rk HO832) hb)
  replace BK823 := Aside0.mk (blk_below (bk BK823) hb)
  replace BK828 := Aside0.mk (blk_below (bk BK828) hb)
  replace HB := Aside0.mk (below_step (bl2 HB GE823 GE828) hb)
  (try clear hb)
  (try clear hb2)
  (try clear hk)
  (try clear hi)
  refine hK.out _ _ ⟨(blk_cell BK828.out 0).trans rfl, (blk_cell BK828.out 1).trans rfl, (blk_cell BK823.out 0).trans rfl, (blk_cell BK823.out 1).trans rfl, (blk_cell BK823.out 2).trans rfl⟩ (fun hHeld => ?_)
  clear hK K
  refine norm_ (a' := ?_) ?_ ?_
  rotate_left
  ·show Act.put _ (some 25) _ = _
   simp only [SX]
   rfl
  refine one_ (i := 9) (N := some 27) (ms 17 1023) rfl rfl (one_of HT_.out (by kernel_rfl)) (by decide) (fun K hK => ?_)
  refine goes_ Try.func32 (by kernel_rfl) rfl #[.agg #[.int .i64 t816, .slice Ao9 t817.length co9, .slice Ao10 t820.length co10]] (by rfl) rfl rfl (by (try simp only [List.map_toArray, List.map_cons, List.map_nil]); first | done | rfl | (simp only [List.length_drop, List.length_take]; rfl)) ?_
  with_reducible refine (spec_LiveOk.calls k t816 _ _ t817 _ _ t820 t835 _ ?side1 ?side2 ?side3 ?side4 A20.out).mono ?_
  (case side1 => repeat (first | exact (Kd.R_reads' HO819.out).2.2 | (with_reducible refine Kd.C_alloc ?_ _) | (with_reducible refine Kd.C_drewN ?_ _) | (with_reducible refine Kd.C_drew ?_)))
  (case side2 => exact (Kd.R_reads' HO819.out).2.1)
  (case side3 => repeat (first | exact (Kd.R_reads' HO822.out).2.2 | (with_reducible refine Kd.C_alloc ?_ _) | (with_reducible refine Kd.C_drewN ?_ _) | (with_reducible refine Kd.C_drew ?_)))
  (case side4 => exact (Kd.R_reads' HO822.out).2.1)
  rintro e w36 ⟨rfl, hb⟩
  refine ⟨_, rfl, ?_⟩
  replace HO819 := Aside0.mk (Kd.R_below (rk HO819) hb)
  replace HO822 := Aside0.mk (Kd.R_below (rk HO822) hb)
  replace HO827 := Aside0.mk (Kd.R_below (rk HO827) hb)
  replace HO832 := Aside0.mk (Kd.R_below (rk HO832) hb)
  replace BK823 := Aside0.mk (blk_below (bk BK823) hb)
  replace BK828 := Aside0.mk (blk_below (bk BK828) hb)
  replace HB := Aside0.mk (below_step (bl2 HB GE823 GE828) hb)
  (try clear hb)
  (try clear hb2)
  (try clear hk)
  (try clear hi)
  refine hK.out _ _ ⟨(blk_cell BK828.out 0).trans rfl, (blk_cell BK828.out 1).trans rfl, (blk_cell BK823.out 0).trans rfl, (blk_cell BK823.out 1).trans rfl, (blk_cell BK823.out 2).trans rfl⟩ (fun hHeld => ?_)
  clear hK K
  refine norm_ (a' := ?_) ?_ ?_
  rotate_left
  ·show Act.put _ (some 27) _ = _
   simp only [SX]
   rfl
  refine pu 10 28 ?_ (ms 17 2047) rfl rfl HT_ (by kernel_rfl) (fun _ _ _ h => h) (by rfl) ?_ ?_ ?_ ?_
  rotate_left
  ·intro w'
   go_simp
   with_reducible rfl
  rotate_left
  ·simp only [SX]
   rfl
  refine pu 11 29 ?_ (ms 17 4095) rfl rfl HT_ (by kernel_rfl) (fun _ _ _ h => h) (by rfl) ?_ ?_ ?_ ?_
  rotate_left
  ·intro w'
   go_simp
   with_reducible rfl
  rotate_left
  ·simp only [SX]
   rfl
  refine pu 12 30 ?_ (ms 17 8191) rfl rfl HT_ (by kernel_rfl) (fun _ _ _ h => h) (by rfl) ?_ ?_ ?_ ?_
  rotate_left
  ·intro w'
   go_simp
   with_reducible rfl
  rotate_left
  ·simp only [SX]
   rfl
  refine tk 13 31 ?_ (ms 17 16383) rfl rfl HT_ HW_ (by kernel_rfl) (fun _ _ _ h => h) (by rfl) ?_ hHeld ?_ ?_ ?_
  rotate_left
  ·rintro w' ⟨s0, s1, s2, s3, s4⟩
   go_simp
   with_reducible rfl
  rotate_left
  ·simp only [SX]
   rfl
  refine one_ (i := 14) (N := some 32) (ms 17 32767) rfl rfl (one_of HT_.out (by kernel_rfl)) (by decide) (fun K hK => ?_)
  refine goes_ Try.func34 (by kernel_rfl) rfl #[.agg #[.int .i64 t816, .slice Ao9 t817.length co9, .slice Ao10 t820.length co10]] (by rfl) rfl rfl (by (try simp only [List.map_toArray, List.map_cons, List.map_nil]); first | done | rfl | (simp only [List.length_drop, List.length_take]; rfl)) ?_
  with_reducible refine (impl_LiveOk.calls k t816 _ _ t817 _ _ t820 t836 _ ?side1 ?side2 ?side3 ?side4 A29.out).mono ?_
  (case side1 => repeat (first | exact (Kd.R_reads' HO819.out).2.2 | (with_reducible refine Kd.C_alloc ?_ _) | (with_reducible refine Kd.C_drewN ?_ _) | (with_reducible refine Kd.C_drew ?_)))
  (case side2 => exact (Kd.R_reads' HO819.out).2.1)
  (case side3 => repeat (first | exact (Kd.R_reads' HO822.out).2.2 | (with_reducible refine Kd.C_alloc ?_ _) | (with_reducible refine Kd.C_drewN ?_ _) | (with_reducible refine Kd.C_drew ?_)))
  (case side4 => exact (Kd.R_reads' HO822.out).2.1)
  rintro e w37 ⟨rfl, hb⟩
  refine ⟨_, rfl, ?_⟩
  replace HO819 := Aside0.mk (Kd.R_below (rk HO819) hb)
  replace HO822 := Aside0.mk (Kd.R_below (rk HO822) hb)
  replace HO827 := Aside0.mk (Kd.R_below (rk HO827) hb)
  replace HO832 := Aside0.mk (Kd.R_below (rk HO832) hb)
  replace BK823 := Aside0.mk (blk_below (bk BK823) hb)
  replace BK828 := Aside0.mk (blk_below (bk BK828) hb)
  replace HB := Aside0.mk (below_step (bl2 HB GE823 GE828) hb)
  (try clear hb)
  (try clear hb2)
  (try clear hk)
  (try clear hi)
  refine hK.out _ _ ⟨(blk_cell BK828.out 0).trans rfl, (blk_cell BK828.out 1).trans rfl, (blk_cell BK823.out 0).trans rfl, (blk_cell BK823.out 1).trans rfl, (blk_cell BK823.out 2).trans rfl⟩ (fun hHeld => ?_)
  clear hK K
  refine norm_ (a' := ?_) ?_ ?_
  rotate_left
  ·show Act.put _ (some 32) _ = _
   simp only [SX]
   rfl
  refine pu 15 33 ?_ (ms 17 65535) rfl rfl HT_ (by kernel_rfl) (fun _ _ _ h => h) (by rfl) ?_ ?_ ?_ ?_
  rotate_left
  ·intro w'
   go_simp
   with_reducible rfl
  rotate_left
  ·simp only [SX]
   rfl
  refine pu 16 34 ?_ (ms 17 131071) rfl rfl HT_ (by kernel_rfl) (fun _ _ _ h => h) (by rfl) ?_ ?_ ?_ ?_
  rotate_left
  ·intro w'
   go_simp
   with_reducible rfl
  rotate_left
  ·simp only [SX]
   rfl
  refine done_ (done_of HT_.out (by kernel_rfl)) ?_
  try go_wp2
  go_meet
  case rel => exact ⟨_, (!t836), (by first | rfl | (simp; done) | (simp [*]; done)), H', ⟨by first | omega | exact Nat.le_refl _⟩, ⟨by (with_reducible repeat (first | apply Kd.R_alloc | apply Kd.R_drewN | apply Kd.R_drew)); exact Kd.R_mono HO819.out (fun _ hk => hk.1)⟩, ⟨rk HO822⟩, ⟨by (with_reducible repeat (first | apply Kd.R_alloc | apply Kd.R_drewN | apply Kd.R_drew)); exact Kd.R_mono HO827.out (fun _ hk => hk.1)⟩, ⟨bk BK823⟩, ⟨bk BK828⟩, ⟨bl2 HB GE823 GE828⟩⟩
 clear HC5
 try clear c1
 try clear c2
 try clear p2
 try clear c3
 try clear c17
 try clear c18
 try clear c21
 try clear c21b0
 try clear c21b1
 try clear c21b2
 try clear c32
 try clear c34
 try clear c38
 obtain ⟨kq, x34_4, rfl, HA, HJ4, HO_824001, HO_824002, HO_829001, BK823, BK828, HB⟩ := hcut
 cases kq with
 | zero => exact absurd HA.out (by simp [laws_FnLiveNow.j0])
 | succ kj4 =>
  have H := HA.out
  clear HA
  simp only [laws_FnLiveNow.j0] at H
  by_cases c43 : x34_4 = true
  ·subst c43
   rw [if_pos rfl] at H
   replace H := Option.bind_eq_some_iff.mp H
   obtain ⟨⟨t837, t838⟩, A440, H⟩ := H
   have A44 := Aside0.mk A440
   clear A440
   replace H := Option.bind_eq_some_iff.mp H
   obtain ⟨t841, A450, H⟩ := H
   have A45 := Aside0.mk A450
   clear A450
   by_cases c46 : t841 = true
   rotate_left
   ·replace c46 := Bool.eq_false_iff.mpr c46
    subst c46
    rw [if_neg (show ¬ (false = true) by decide)] at H
    exact absurd ((Option.some.inj H).trans hr_) Bool.false_ne_true
   subst c46
   rw [if_pos rfl] at H
   replace H := Option.bind_eq_some_iff.mp H
   obtain ⟨t842, A470, H⟩ := H
   have A47 := Aside0.mk A470
   clear A470
   replace H := Option.bind_eq_some_iff.mp H
   obtain ⟨t843, A480, H⟩ := H
   have A48 := Aside0.mk A480
   clear A480
   obtain rfl := Option.some.inj H
   try go_wp2
   replace HO_824001 := Aside0.mk (Kd.R_drew HO_824001.out)
   replace HO_824002 := Aside0.mk (Kd.R_drew HO_824002.out)
   replace HO_829001 := Aside0.mk (Kd.R_drew HO_829001.out)
   replace BK823 := Aside0.mk (blk_drew BK823.out)
   replace BK828 := Aside0.mk (blk_drew BK828.out)
   replace HB := Aside0.mk (below_drew1 HB.out)
   refine start_ (n := 12) (S := fun w' => w'.cell? ⟨gb828, 0, none⟩ = some (.int .i64 t824) ∧ w'.cell? ⟨gb828, 1, none⟩ = some (.slice Ao15 t825.length co15) ∧ w'.cell? ⟨gb823, 0, none⟩ = some (.int .i64 t816) ∧ w'.cell? ⟨gb823, 1, none⟩ = some (.slice Ao9 t817.length co9) ∧ w'.cell? ⟨gb823, 2, none⟩ = some (.slice Ao10 t820.length co10)) (ds := []) (ms 12 0) (by kernel_rfl) rfl (by kernel_rfl) ⟨(blk_cell BK828.out 0).trans rfl, (blk_cell BK828.out 1).trans rfl, (blk_cell BK823.out 0).trans rfl, (blk_cell BK823.out 1).trans rfl, (blk_cell BK823.out 2).trans rfl⟩ (fun hHeld => ?_); refine with_tabW laws_FnLiveNow.tab6 laws_FnLiveNow.bits6 (fun HT_ HW_ => ?_)
   generalize wc.drew = w49 at HO_824001 HO_824002 HO_829001 BK823 BK828 HB hHeld ⊢
   refine tk 0 35 ?_ (ms 12 1) rfl rfl HT_ HW_ (by kernel_rfl) (fun _ _ _ h => h) (by rfl) ?_ hHeld ?_ ?_ ?_
   rotate_left
   ·rintro w' ⟨s0, s1, s2, s3, s4⟩
    go_simp
    with_reducible rfl
   rotate_left
   ·simp only [SX]
    rfl
   refine tk 1 36 ?_ (ms 12 3) rfl rfl HT_ HW_ (by kernel_rfl) (fun _ _ _ h => h) (by rfl) ?_ hHeld ?_ ?_ ?_
   rotate_left
   ·rintro w' ⟨s0, s1, s2, s3, s4⟩
    go_simp
    with_reducible rfl
   rotate_left
   ·simp only [SX]
    rfl
   refine one_ (i := 2) (N := some 37) (ms 12 7) rfl rfl (one_of HT_.out (by kernel_rfl)) (by decide) (fun K hK => ?_)
   refine goes_ Try.func38 (by kernel_rfl) rfl #[.agg #[.int .i64 t816, .slice Ao9 t817.length co9, .slice Ao10 t820.length co10]] (by rfl) rfl rfl (by (try simp only [List.map_toArray, List.map_cons, List.map_nil]); first | done | rfl | (simp only [List.length_drop, List.length_take]; rfl)) ?_
   with_reducible refine (spec_LiveNow.calls kj4 t816 _ _ t817 _ _ t820 t837 t838 _ ?side1 ?side2 ?side3 ?side4 A44.out).mono ?_
   (case side1 => repeat (first | exact (Kd.R_reads' HO_824001.out).2.2 | (with_reducible refine Kd.C_alloc ?_ _) | (with_reducible refine Kd.C_drewN ?_ _) | (with_reducible refine Kd.C_drew ?_)))
   (case side2 => exact (Kd.R_reads' HO_824001.out).2.1)
   (case side3 => repeat (first | exact (Kd.R_reads' HO_824002.out).2.2 | (with_reducible refine Kd.C_alloc ?_ _) | (with_reducible refine Kd.C_drewN ?_ _) | (with_reducible refine Kd.C_drew ?_)))
   (case side4 => exact (Kd.R_reads' HO_824002.out).2.1)
   rintro e w50 ⟨v839, rfl, ho0, hb⟩
   refine ⟨_, rfl, ?_⟩
   replace HO_824002 := Aside0.mk (Kd.R_below (rk HO_824002) hb)
   have HO840 := Aside0.mk (Kd.R_lower (Kd.R_new' (Kd.R_new' ho0 (Kd.R_lt (rk HO_824001))) (Kd.R_lt (rk HO_829001))) (below_size (bl2 HB GE823 GE828)))
   replace HO_824001 := Aside0.mk (Kd.R_elder' (rk HO_824001) (Kd.R_base ho0) hb)
   replace HO_829001 := Aside0.mk (Kd.R_elder' (rk HO_829001) (Kd.R_base ho0) hb)
   replace BK823 := Aside0.mk (blk_below (bk BK823) hb)
   replace BK828 := Aside0.mk (blk_below (bk BK828) hb)
   replace HB := Aside0.mk (below_step (bl2 HB GE823 GE828) hb)
   (try clear hb)
   (try clear hb2)
   (try clear hk)
   (try clear hi)
   (try clear ho0)
   obtain ⟨Ao51, co51, eo51⟩ := Kd.R_slice HO840.out
   (first | subst eo51 | (injection eo51 with f1_ f2_ f3_; have f4_ := f1_.symm; have f5_ := f3_.symm; clear f1_ f2_ f3_; subst f4_; subst f5_))
   refine hK.out _ _ ⟨(blk_cell BK828.out 0).trans rfl, (blk_cell BK828.out 1).trans rfl, (blk_cell BK823.out 0).trans rfl, (blk_cell BK823.out 1).trans rfl, (blk_cell BK823.out 2).trans rfl⟩ (fun hHeld => ?_)
   clear hK K
   refine norm_ (a' := ?_) ?_ ?_
   rotate_left
   ·show Act.put _ (some 37) _ = _
    simp only [SX]
    rfl
   refine one_ (i := 3) (N := some 38) (ms 12 15) rfl rfl (one_of HT_.out (by kernel_rfl)) (by decide) (fun K hK => ?_)
   refine goes_ Try.func17 (by kernel_rfl) rfl #[.agg #[.int .i64 t824, .slice Ao15 t825.length co15], .agg #[.int .i64 t837, .slice Ao51 t838.length co51]] (by rfl) rfl rfl (by (try simp only [List.map_toArray, List.map_cons, List.map_nil]); first | done | rfl | (simp only [List.length_drop, List.length_take]; rfl)) ?_
   with_reducible refine (laws_wkNet.calls kj4 t824 _ _ t825 t837 _ _ t838 true _ ?side1 ?side2 ?side3 ?side4 A45.out).mono ?_
   (case side1 => repeat (first | exact (Kd.R_reads' HO_829001.out).2.2 | (with_reducible refine Kd.C_alloc ?_ _) | (with_reducible refine Kd.C_drewN ?_ _) | (with_reducible refine Kd.C_drew ?_)))
   (case side2 => exact (Kd.R_reads' HO_829001.out).2.1)
   (case side3 => repeat (first | exact (Kd.R_reads' HO840.out).2.2 | (with_reducible refine Kd.C_alloc ?_ _) | (with_reducible refine Kd.C_drewN ?_ _) | (with_reducible refine Kd.C_drew ?_)))
   (case side4 => exact (Kd.R_reads' HO840.out).2.1)
   rintro e w52 ⟨rfl, hb⟩
   refine ⟨_, rfl, ?_⟩
   replace HO_824001 := Aside0.mk (Kd.R_below (rk HO_824001) hb)
   replace HO_824002 := Aside0.mk (Kd.R_below (rk HO_824002) hb)
   replace HO_829001 := Aside0.mk (Kd.R_below (rk HO_829001) hb)
   replace HO840 := Aside0.mk (Kd.R_below (rk HO840) hb)
   replace BK823 := Aside0.mk (blk_below (bk BK823) hb)
   replace BK828 := Aside0.mk (blk_below (bk BK828) hb)
   replace HB := Aside0.mk (below_step (bl2 HB GE823 GE828) hb)
   (try clear hb)
   (try clear hb2)
   (try clear hk)
   (try clear hi)
   refine hK.out _ _ ⟨(blk_cell BK828.out 0).trans rfl, (blk_cell BK828.out 1).trans rfl, (blk_cell BK823.out 0).trans rfl, (blk_cell BK823.out 1).trans rfl, (blk_cell BK823.out 2).trans rfl⟩ (fun hHeld => ?_)
   clear hK K
   refine norm_ (a' := ?_) ?_ ?_
   rotate_left
   ·show Act.put _ (some 38) _ = _
    simp only [SX]
    rfl
   refine pu 4 39 ?_ (ms 12 31) rfl rfl HT_ (by kernel_rfl) (fun _ _ _ h => h) (by rfl) ?_ ?_ ?_ ?_
   rotate_left
   ·intro w'
    go_simp
    with_reducible rfl
   rotate_left
   ·simp only [SX]
    rfl
   refine tk 5 40 ?_ (ms 12 63) rfl rfl HT_ HW_ (by kernel_rfl) (fun _ _ _ h => h) (by rfl) ?_ hHeld ?_ ?_ ?_
   rotate_left
   ·rintro w' ⟨s0, s1, s2, s3, s4⟩
    go_simp
    with_reducible rfl
   rotate_left
   ·simp only [SX]
    rfl
   refine tk 7 42 ?_ (ms 12 191) rfl rfl HT_ HW_ (by kernel_rfl) (fun _ _ _ h => h) (by rfl) ?_ hHeld ?_ ?_ ?_
   rotate_left
   ·rintro w' ⟨s0, s1, s2, s3, s4⟩
    go_simp
    with_reducible rfl
   rotate_left
   ·simp only [SX]
    rfl
   refine one_ (i := 6) (N := some 41) (ms 12 255) rfl rfl (one_of HT_.out (by kernel_rfl)) (by decide) (fun K hK => ?_)
   refine goes_ Try.func34 (by kernel_rfl) rfl #[.agg #[.int .i64 t816, .slice Ao9 t817.length co9, .slice Ao10 t820.length co10]] (by rfl) rfl rfl (by (try simp only [List.map_toArray, List.map_cons, List.map_nil]); first | done | rfl | (simp only [List.length_drop, List.length_take]; rfl)) ?_
   with_reducible refine (impl_LiveOk.calls kj4 t816 _ _ t817 _ _ t820 t842 _ ?side1 ?side2 ?side3 ?side4 A47.out).mono ?_
   (case side1 => repeat (first | exact (Kd.R_reads' HO_824001.out).2.2 | (with_reducible refine Kd.C_alloc ?_ _) | (with_reducible refine Kd.C_drewN ?_ _) | (with_reducible refine Kd.C_drew ?_)))
   (case side2 => exact (Kd.R_reads' HO_824001.out).2.1)
   (case side3 => repeat (first | exact (Kd.R_reads' HO_824002.out).2.2 | (with_reducible refine Kd.C_alloc ?_ _) | (with_reducible refine Kd.C_drewN ?_ _) | (with_reducible refine Kd.C_drew ?_)))
   (case side4 => exact (Kd.R_reads' HO_824002.out).2.1)
   rintro e w53 ⟨rfl, hb⟩
   refine ⟨_, rfl, ?_⟩
   replace HO_824001 := Aside0.mk (Kd.R_below (rk HO_824001) hb)
   replace HO_824002 := Aside0.mk (Kd.R_below (rk HO_824002) hb)
   replace HO_829001 := Aside0.mk (Kd.R_below (rk HO_829001) hb)
   replace HO840 := Aside0.mk (Kd.R_below (rk HO840) hb)
   replace BK823 := Aside0.mk (blk_below (bk BK823) hb)
   replace BK828 := Aside0.mk (blk_below (bk BK828) hb)
   replace HB := Aside0.mk (below_step (bl2 HB GE823 GE828) hb)
   (try clear hb)
   (try clear hb2)
   (try clear hk)
   (try clear hi)
   refine hK.out _ _ ⟨(blk_cell BK828.out 0).trans rfl, (blk_cell BK828.out 1).trans rfl, (blk_cell BK823.out 0).trans rfl, (blk_cell BK823.out 1).trans rfl, (blk_cell BK823.out 2).trans rfl⟩ (fun hHeld => ?_)
   clear hK K
   refine norm_ (a' := ?_) ?_ ?_
   rotate_left
   ·show Act.put _ (some 41) _ = _
    simp only [SX]
    rfl
   refine one_ (i := 8) (N := some 43) (ms 12 511) rfl rfl (one_of HT_.out (by kernel_rfl)) (by decide) (fun K hK => ?_)
   refine goes_ Try.func32 (by kernel_rfl) rfl #[.agg #[.int .i64 t816, .slice Ao9 t817.length co9, .slice Ao10 t820.length co10]] (by rfl) rfl rfl (by (try simp only [List.map_toArray, List.map_cons, List.map_nil]); first | done | rfl | (simp only [List.length_drop, List.length_take]; rfl)) ?_
   with_reducible refine (spec_LiveOk.calls kj4 t816 _ _ t817 _ _ t820 t843 _ ?side1 ?side2 ?side3 ?side4 A48.out).mono ?_
   (case side1 => repeat (first | exact (Kd.R_reads' HO_824001.out).2.2 | (with_reducible refine Kd.C_alloc ?_ _) | (with_reducible refine Kd.C_drewN ?_ _) | (with_reducible refine Kd.C_drew ?_)))
   (case side2 => exact (Kd.R_reads' HO_824001.out).2.1)
   (case side3 => repeat (first | exact (Kd.R_reads' HO_824002.out).2.2 | (with_reducible refine Kd.C_alloc ?_ _) | (with_reducible refine Kd.C_drewN ?_ _) | (with_reducible refine Kd.C_drew ?_)))
   (case side4 => exact (Kd.R_reads' HO_824002.out).2.1)
   rintro e w54 ⟨rfl, hb⟩
   refine ⟨_, rfl, ?_⟩
   replace HO_824001 := Aside0.mk (Kd.R_below (rk HO_824001) hb)
   replace HO_824002 := Aside0.mk (Kd.R_below (rk HO_824002) hb)
   replace HO_829001 := Aside0.mk (Kd.R_below (rk HO_829001) hb)
   replace HO840 := Aside0.mk (Kd.R_below (rk HO840) hb)
   replace BK823 := Aside0.mk (blk_below (bk BK823) hb)
   replace BK828 := Aside0.mk (blk_below (bk BK828) hb)
   replace HB := Aside0.mk (below_step (bl2 HB GE823 GE828) hb)
   (try clear hb)
   (try clear hb2)
   (try clear hk)
   (try clear hi)
   refine hK.out _ _ ⟨(blk_cell BK828.out 0).trans rfl, (blk_cell BK828.out 1).trans rfl, (blk_cell BK823.out 0).trans rfl, (blk_cell BK823.out 1).trans rfl, (blk_cell BK823.out 2).trans rfl⟩ (fun hHeld => ?_)
   clear hK K
   refine norm_ (a' := ?_) ?_ ?_
   rotate_left
   ·show Act.put _ (some 43) _ = _
    simp only [SX]
    rfl
   refine pu 9 44 ?_ (ms 12 1023) rfl rfl HT_ (by kernel_rfl) (fun _ _ _ h => h) (by rfl) ?_ ?_ ?_ ?_
   rotate_left
   ·intro w'
    go_simp
    with_reducible rfl
   rotate_left
   ·simp only [SX]
    rfl
   refine pu 10 45 ?_ (ms 12 2047) rfl rfl HT_ (by kernel_rfl) (fun _ _ _ h => h) (by rfl) ?_ ?_ ?_ ?_
   rotate_left
   ·intro w'
    go_simp
    with_reducible rfl
   rotate_left
   ·simp only [SX]
    rfl
   refine pu 11 2 ?_ (ms 12 4095) rfl rfl HT_ (by kernel_rfl) (fun _ _ _ h => h) (by rfl) ?_ ?_ ?_ ?_
   rotate_left
   ·intro w'
    go_simp
    with_reducible rfl
   rotate_left
   ·simp only [SX]
    rfl
   refine done_ (done_of HT_.out (by kernel_rfl)) ?_
   try go_wp2
   go_ret
   exact ⟨by first | rfl | (simp [errW_none, errW_some] <;> rfl) | (simp [*, errW_none, errW_some] <;> rfl), bl2 HB GE823 GE828⟩
  replace c43 := Bool.eq_false_iff.mpr c43
  subst c43
  rw [if_neg (show ¬ (false = true) by decide)] at H
  have H' := Aside0.mk H
  clear H
  go_wp2
  go_loopg [5, 6] kj4 (fun kq v5 v6 w' => ∃ (x5_2 : Int) (x6_2 : Int), v5 = .int .i64 x5_2 ∧ v6 = .int .i64 x6_2 ∧ Aside0 (laws_FnLiveNow.l0 kq x5_2 x6_2 t816 t817 t820 t824 t825 = some r) ∧ Aside0 (kq ≤ kj4) ∧ Aside0 (Kd.R k31 31 w' w.heap.size (fun k_ => some k_ ≠ ((.slice Ao15 t825.length co15) : Value).ownBlock) (.slice Ao9 t817.length co9) t817) ∧ Aside0 (Kd.R k64 64 w' w.heap.size (fun _ => True) (.slice Ao10 t820.length co10) t820) ∧ Aside0 (Kd.R k31 31 w' w.heap.size (fun k_ => some k_ ≠ ((.slice Ao9 t817.length co9) : Value).ownBlock) (.slice Ao15 t825.length co15) t825) ∧ Aside0 (w'.heap[gb823]? = some (.cells #[.int .i64 t816, (.slice Ao9 t817.length co9), (.slice Ao10 t820.length co10)] 57 (0, 0))) ∧ Aside0 (w'.heap[gb828]? = some (.cells #[.int .i64 t824, (.slice Ao15 t825.length co15)] 25 (0, 0))) ∧ Aside0 (Below w.heap.size w w'))
  case atStart => exact ⟨(0), (0), (by first | rfl | (simp; done) | (simp [*]; done)), (by first | rfl | (simp; done) | (simp [*]; done)), H', ⟨Nat.le_refl _⟩, ⟨rk HO_824001⟩, ⟨rk HO_824002⟩, ⟨rk HO_829001⟩, ⟨bk BK823⟩, ⟨bk BK828⟩, ⟨bl2 HB GE823 GE828⟩⟩
  clear H'
  try clear c1
  try clear c2
  try clear p2
  try clear c3
  try clear c4
  try clear c17
  try clear c18
  try clear c21
  try clear c21b0
  try clear c21b1
  try clear c21b2
  try clear c32
  try clear c34
  try clear c38
  try clear c43
  try clear c46
  try clear p2
  obtain ⟨x5_2, x6_2, rfl, rfl, HA, HK2, HO_824001, HO_824002, HO_829001, BK823, BK828, HB⟩ := hrel
  cases gk with
  | zero => exact absurd HA.out (by simp [laws_FnLiveNow.l0])
  | succ k2 =>
   have H := HA.out
   clear HA
   simp only [laws_FnLiveNow.l0] at H
   by_cases c55 : x6_2 < (t817.length : Int)
   rotate_left
   ·rw [if_neg c55] at H
    have c55b0 : decide (x6_2 < (t817.length : Int)) = false := decide_eq_false c55
    clear c55
    replace H := Option.bind_eq_some_iff.mp H
    obtain ⟨t844, A1010, H⟩ := H
    have A101 := Aside0.mk A1010
    clear A1010
    by_cases c102 : t844 = true
    rotate_left
    ·replace c102 := Bool.eq_false_iff.mpr c102
     subst c102
     rw [if_neg (show ¬ (false = true) by decide)] at H
     exact absurd ((Option.some.inj H).trans hr_) Bool.false_ne_true
    subst c102
    rw [if_pos rfl] at H
    by_cases c103 : x5_2 = (t825.length : Int)
    rotate_left
    ·rw [if_neg c103] at H
     have c103b0 : (x5_2 == (t825.length : Int)) = false := beq_eq_false_iff_ne.mpr c103
     have c103b1 : (x5_2 != (t825.length : Int)) = true := bne_iff_ne.mpr c103
     exact absurd ((Option.some.inj H).trans hr_) Bool.false_ne_true
    rw [if_pos c103] at H
    have c103b0 : (x5_2 == (t825.length : Int)) = true := beq_iff_eq.mpr c103
    have c103b1 : (x5_2 != (t825.length : Int)) = false := bne_eq_false_iff_eq.mpr c103
    clear c103
    replace H := Option.bind_eq_some_iff.mp H
    obtain ⟨⟨t845, t846⟩, A1040, H⟩ := H
    have A104 := Aside0.mk A1040
    clear A1040
    replace H := Option.bind_eq_some_iff.mp H
    obtain ⟨t849, A1050, H⟩ := H
    have A105 := Aside0.mk A1050
    clear A1050
    obtain rfl := Option.some.inj H
    have hnb106 := NB823_828.out
    have hnc106 := NB828_823.out
    have hcz107_0 := bc wr BK823 0 (.int .i64 t816) rfl
    have hcz107_1 := bc wr BK823 1 (.slice Ao9 t817.length co9) rfl
    have hcz107_2 := bc wr BK823 2 (.slice Ao10 t820.length co10) rfl
    have hfz107_0 := fz BK823 0
    have hfz107_1 := fz BK823 1
    have hfz107_2 := fz BK823 2
    try go_wp2
    replace HO_824001 := Aside0.mk (Kd.R_drew HO_824001.out)
    replace HO_824002 := Aside0.mk (Kd.R_drew HO_824002.out)
    replace HO_829001 := Aside0.mk (Kd.R_drew HO_829001.out)
    replace BK823 := Aside0.mk (blk_drew BK823.out)
    replace BK828 := Aside0.mk (blk_drew BK828.out)
    replace HB := Aside0.mk (below_drew1 HB.out)
    refine start_ (n := 19) (S := fun w' => w'.cell? ⟨gb828, 0, none⟩ = some (.int .i64 t824) ∧ w'.cell? ⟨gb828, 1, none⟩ = some (.slice Ao15 t825.length co15) ∧ w'.cell? ⟨gb823, 0, none⟩ = some (.int .i64 t816) ∧ w'.cell? ⟨gb823, 1, none⟩ = some (.slice Ao9 t817.length co9) ∧ w'.cell? ⟨gb823, 2, none⟩ = some (.slice Ao10 t820.length co10)) (ds := []) (ms 19 0) (by kernel_rfl) rfl (by kernel_rfl) ⟨(blk_cell BK828.out 0).trans rfl, (blk_cell BK828.out 1).trans rfl, (blk_cell BK823.out 0).trans rfl, (blk_cell BK823.out 1).trans rfl, (blk_cell BK823.out 2).trans rfl⟩ (fun hHeld => ?_); refine with_tabW laws_FnLiveNow.tab27 laws_FnLiveNow.bits27 (fun HT_ HW_ => ?_)
    generalize wr.drew = w108 at HO_824001 HO_824002 HO_829001 BK823 BK828 HB hHeld ⊢
    refine tk 0 121 ?_ (ms 19 1) rfl rfl HT_ HW_ (by kernel_rfl) (fun _ _ _ h => h) (by rfl) ?_ hHeld ?_ ?_ ?_
    rotate_left
    ·rintro w' ⟨s0, s1, s2, s3, s4⟩
     go_simp
     with_reducible rfl
    rotate_left
    ·simp only [SX]
     rfl
    refine one_ (i := 1) (N := some 122) (ms 19 3) rfl rfl (one_of HT_.out (by kernel_rfl)) (by decide) (fun K hK => ?_)
    refine goes_ Try.func19 (by kernel_rfl) rfl #[.agg #[.int .i64 t824, .slice Ao15 t825.length co15]] (by rfl) rfl rfl (by (try simp only [List.map_toArray, List.map_cons, List.map_nil]); first | done | rfl | (simp only [List.length_drop, List.length_take]; rfl)) ?_
    with_reducible refine (impl_NetOk.calls t824 _ _ t825 true _ ?side1 ?side2 A101.out).mono ?_
    (case side1 => repeat (first | exact (Kd.R_reads' HO_829001.out).2.2 | (with_reducible refine Kd.C_alloc ?_ _) | (with_reducible refine Kd.C_drewN ?_ _) | (with_reducible refine Kd.C_drew ?_)))
    (case side2 => exact (Kd.R_reads' HO_829001.out).2.1)
    rintro e w109 ⟨rfl, hb⟩
    refine ⟨_, rfl, ?_⟩
    replace HO_824001 := Aside0.mk (Kd.R_below (rk HO_824001) hb)
    replace HO_824002 := Aside0.mk (Kd.R_below (rk HO_824002) hb)
    replace HO_829001 := Aside0.mk (Kd.R_below (rk HO_829001) hb)
    replace BK823 := Aside0.mk (blk_below (bk BK823) hb)
    replace BK828 := Aside0.mk (blk_below (bk BK828) hb)
    replace HB := Aside0.mk (below_step (bl2 HB GE823 GE828) hb)
    (try clear hb)
    (try clear hb2)
    (try clear hk)
    (try clear hi)
    refine hK.out _ _ ⟨(blk_cell BK828.out 0).trans rfl, (blk_cell BK828.out 1).trans rfl, (blk_cell BK823.out 0).trans rfl, (blk_cell BK823.out 1).trans rfl, (blk_cell BK823.out 2).trans rfl⟩ (fun hHeld => ?_)
    clear hK K
    refine norm_ (a' := ?_) ?_ ?_
    rotate_left
    ·show Act.put _ (some 122) _ = _
     simp only [SX]
     rfl
    refine pu 2 123 ?_ (ms 19 7) rfl rfl HT_ (by kernel_rfl) (fun _ _ _ h => h) (by rfl) ?_ ?_ ?_ ?_
    rotate_left
    ·intro w'
     go_simp
     with_reducible rfl
    rotate_left
    ·simp only [SX]
     rfl
    refine pu 3 124 ?_ (ms 19 15) rfl rfl HT_ (by kernel_rfl) (fun _ _ _ h => h) (by rfl) ?_ ?_ ?_ ?_
    rotate_left
    ·intro w'
     go_simp
     with_reducible rfl
    rotate_left
    ·simp only [SX]
     rfl
    refine pu 4 125 ?_ (ms 19 31) rfl rfl HT_ (by kernel_rfl) (fun _ _ _ h => h) (by rfl) ?_ ?_ ?_ ?_
    rotate_left
    ·intro w'
     go_simp
     with_reducible rfl
    rotate_left
    ·simp only [SX]
     rfl
    refine tk 5 126 ?_ (ms 19 63) rfl rfl HT_ HW_ (by kernel_rfl) (fun _ _ _ h => h) (by rfl) ?_ hHeld ?_ ?_ ?_
    rotate_left
    ·rintro w' ⟨s0, s1, s2, s3, s4⟩
     go_simp
     with_reducible rfl
    rotate_left
    ·simp only [SX]
     rfl
    refine pu 6 127 ?_ (ms 19 127) rfl rfl HT_ (by kernel_rfl) (fun _ _ _ h => h) (by rfl) ?_ ?_ ?_ ?_
    rotate_left
    ·intro w'
     go_simp
     with_reducible rfl
    rotate_left
    ·simp only [SX]
     rfl
    refine pu 7 128 ?_ (ms 19 255) rfl rfl HT_ (by kernel_rfl) (fun _ _ _ h => h) (by rfl) ?_ ?_ ?_ ?_
    rotate_left
    ·intro w'
     go_simp
     with_reducible rfl
    rotate_left
    ·simp only [SX]
     rfl
    refine pu 8 129 ?_ (ms 19 511) rfl rfl HT_ (by kernel_rfl) (fun _ _ _ h => h) (by rfl) ?_ ?_ ?_ ?_
    rotate_left
    ·intro w'
     go_simp
     with_reducible rfl
    rotate_left
    ·simp only [SX]
     rfl
    refine pu 9 130 ?_ (ms 19 1023) rfl rfl HT_ (by kernel_rfl) (fun _ _ _ h => h) (by rfl) ?_ ?_ ?_ ?_
    rotate_left
    ·intro w'
     go_simp
     with_reducible rfl
    rotate_left
    ·simp only [SX]
     rfl
    refine pu 10 131 ?_ (ms 19 2047) rfl rfl HT_ (by kernel_rfl) (fun _ _ _ h => h) (by rfl) ?_ ?_ ?_ ?_
    rotate_left
    ·intro w'
     go_simp
     with_reducible rfl
    rotate_left
    ·simp only [SX]
     rfl
    refine pu 14 135 ?_ (ms 19 18431) rfl rfl HT_ (by kernel_rfl) (fun _ _ _ h => h) (by rfl) ?_ ?_ ?_ ?_
    rotate_left
    ·intro w'
     go_simp
     with_reducible rfl
    rotate_left
    ·simp only [SX]
     rfl
    refine tk 11 132 ?_ (ms 19 20479) rfl rfl HT_ HW_ (by kernel_rfl) (fun _ _ _ h => h) (by rfl) ?_ hHeld ?_ ?_ ?_
    rotate_left
    ·rintro w' ⟨s0, s1, s2, s3, s4⟩
     go_simp
     with_reducible rfl
    rotate_left
    ·simp only [SX]
     rfl
    refine pu 12 133 ?_ (ms 19 24575) rfl rfl HT_ (by kernel_rfl) (fun _ _ _ h => h) (by rfl) ?_ ?_ ?_ ?_
    rotate_left
    ·intro w'
     go_simp
     with_reducible rfl
    rotate_left
    ·simp only [SX]
     rfl
    refine tk 15 136 ?_ (ms 19 57343) rfl rfl HT_ HW_ (by kernel_rfl) (fun _ _ _ h => h) (by rfl) ?_ hHeld ?_ ?_ ?_
    rotate_left
    ·rintro w' ⟨s0, s1, s2, s3, s4⟩
     go_simp
     with_reducible rfl
    rotate_left
    ·simp only [SX]
     rfl
    refine one_ (i := 13) (N := some 134) (ms 19 65535) rfl rfl (one_of HT_.out (by kernel_rfl)) (by decide) (fun K hK => ?_)
    refine goes_ Try.func37 (by kernel_rfl) rfl #[.agg #[.int .i64 t816, .slice Ao9 t817.length co9, .slice none 0 0]] (by rfl) rfl rfl (by (try simp only [List.map_toArray, List.map_cons, List.map_nil]); first | done | rfl | (simp only [List.length_drop, List.length_take]; rfl)) ?_
    refine (impl_LiveNow.calls k2 t816 _ _ t817 _ _ ([] : List (S64)) t845 t846 _ ?side1 ?side2 ?side3 ?side4 A104.out).mono ?_
    (case side1 => repeat (first | exact (Kd.R_reads' HO_824001.out).2.2 | (with_reducible refine Kd.C_alloc ?_ _) | (with_reducible refine Kd.C_drewN ?_ _) | (with_reducible refine Kd.C_drew ?_)))
    (case side2 => exact (Kd.R_reads' HO_824001.out).2.1)
    (case side3 => exact Kd.C_nil _ _)
    (case side4 => exact Nat.le_refl _)
    rintro e w110 ⟨v847, rfl, ho0, hb⟩
    refine ⟨_, rfl, ?_⟩
    replace HO_824002 := Aside0.mk (Kd.R_below (rk HO_824002) hb)
    have HO848 := Aside0.mk (Kd.R_lower (Kd.R_new' (Kd.R_new' ho0 (Kd.R_lt (rk HO_824001))) (Kd.R_lt (rk HO_829001))) (below_size (bl2 HB GE823 GE828)))
    replace HO_824001 := Aside0.mk (Kd.R_elder' (rk HO_824001) (Kd.R_base ho0) hb)
    replace HO_829001 := Aside0.mk (Kd.R_elder' (rk HO_829001) (Kd.R_base ho0) hb)
    replace BK823 := Aside0.mk (blk_below (bk BK823) hb)
    replace BK828 := Aside0.mk (blk_below (bk BK828) hb)
    replace HB := Aside0.mk (below_step (bl2 HB GE823 GE828) hb)
    (try clear hb)
    (try clear hb2)
    (try clear hk)
    (try clear hi)
    (try clear ho0)
    obtain ⟨Ao111, co111, eo111⟩ := Kd.R_slice HO848.out
    (first | subst eo111 | (injection eo111 with f1_ f2_ f3_; have f4_ := f1_.symm; have f5_ := f3_.symm; clear f1_ f2_ f3_; subst f4_; subst f5_))
    refine hK.out _ _ ⟨(blk_cell BK828.out 0).trans rfl, (blk_cell BK828.out 1).trans rfl, (blk_cell BK823.out 0).trans rfl, (blk_cell BK823.out 1).trans rfl, (blk_cell BK823.out 2).trans rfl⟩ (fun hHeld => ?_)
    clear hK K
    refine norm_ (a' := ?_) ?_ ?_
    rotate_left
    ·show Act.put _ (some 134) _ = _
     simp only [SX]
     rfl
    refine one_ (i := 16) (N := some 137) (ms 19 131071) rfl rfl (one_of HT_.out (by kernel_rfl)) (by decide) (fun K hK => ?_)
    refine goes_ Try.func17 (by kernel_rfl) rfl #[.agg #[.int .i64 t845, .slice Ao111 t846.length co111], .agg #[.int .i64 t816, .slice Ao9 t817.length co9]] (by rfl) rfl rfl (by (try simp only [List.map_toArray, List.map_cons, List.map_nil]); first | done | rfl | (simp only [List.length_drop, List.length_take]; rfl)) ?_
    with_reducible refine (laws_wkNet.calls k2 t845 _ _ t846 t816 _ _ t817 t849 _ ?side1 ?side2 ?side3 ?side4 A105.out).mono ?_
    (case side1 => repeat (first | exact (Kd.R_reads' HO848.out).2.2 | (with_reducible refine Kd.C_alloc ?_ _) | (with_reducible refine Kd.C_drewN ?_ _) | (with_reducible refine Kd.C_drew ?_)))
    (case side2 => exact (Kd.R_reads' HO848.out).2.1)
    (case side3 => repeat (first | exact (Kd.R_reads' HO_824001.out).2.2 | (with_reducible refine Kd.C_alloc ?_ _) | (with_reducible refine Kd.C_drewN ?_ _) | (with_reducible refine Kd.C_drew ?_)))
    (case side4 => exact (Kd.R_reads' HO_824001.out).2.1)
    rintro e w112 ⟨rfl, hb⟩
    refine ⟨_, rfl, ?_⟩
    replace HO_824001 := Aside0.mk (Kd.R_below (rk HO_824001) hb)
    replace HO_824002 := Aside0.mk (Kd.R_below (rk HO_824002) hb)
    replace HO_829001 := Aside0.mk (Kd.R_below (rk HO_829001) hb)
    replace HO848 := Aside0.mk (Kd.R_below (rk HO848) hb)
    replace BK823 := Aside0.mk (blk_below (bk BK823) hb)
    replace BK828 := Aside0.mk (blk_below (bk BK828) hb)
    replace HB := Aside0.mk (below_step (bl2 HB GE823 GE828) hb)
    (try clear hb)
    (try clear hb2)
    (try clear hk)
    (try clear hi)
    refine hK.out _ _ ⟨(blk_cell BK828.out 0).trans rfl, (blk_cell BK828.out 1).trans rfl, (blk_cell BK823.out 0).trans rfl, (blk_cell BK823.out 1).trans rfl, (blk_cell BK823.out 2).trans rfl⟩ (fun hHeld => ?_)
    clear hK K
    refine norm_ (a' := ?_) ?_ ?_
    rotate_left
    ·show Act.put _ (some 137) _ = _
     simp only [SX]
     rfl
    refine pu 17 138 ?_ (ms 19 262143) rfl rfl HT_ (by kernel_rfl) (fun _ _ _ h => h) (by rfl) ?_ ?_ ?_ ?_
    rotate_left
    ·intro w'
     go_simp
     with_reducible rfl
    rotate_left
    ·simp only [SX]
     rfl
    refine pu 18 2 ?_ (ms 19 524287) rfl rfl HT_ (by kernel_rfl) (fun _ _ _ h => h) (by rfl) ?_ ?_ ?_ ?_
    rotate_left
    ·intro w'
     go_simp
     with_reducible rfl
    rotate_left
    ·simp only [SX]
     rfl
    refine done_ (done_of HT_.out (by kernel_rfl)) ?_
    try go_wp2
    go_ret
    exact ⟨by first | rfl | (simp [errW_none, errW_some] <;> rfl) | (simp [*, errW_none, errW_some] <;> rfl), bl2 HB GE823 GE828⟩
   rw [if_pos c55] at H
   have c55b0 : decide (x6_2 < (t817.length : Int)) = true := decide_eq_true c55
   clear c55
   by_cases c56 : 0 ≤ x6_2
   rotate_left
   ·rw [if_neg c56] at H
    exact absurd H (by simp)
   rw [if_pos c56] at H
   have c56b0 : decide (0 ≤ x6_2) = true := decide_eq_true c56
   clear c56
   have H' := Aside0.mk H
   clear H
   have hnb57 := NB823_828.out
   have hnc57 := NB828_823.out
   have hcz58_0 := bc wr BK823 0 (.int .i64 t816) rfl
   have hcz58_1 := bc wr BK823 1 (.slice Ao9 t817.length co9) rfl
   have hcz58_2 := bc wr BK823 2 (.slice Ao10 t820.length co10) rfl
   have hfz58_0 := fz BK823 0
   have hfz58_1 := fz BK823 1
   have hfz58_2 := fz BK823 2
   have p850 : 0 ≤ (x6_2 : Int) := oT (by first | (with_reducible assumption) | assumption)
   have q850 : x6_2 < (t817.length : Int) := oT (by first | (with_reducible assumption) | assumption)
   obtain ⟨ad850, e850, hx850_0, hx850_1, hx850_2, hx850_3, hx850_4⟩ := at_T31 (Kd.R_reads' HO_824001.out).2.2 x6_2 p850 q850
   cases e850
   replace p850 := eq_true p850
   replace q850 := eq_true q850
   go_wp2
   go_loopg [7, 8, 9] k2 (fun kq v7 v8 v9 w' => ∃ (x7_3 : Bool) (x8_3 : Int) (x9_3 : Int), v7 = .bool x7_3 ∧ v8 = .int .i64 x8_3 ∧ v9 = .int .i64 x9_3 ∧ Aside0 (laws_FnLiveNow.l1 kq x5_2 x6_2 x7_3 x8_3 x9_3 t816 t817 t820 t824 t825 = some r) ∧ Aside0 (kq ≤ k2) ∧ Aside0 (Kd.R k31 31 w' w.heap.size (fun k_ => some k_ ≠ ((.slice Ao15 t825.length co15) : Value).ownBlock) (.slice (some ad850) t817.length co9) t817) ∧ Aside0 (Kd.R k64 64 w' w.heap.size (fun _ => True) (.slice Ao10 t820.length co10) t820) ∧ Aside0 (Kd.R k31 31 w' w.heap.size (fun k_ => some k_ ≠ ((.slice (some ad850) t817.length co9) : Value).ownBlock) (.slice Ao15 t825.length co15) t825) ∧ Aside0 (w'.heap[gb823]? = some (.cells #[.int .i64 t816, (.slice (some ad850) t817.length co9), (.slice Ao10 t820.length co10)] 57 (0, 0))) ∧ Aside0 (w'.heap[gb828]? = some (.cells #[.int .i64 t824, (.slice Ao15 t825.length co15)] 25 (0, 0))) ∧ Aside0 (Below w.heap.size w w'))
   case atStart => exact ⟨(false), ((rd_T31 t817 x6_2).f2), (0), (by first | rfl | (simp; done) | (simp [*]; done)), (by first | rfl | (simp; done) | (simp [*]; done)), (by first | rfl | (simp; done) | (simp [*]; done)), H', ⟨Nat.le_refl _⟩, ⟨rk HO_824001⟩, ⟨rk HO_824002⟩, ⟨rk HO_829001⟩, ⟨bk BK823⟩, ⟨bk BK828⟩, ⟨bl2 HB GE823 GE828⟩⟩
   clear H'
   try clear c1
   try clear c2
   try clear p2
   try clear c3
   try clear c4
   try clear c5
   try clear p8
   try clear q8
   try clear hx8
   try clear c17
   try clear c18
   try clear c21
   try clear c21b0
   try clear c21b1
   try clear c21b2
   try clear c32
   try clear c34
   try clear c38
   try clear c43
   try clear c46
   try clear c55
   try clear c55b0
   try clear c56
   try clear c56b0
   try clear c57
   try clear hcz58_0
   try clear hcz58_1
   try clear hcz58_2
   try clear hfz58_0
   try clear hfz58_1
   try clear hfz58_2
   try clear hx850_0
   try clear hx850_1
   try clear hx850_2
   try clear hx850_3
   try clear hx850_4
   try clear p2
   try clear p850
   try clear q850
   obtain ⟨x7_3, x8_3, x9_3, rfl, rfl, rfl, HA, HK3, HO_824001, HO_824002, HO_829001, BK823, BK828, HB⟩ := hrel
   cases gk with
   | zero => exact absurd HA.out (by simp [laws_FnLiveNow.l1])
   | succ k3 =>
    have H := HA.out
    clear HA
    simp only [laws_FnLiveNow.l1] at H
    by_cases c59 : x9_3 < (t820.length : Int)
    ·rw [if_pos c59] at H
     have c59b0 : decide (x9_3 < (t820.length : Int)) = true := decide_eq_true c59
     clear c59
     by_cases c60 : 0 ≤ x9_3
     rotate_left
     ·rw [if_neg c60] at H
      exact absurd H (by simp)
     rw [if_pos c60] at H
     have c60b0 : decide (0 ≤ x9_3) = true := decide_eq_true c60
     clear c60
     by_cases c61 : ((rd_T64 t820 x9_3).f1) = x6_2
     rotate_left
     ·rw [if_neg c61] at H
      have c61b0 : (((rd_T64 t820 x9_3).f1) == x6_2) = false := beq_eq_false_iff_ne.mpr c61
      have c61b1 : (((rd_T64 t820 x9_3).f1) != x6_2) = true := bne_iff_ne.mpr c61
      have H' := Aside0.mk H
      clear H
      have hnb67 := NB823_828.out
      have hnc67 := NB828_823.out
      have hcz68_0 := bc wr BK823 0 (.int .i64 t816) rfl
      have hcz68_1 := bc wr BK823 1 (.slice (some ad850) t817.length co9) rfl
      have hcz68_2 := bc wr BK823 2 (.slice Ao10 t820.length co10) rfl
      have hfz68_0 := fz BK823 0
      have hfz68_1 := fz BK823 1
      have hfz68_2 := fz BK823 2
      have p851 : 0 ≤ (x9_3 : Int) := oT (by first | (with_reducible assumption) | assumption)
      have q851 : x9_3 < (t820.length : Int) := oT (by first | (with_reducible assumption) | assumption)
      obtain ⟨ad851, e851, hx851_0, hx851_1, hx851_2⟩ := at_T64 (Kd.R_reads' HO_824002.out).2.2 x9_3 p851 q851
      cases e851
      replace p851 := eq_true p851
      replace q851 := eq_true q851
      go_wp2
      go_roundg k3
      case measure => have := HJ4.out; have := HK2.out; have := HK3.out; omega
      case rel => exact ⟨(x7_3), (x8_3), (wrap64 (x9_3 + 1)), (by first | rfl | (simp; done) | (simp [*]; done)), (by first | rfl | (simp; done) | (simp [*]; done)), (by first | rfl | (simp; done) | (simp [*]; done)), H', ⟨by have := HJ4.out; have := HK2.out; have := HK3.out; omega⟩, ⟨rk HO_824001⟩, ⟨rk HO_824002⟩, ⟨rk HO_829001⟩, ⟨bk BK823⟩, ⟨bk BK828⟩, ⟨bl2 HB GE823 GE828⟩⟩
     rw [if_pos c61] at H
     have c61b0 : (((rd_T64 t820 x9_3).f1) == x6_2) = true := beq_iff_eq.mpr c61
     have c61b1 : (((rd_T64 t820 x9_3).f1) != x6_2) = false := bne_eq_false_iff_eq.mpr c61
     clear c61
     by_cases c62 : x7_3 = true
     ·subst c62
      rw [if_pos rfl] at H
      have H' := Aside0.mk H
      clear H
      have hnb63 := NB823_828.out
      have hnc63 := NB828_823.out
      have hcz64_0 := bc wr BK823 0 (.int .i64 t816) rfl
      have hcz64_1 := bc wr BK823 1 (.slice (some ad850) t817.length co9) rfl
      have hcz64_2 := bc wr BK823 2 (.slice Ao10 t820.length co10) rfl
      have hfz64_0 := fz BK823 0
      have hfz64_1 := fz BK823 1
      have hfz64_2 := fz BK823 2
      have p851 : 0 ≤ (x9_3 : Int) := oT (by first | (with_reducible assumption) | assumption)
      have q851 : x9_3 < (t820.length : Int) := oT (by first | (with_reducible assumption) | assumption)
      obtain ⟨ad851, e851, hx851_0, hx851_1, hx851_2⟩ := at_T64 (Kd.R_reads' HO_824002.out).2.2 x9_3 p851 q851
      cases e851
      replace p851 := eq_true p851
      replace q851 := eq_true q851
      have p852 : 0 ≤ (x9_3 : Int) := oT (by first | (with_reducible assumption) | assumption)
      have q852 : x9_3 < (t820.length : Int) := oT (by first | (with_reducible assumption) | assumption)
      obtain ⟨ad852, e852, hx852_0, hx852_1, hx852_2⟩ := at_T64 (Kd.R_reads' HO_824002.out).2.2 x9_3 p852 q852
      obtain rfl : ad851 = ad852 := (by injection e852)
      replace p852 := eq_true p852
      replace q852 := eq_true q852
      go_wp2
      go_roundg k3
      case measure => have := HJ4.out; have := HK2.out; have := HK3.out; omega
      case rel => exact ⟨(true), (wrap64 (x8_3 + ((rd_T64 t820 x9_3).f2))), (wrap64 (x9_3 + 1)), (by first | rfl | (simp; done) | (simp [*]; done)), (by first | rfl | (simp; done) | (simp [*]; done)), (by first | rfl | (simp; done) | (simp [*]; done)), H', ⟨by have := HJ4.out; have := HK2.out; have := HK3.out; omega⟩, ⟨rk HO_824001⟩, ⟨rk HO_824002⟩, ⟨rk HO_829001⟩, ⟨bk BK823⟩, ⟨bk BK828⟩, ⟨bl2 HB GE823 GE828⟩⟩
     replace c62 := Bool.eq_false_iff.mpr c62
     subst c62
     rw [if_neg (show ¬ (false = true) by decide)] at H
     have H' := Aside0.mk H
     clear H
     have hnb65 := NB823_828.out
     have hnc65 := NB828_823.out
     have hcz66_0 := bc wr BK823 0 (.int .i64 t816) rfl
     have hcz66_1 := bc wr BK823 1 (.slice (some ad850) t817.length co9) rfl
     have hcz66_2 := bc wr BK823 2 (.slice Ao10 t820.length co10) rfl
     have hfz66_0 := fz BK823 0
     have hfz66_1 := fz BK823 1
     have hfz66_2 := fz BK823 2
     have p851 : 0 ≤ (x9_3 : Int) := oT (by first | (with_reducible assumption) | assumption)
     have q851 : x9_3 < (t820.length : Int) := oT (by first | (with_reducible assumption) | assumption)
     obtain ⟨ad851, e851, hx851_0, hx851_1, hx851_2⟩ := at_T64 (Kd.R_reads' HO_824002.out).2.2 x9_3 p851 q851
     cases e851
     replace p851 := eq_true p851
     replace q851 := eq_true q851
     have p853 : 0 ≤ (x9_3 : Int) := oT (by first | (with_reducible assumption) | assumption)
     have q853 : x9_3 < (t820.length : Int) := oT (by first | (with_reducible assumption) | assumption)
     obtain ⟨ad853, e853, hx853_0, hx853_1, hx853_2⟩ := at_T64 (Kd.R_reads' HO_824002.out).2.2 x9_3 p853 q853
     obtain rfl : ad851 = ad853 := (by injection e853)
     replace p853 := eq_true p853
     replace q853 := eq_true q853
     have p854 : 0 ≤ (x9_3 : Int) := oT (by first | (with_reducible assumption) | assumption)
     have q854 : x9_3 < (t820.length : Int) := oT (by first | (with_reducible assumption) | assumption)
     obtain ⟨ad854, e854, hx854_0, hx854_1, hx854_2⟩ := at_T64 (Kd.R_reads' HO_824002.out).2.2 x9_3 p854 q854
     obtain rfl : ad851 = ad854 := (by injection e854)
     replace p854 := eq_true p854
     replace q854 := eq_true q854
     go_wp2
     go_roundg k3
     case measure => have := HJ4.out; have := HK2.out; have := HK3.out; omega
     case rel => exact ⟨(decide (((rd_T64 t820 x9_3).f2) < 0)), (wrap64 (x8_3 + ((rd_T64 t820 x9_3).f2))), (wrap64 (x9_3 + 1)), (by first | rfl | (simp; done) | (simp [*]; done)), (by first | rfl | (simp; done) | (simp [*]; done)), (by first | rfl | (simp; done) | (simp [*]; done)), H', ⟨by have := HJ4.out; have := HK2.out; have := HK3.out; omega⟩, ⟨rk HO_824001⟩, ⟨rk HO_824002⟩, ⟨rk HO_829001⟩, ⟨bk BK823⟩, ⟨bk BK828⟩, ⟨bl2 HB GE823 GE828⟩⟩
    rw [if_neg c59] at H
    have c59b0 : decide (x9_3 < (t820.length : Int)) = false := decide_eq_false c59
    clear c59
    by_cases c69 : x7_3 = true
    ·subst c69
     rw [if_pos rfl] at H
     have H' := Aside0.mk H
     clear H
     have hnb70 := NB823_828.out
     have hnc70 := NB828_823.out
     have hcz71_0 := bc wr BK823 0 (.int .i64 t816) rfl
     have hcz71_1 := bc wr BK823 1 (.slice (some ad850) t817.length co9) rfl
     have hcz71_2 := bc wr BK823 2 (.slice Ao10 t820.length co10) rfl
     have hfz71_0 := fz BK823 0
     have hfz71_1 := fz BK823 1
     have hfz71_2 := fz BK823 2
     go_wp2
     go_roundg k3
     case measure => have := HJ4.out; have := HK2.out; have := HK3.out; omega
     case rel => exact ⟨(x5_2), (wrap64 (x6_2 + 1)), (by first | rfl | (simp; done) | (simp [*]; done)), (by first | rfl | (simp; done) | (simp [*]; done)), H', ⟨by have := HJ4.out; have := HK2.out; have := HK3.out; omega⟩, ⟨rk HO_824001⟩, ⟨rk HO_824002⟩, ⟨rk HO_829001⟩, ⟨bk BK823⟩, ⟨bk BK828⟩, ⟨bl2 HB GE823 GE828⟩⟩
    replace c69 := Bool.eq_false_iff.mpr c69
    subst c69
    rw [if_neg (show ¬ (false = true) by decide)] at H
    by_cases c72 : x8_3 > 99
    ·rw [if_pos c72] at H
     have c72b0 : decide (99 < x8_3) = true := decide_eq_true c72
     clear c72
     by_cases c73 : 0 ≤ x6_2
     rotate_left
     ·rw [if_neg c73] at H
      exact absurd H (by simp)
     rw [if_pos c73] at H
     have c73b0 : decide (0 ≤ x6_2) = true := decide_eq_true c73
     clear c73
     by_cases c74 : x6_2 < (t817.length : Int)
     rotate_left
     ·rw [if_neg c74] at H
      exact absurd H (by simp)
     rw [if_pos c74] at H
     have c74b0 : decide (x6_2 < (t817.length : Int)) = true := decide_eq_true c74
     clear c74
     by_cases c75 : x5_2 ≥ (t825.length : Int)
     ·rw [if_pos c75] at H
      have c75b0 : decide ((t825.length : Int) ≤ x5_2) = true := decide_eq_true c75
      clear c75
      exact absurd ((Option.some.inj H).trans hr_) Bool.false_ne_true
     rw [if_neg c75] at H
     have c75b0 : decide ((t825.length : Int) ≤ x5_2) = false := decide_eq_false c75
     clear c75
     by_cases c76 : 0 ≤ x5_2
     rotate_left
     ·rw [if_neg c76] at H
      exact absurd H (by simp)
     rw [if_pos c76] at H
     have c76b0 : decide (0 ≤ x5_2) = true := decide_eq_true c76
     clear c76
     by_cases c77 : x5_2 < (t825.length : Int)
     rotate_left
     ·rw [if_neg c77] at H
      exact absurd H (by simp)
     rw [if_pos c77] at H
     have c77b0 : decide (x5_2 < (t825.length : Int)) = true := decide_eq_true c77
     clear c77
     by_cases c78 : (!(((rd_T31 t825 x5_2).f0) == ((rd_T31 t817 x6_2).f0)) || (!(((rd_T31 t825 x5_2).f1) == ((rd_T31 t817 x6_2).f1)) || (!(((rd_T31 t825 x5_2).f2) == 99) || (!(((rd_T31 t825 x5_2).f3) == ((rd_T31 t817 x6_2).f3)) || (!(((rd_T31 t825 x5_2).f4) == ((rd_T31 t817 x6_2).f4))))))) = true
     ·rw [if_pos c78] at H
      have c78b0 : (!(((rd_T31 t825 x5_2).f0) == ((rd_T31 t817 x6_2).f0)) || (!(((rd_T31 t825 x5_2).f1) == ((rd_T31 t817 x6_2).f1)) || (!(((rd_T31 t825 x5_2).f2) == 99) || (!(((rd_T31 t825 x5_2).f3) == ((rd_T31 t817 x6_2).f3)) || (!(((rd_T31 t825 x5_2).f4) == ((rd_T31 t817 x6_2).f4))))))) = true := c78
      clear c78
      exact absurd ((Option.some.inj H).trans hr_) Bool.false_ne_true
     rw [if_neg c78] at H
     have c78b0 : (!(((rd_T31 t825 x5_2).f0) == ((rd_T31 t817 x6_2).f0)) || (!(((rd_T31 t825 x5_2).f1) == ((rd_T31 t817 x6_2).f1)) || (!(((rd_T31 t825 x5_2).f2) == 99) || (!(((rd_T31 t825 x5_2).f3) == ((rd_T31 t817 x6_2).f3)) || (!(((rd_T31 t825 x5_2).f4) == ((rd_T31 t817 x6_2).f4))))))) = false := by simpa using c78
     clear c78
     have H' := Aside0.mk H
     clear H
     have hnb79 := NB823_828.out
     have hnc79 := NB828_823.out
     have hcz80_0 := bc wr BK823 0 (.int .i64 t816) rfl
     have hcz80_1 := bc wr BK823 1 (.slice (some ad850) t817.length co9) rfl
     have hcz80_2 := bc wr BK823 2 (.slice Ao10 t820.length co10) rfl
     have hfz80_0 := fz BK823 0
     have hfz80_1 := fz BK823 1
     have hfz80_2 := fz BK823 2
     have p855 : 0 ≤ (x6_2 : Int) := oT (by first | (with_reducible assumption) | assumption)
     have q855 : x6_2 < (t817.length : Int) := oT (by first | (with_reducible assumption) | assumption)
     obtain ⟨ad855, e855, hx855_0, hx855_1, hx855_2, hx855_3, hx855_4⟩ := at_T31 (Kd.R_reads' HO_824001.out).2.2 x6_2 p855 q855
     obtain rfl : ad850 = ad855 := (by injection e855)
     replace p855 := eq_true p855
     replace q855 := eq_true q855
     try go_wp2_with (first | ((with_reducible refine gate_dst (N := 10) rfl ?_); refine box_event ?hg (N := 10) ?hd (cs := #[.int .i64 0, .int .i64 0, .int .i64 0, .int .i64 0, .int .i64 0]) (t := 31) ?hr ?_; (case hd => rfl); (case hg => rfl); (case hr => first | (go_simp; done) | (go_simp; rfl)); intro gb856 hg w81 hbox hb; replace HO_824001 := Aside0.mk (Kd.R_below (Kd.R_elderB (rk HO_824001) gb856 (Nat.le_of_eq hg.symm)) hb); replace HO_824002 := Aside0.mk (Kd.R_below (rk HO_824002) hb); replace HO_829001 := Aside0.mk (Kd.R_below (Kd.R_elderB (rk HO_829001) gb856 (Nat.le_of_eq hg.symm)) hb); have BK856 := Aside0.mk (hbox); have GW856 := Aside0.mk ((by rw [hg]; exact (below_size (bl2 HB GE823 GE828)) : w.heap.size ≤ gb856)); have GE856 := Aside0.mk ((by rw [hg]; exact (below_size (bl2 HB GE823 GE828)) : w.heap.size ≤ gb856)); replace HB := Aside0.mk (below_step (bl2 HB GE823 GE828) hb); have NB823_856 := Aside0.mk ((by rw [hg]; exact Nat.ne_of_lt (blk_lt (bk BK823)) : gb823 ≠ gb856)); have NB856_823 := Aside0.mk ((by rw [hg]; exact Nat.ne_of_gt (blk_lt (bk BK823)) : gb856 ≠ gb823)); replace BK823 := Aside0.mk (blk_below (bk BK823) hb); have NB828_856 := Aside0.mk ((by rw [hg]; exact Nat.ne_of_lt (blk_lt (bk BK828)) : gb828 ≠ gb856)); have NB856_828 := Aside0.mk ((by rw [hg]; exact Nat.ne_of_gt (blk_lt (bk BK828)) : gb856 ≠ gb828)); replace BK828 := Aside0.mk (blk_below (bk BK828) hb); clear hb hbox hg; have hnb82 := NB856_823.out; have hnc82 := NB823_856.out; have hnb83 := NB856_828.out; have hnc83 := NB828_856.out; have hcz84_0 := bc w81 BK856 0 (.int .i64 0) rfl; have hcz84_1 := bc w81 BK856 1 (.int .i64 0) rfl; have hcz84_2 := bc w81 BK856 2 (.int .i64 0) rfl; have hcz84_3 := bc w81 BK856 3 (.int .i64 0) rfl; have hcz84_4 := bc w81 BK856 4 (.int .i64 0) rfl; have hfz84_0 := fz BK856 0; have hfz84_1 := fz BK856 1; have hfz84_2 := fz BK856 2; have hfz84_3 := fz BK856 3; have hfz84_4 := fz BK856 4))
     have n0_ : Aside0 (Kd.R k31 31 ((((((w81.setCell ⟨gb856, 0, none⟩ (.int .i64 ((rd_T31 t817 x6_2).f0))).setCell ⟨gb856, 1, none⟩ (.int .i64 ((rd_T31 t817 x6_2).f1))).setCell ⟨gb856, 2, none⟩ (.int .i64 ((rd_T31 t817 x6_2).f2))).setCell ⟨gb856, 3, none⟩ (.int .i64 ((rd_T31 t817 x6_2).f3))).setCell ⟨gb856, 4, none⟩ (.int .i64 ((rd_T31 t817 x6_2).f4))).setCell ⟨gb856, 2, none⟩ (.int .i64 99)) w.heap.size (fun k_ => some k_ ≠ (.slice Ao15 t825.length co15 : Value).ownBlock ∧ k_ ≠ gb856) (.slice (some ad850) t817.length co9) t817) := ⟨by (with_reducible repeat (first | apply Kd.R_alloc | apply Kd.R_drewN | apply Kd.R_drew)); exact Kd.R_mono (Kd.R_far (p := ⟨gb856, 2, none⟩) (Kd.R_far (p := ⟨gb856, 4, none⟩) (Kd.R_far (p := ⟨gb856, 3, none⟩) (Kd.R_far (p := ⟨gb856, 2, none⟩) (Kd.R_far (p := ⟨gb856, 1, none⟩) (Kd.R_far (p := ⟨gb856, 0, none⟩) (Kd.R_mono HO_824001.out (fun k_ hk => (⟨hk, hk.2⟩ : _ ∧ k_ ≠ gb856))) (fun _ hk => hk.2) (.int .i64 ((rd_T31 t817 x6_2).f0))) (fun _ hk => hk.2) (.int .i64 ((rd_T31 t817 x6_2).f1))) (fun _ hk => hk.2) (.int .i64 ((rd_T31 t817 x6_2).f2))) (fun _ hk => hk.2) (.int .i64 ((rd_T31 t817 x6_2).f3))) (fun _ hk => hk.2) (.int .i64 ((rd_T31 t817 x6_2).f4))) (fun _ hk => hk.2) (.int .i64 99)) (fun _ hk => ⟨hk.1.1, hk.1.2⟩)⟩
     have n1_ : Aside0 (Kd.R k64 64 ((((((w81.setCell ⟨gb856, 0, none⟩ (.int .i64 ((rd_T31 t817 x6_2).f0))).setCell ⟨gb856, 1, none⟩ (.int .i64 ((rd_T31 t817 x6_2).f1))).setCell ⟨gb856, 2, none⟩ (.int .i64 ((rd_T31 t817 x6_2).f2))).setCell ⟨gb856, 3, none⟩ (.int .i64 ((rd_T31 t817 x6_2).f3))).setCell ⟨gb856, 4, none⟩ (.int .i64 ((rd_T31 t817 x6_2).f4))).setCell ⟨gb856, 2, none⟩ (.int .i64 99)) w.heap.size (fun _ => True) (.slice Ao10 t820.length co10) t820) := ⟨by (with_reducible repeat (first | apply Kd.R_alloc | apply Kd.R_drewN | apply Kd.R_drew)); exact Kd.R_mono (Kd.R_far (p := ⟨gb856, 2, none⟩) (Kd.R_far (p := ⟨gb856, 4, none⟩) (Kd.R_far (p := ⟨gb856, 3, none⟩) (Kd.R_far (p := ⟨gb856, 2, none⟩) (Kd.R_far (p := ⟨gb856, 1, none⟩) (Kd.R_far (p := ⟨gb856, 0, none⟩) (Kd.R_types HO_824002.out BK856.out (by decide)) (fun _ hk => hk.2) (.int .i64 ((rd_T31 t817 x6_2).f0))) (fun _ hk => hk.2) (.int .i64 ((rd_T31 t817 x6_2).f1))) (fun _ hk => hk.2) (.int .i64 ((rd_T31 t817 x6_2).f2))) (fun _ hk => hk.2) (.int .i64 ((rd_T31 t817 x6_2).f3))) (fun _ hk => hk.2) (.int .i64 ((rd_T31 t817 x6_2).f4))) (fun _ hk => hk.2) (.int .i64 99)) (fun _ hk => trivial)⟩
     have n2_ : Aside0 (Kd.R k31 31 ((((((w81.setCell ⟨gb856, 0, none⟩ (.int .i64 ((rd_T31 t817 x6_2).f0))).setCell ⟨gb856, 1, none⟩ (.int .i64 ((rd_T31 t817 x6_2).f1))).setCell ⟨gb856, 2, none⟩ (.int .i64 ((rd_T31 t817 x6_2).f2))).setCell ⟨gb856, 3, none⟩ (.int .i64 ((rd_T31 t817 x6_2).f3))).setCell ⟨gb856, 4, none⟩ (.int .i64 ((rd_T31 t817 x6_2).f4))).setCell ⟨gb856, 2, none⟩ (.int .i64 99)) w.heap.size (fun k_ => some k_ ≠ (.slice (some ad850) t817.length co9 : Value).ownBlock ∧ k_ ≠ gb856) (.slice Ao15 t825.length co15) t825) := ⟨by (with_reducible repeat (first | apply Kd.R_alloc | apply Kd.R_drewN | apply Kd.R_drew)); exact Kd.R_mono (Kd.R_far (p := ⟨gb856, 2, none⟩) (Kd.R_far (p := ⟨gb856, 4, none⟩) (Kd.R_far (p := ⟨gb856, 3, none⟩) (Kd.R_far (p := ⟨gb856, 2, none⟩) (Kd.R_far (p := ⟨gb856, 1, none⟩) (Kd.R_far (p := ⟨gb856, 0, none⟩) (Kd.R_mono HO_829001.out (fun k_ hk => (⟨hk, hk.2⟩ : _ ∧ k_ ≠ gb856))) (fun _ hk => hk.2) (.int .i64 ((rd_T31 t817 x6_2).f0))) (fun _ hk => hk.2) (.int .i64 ((rd_T31 t817 x6_2).f1))) (fun _ hk => hk.2) (.int .i64 ((rd_T31 t817 x6_2).f2))) (fun _ hk => hk.2) (.int .i64 ((rd_T31 t817 x6_2).f3))) (fun _ hk => hk.2) (.int .i64 ((rd_T31 t817 x6_2).f4))) (fun _ hk => hk.2) (.int .i64 99)) (fun _ hk => ⟨hk.1.1, hk.1.2⟩)⟩
     have n3_ : Aside0 (((((((w81.setCell ⟨gb856, 0, none⟩ (.int .i64 ((rd_T31 t817 x6_2).f0))).setCell ⟨gb856, 1, none⟩ (.int .i64 ((rd_T31 t817 x6_2).f1))).setCell ⟨gb856, 2, none⟩ (.int .i64 ((rd_T31 t817 x6_2).f2))).setCell ⟨gb856, 3, none⟩ (.int .i64 ((rd_T31 t817 x6_2).f3))).setCell ⟨gb856, 4, none⟩ (.int .i64 ((rd_T31 t817 x6_2).f4))).setCell ⟨gb856, 2, none⟩ (.int .i64 99)).heap[gb823]? = some (.cells #[.int .i64 t816, .slice (some ad850) t817.length co9, .slice Ao10 t820.length co10] 57 (0, 0))) := ⟨by (with_reducible repeat (first | refine blk_drewN ?_ _ | refine blk_drew ?_ | refine blk_alloc ?_ _)); refine blk_far ?_ NB823_856.out _; refine blk_far ?_ NB823_856.out _; refine blk_far ?_ NB823_856.out _; refine blk_far ?_ NB823_856.out _; refine blk_far ?_ NB823_856.out _; refine blk_far ?_ NB823_856.out _; (with_reducible repeat (first | refine blk_drewN ?_ _ | refine blk_drew ?_ | refine blk_alloc ?_ _)); exact BK823.out⟩
     have n4_ : Aside0 (((((((w81.setCell ⟨gb856, 0, none⟩ (.int .i64 ((rd_T31 t817 x6_2).f0))).setCell ⟨gb856, 1, none⟩ (.int .i64 ((rd_T31 t817 x6_2).f1))).setCell ⟨gb856, 2, none⟩ (.int .i64 ((rd_T31 t817 x6_2).f2))).setCell ⟨gb856, 3, none⟩ (.int .i64 ((rd_T31 t817 x6_2).f3))).setCell ⟨gb856, 4, none⟩ (.int .i64 ((rd_T31 t817 x6_2).f4))).setCell ⟨gb856, 2, none⟩ (.int .i64 99)).heap[gb828]? = some (.cells #[.int .i64 t824, .slice Ao15 t825.length co15] 25 (0, 0))) := ⟨by (with_reducible repeat (first | refine blk_drewN ?_ _ | refine blk_drew ?_ | refine blk_alloc ?_ _)); refine blk_far ?_ NB828_856.out _; refine blk_far ?_ NB828_856.out _; refine blk_far ?_ NB828_856.out _; refine blk_far ?_ NB828_856.out _; refine blk_far ?_ NB828_856.out _; refine blk_far ?_ NB828_856.out _; (with_reducible repeat (first | refine blk_drewN ?_ _ | refine blk_drew ?_ | refine blk_alloc ?_ _)); exact BK828.out⟩
     have n5_ : Aside0 (((((((w81.setCell ⟨gb856, 0, none⟩ (.int .i64 ((rd_T31 t817 x6_2).f0))).setCell ⟨gb856, 1, none⟩ (.int .i64 ((rd_T31 t817 x6_2).f1))).setCell ⟨gb856, 2, none⟩ (.int .i64 ((rd_T31 t817 x6_2).f2))).setCell ⟨gb856, 3, none⟩ (.int .i64 ((rd_T31 t817 x6_2).f3))).setCell ⟨gb856, 4, none⟩ (.int .i64 ((rd_T31 t817 x6_2).f4))).setCell ⟨gb856, 2, none⟩ (.int .i64 99)).heap[gb856]? = some (.cells #[.int .i64 ((rd_T31 t817 x6_2).f0), .int .i64 ((rd_T31 t817 x6_2).f1), .int .i64 99, .int .i64 ((rd_T31 t817 x6_2).f3), .int .i64 ((rd_T31 t817 x6_2).f4)] 31 (0, 0))) := ⟨by (with_reducible repeat (first | refine blk_drewN ?_ _ | refine blk_drew ?_ | refine blk_alloc ?_ _)); refine blk_put (cs := #[.int .i64 ((rd_T31 t817 x6_2).f0), .int .i64 ((rd_T31 t817 x6_2).f1), .int .i64 ((rd_T31 t817 x6_2).f2), .int .i64 ((rd_T31 t817 x6_2).f3), .int .i64 ((rd_T31 t817 x6_2).f4)]) ?_ 2 _ rfl; refine blk_put (cs := #[.int .i64 ((rd_T31 t817 x6_2).f0), .int .i64 ((rd_T31 t817 x6_2).f1), .int .i64 ((rd_T31 t817 x6_2).f2), .int .i64 ((rd_T31 t817 x6_2).f3), .int .i64 0]) ?_ 4 _ rfl; refine blk_put (cs := #[.int .i64 ((rd_T31 t817 x6_2).f0), .int .i64 ((rd_T31 t817 x6_2).f1), .int .i64 ((rd_T31 t817 x6_2).f2), .int .i64 0, .int .i64 0]) ?_ 3 _ rfl; refine blk_put (cs := #[.int .i64 ((rd_T31 t817 x6_2).f0), .int .i64 ((rd_T31 t817 x6_2).f1), .int .i64 0, .int .i64 0, .int .i64 0]) ?_ 2 _ rfl; refine blk_put (cs := #[.int .i64 ((rd_T31 t817 x6_2).f0), .int .i64 0, .int .i64 0, .int .i64 0, .int .i64 0]) ?_ 1 _ rfl; refine blk_put (cs := #[.int .i64 0, .int .i64 0, .int .i64 0, .int .i64 0, .int .i64 0]) ?_ 0 _ rfl; (with_reducible repeat (first | refine blk_drewN ?_ _ | refine blk_drew ?_ | refine blk_alloc ?_ _)); exact BK856.out⟩
     have n6_ : Aside0 (Below w.heap.size w ((((((w81.setCell ⟨gb856, 0, none⟩ (.int .i64 ((rd_T31 t817 x6_2).f0))).setCell ⟨gb856, 1, none⟩ (.int .i64 ((rd_T31 t817 x6_2).f1))).setCell ⟨gb856, 2, none⟩ (.int .i64 ((rd_T31 t817 x6_2).f2))).setCell ⟨gb856, 3, none⟩ (.int .i64 ((rd_T31 t817 x6_2).f3))).setCell ⟨gb856, 4, none⟩ (.int .i64 ((rd_T31 t817 x6_2).f4))).setCell ⟨gb856, 2, none⟩ (.int .i64 99))) := ⟨bl3 HB GE823 GE828 GE856⟩
     (try clear HO_824001)
     (try clear HO_824002)
     (try clear HO_829001)
     (try clear BK823)
     (try clear BK828)
     (try clear BK856)
     (try clear HB)
     generalize ((((((w81.setCell ⟨gb856, 0, none⟩ (.int .i64 ((rd_T31 t817 x6_2).f0))).setCell ⟨gb856, 1, none⟩ (.int .i64 ((rd_T31 t817 x6_2).f1))).setCell ⟨gb856, 2, none⟩ (.int .i64 ((rd_T31 t817 x6_2).f2))).setCell ⟨gb856, 3, none⟩ (.int .i64 ((rd_T31 t817 x6_2).f3))).setCell ⟨gb856, 4, none⟩ (.int .i64 ((rd_T31 t817 x6_2).f4))).setCell ⟨gb856, 2, none⟩ (.int .i64 99)) = w85 at n0_ n1_ n2_ n3_ n4_ n5_ n6_ ⊢
     have HO_824001 := n0_
     have HO_824002 := n1_
     have HO_829001 := n2_
     have BK823 := n3_
     have BK828 := n4_
     have BK856 := n5_
     have HB := n6_
     clear n0_ n1_ n2_ n3_ n4_ n5_ n6_
     replace HO_824001 := Aside0.mk (Kd.R_drew HO_824001.out)
     replace HO_824002 := Aside0.mk (Kd.R_drew HO_824002.out)
     replace HO_829001 := Aside0.mk (Kd.R_drew HO_829001.out)
     replace BK823 := Aside0.mk (blk_drew BK823.out)
     replace BK828 := Aside0.mk (blk_drew BK828.out)
     replace BK856 := Aside0.mk (blk_drew BK856.out)
     replace HB := Aside0.mk (below_drew1 HB.out)
     have p857 : 0 ≤ (x5_2 : Int) := oT (by first | (with_reducible assumption) | assumption)
     have q857 : x5_2 < (t825.length : Int) := oT (by first | (with_reducible assumption) | assumption)
     obtain ⟨ad857, e857, hx857_0, hx857_1, hx857_2, hx857_3, hx857_4⟩ := at_T31 (Kd.R_reads' HO_829001.out).2.2 x5_2 p857 q857
     cases e857
     replace p857 := eq_true p857
     replace q857 := eq_true q857
     refine start_ (n := 14) (S := fun w' => w'.cell? ⟨gb828, 0, none⟩ = some (.int .i64 t824) ∧ w'.cell? ⟨gb828, 1, none⟩ = some (.slice (some ad857) t825.length co15) ∧ w'.cell? ⟨gb856, 0, none⟩ = some (.int .i64 ((rd_T31 t817 x6_2).f0)) ∧ w'.cell? ⟨gb856, 1, none⟩ = some (.int .i64 ((rd_T31 t817 x6_2).f1)) ∧ w'.cell? ⟨gb856, 2, none⟩ = some (.int .i64 99) ∧ w'.cell? ⟨gb856, 3, none⟩ = some (.int .i64 ((rd_T31 t817 x6_2).f3)) ∧ w'.cell? ⟨gb856, 4, none⟩ = some (.int .i64 ((rd_T31 t817 x6_2).f4)) ∧ w'.cell? (ad857.add ((x5_2).toNat * 5)) = some (.int .i64 ((rd_T31 t825 x5_2).f0)) ∧ w'.cell? ⟨(ad857.add ((x5_2).toNat * 5)).block, (ad857.add ((x5_2).toNat * 5)).off + 1, none⟩ = some (.int .i64 ((rd_T31 t825 x5_2).f1)) ∧ w'.cell? ⟨(ad857.add ((x5_2).toNat * 5)).block, (ad857.add ((x5_2).toNat * 5)).off + 2, none⟩ = some (.int .i64 ((rd_T31 t825 x5_2).f2)) ∧ w'.cell? ⟨(ad857.add ((x5_2).toNat * 5)).block, (ad857.add ((x5_2).toNat * 5)).off + 3, none⟩ = some (.int .i64 ((rd_T31 t825 x5_2).f3)) ∧ w'.cell? ⟨(ad857.add ((x5_2).toNat * 5)).block, (ad857.add ((x5_2).toNat * 5)).off + 4, none⟩ = some (.int .i64 ((rd_T31 t825 x5_2).f4))) (ds := []) (ms 14 0) (by kernel_rfl) rfl (by kernel_rfl) ⟨(blk_cell BK828.out 0).trans rfl, (blk_cell BK828.out 1).trans rfl, (blk_cell BK856.out 0).trans rfl, (blk_cell BK856.out 1).trans rfl, (blk_cell BK856.out 2).trans rfl, (blk_cell BK856.out 3).trans rfl, (blk_cell BK856.out 4).trans rfl, hx857_0, hx857_1, hx857_2, hx857_3, hx857_4⟩ (fun hHeld => ?_); refine with_tabW laws_FnLiveNow.tab24 laws_FnLiveNow.bits24 (fun HT_ HW_ => ?_)
     generalize w85.drew = w86 at HO_824001 HO_824002 HO_829001 BK823 BK828 BK856 HB hx857_0 hx857_1 hx857_2 hx857_3 hx857_4 hHeld ⊢
     refine pu 0 105 ?_ (ms 14 1) rfl rfl HT_ (by kernel_rfl) (fun _ _ _ h => h) (by rfl) ?_ ?_ ?_ ?_
     rotate_left
     ·intro w'
      go_simp
      with_reducible rfl
     rotate_left
     ·simp only [SX]
      rfl
     refine pu 1 106 ?_ (ms 14 3) rfl rfl HT_ (by kernel_rfl) (fun _ _ _ h => h) (by rfl) ?_ ?_ ?_ ?_
     rotate_left
     ·intro w'
      go_simp
      with_reducible rfl
     rotate_left
     ·simp only [SX]
      rfl
     refine tk 2 107 ?_ (ms 14 7) rfl rfl HT_ HW_ (by kernel_rfl) (fun _ _ _ h => h) (by rfl) ?_ hHeld ?_ ?_ ?_
     rotate_left
     ·rintro w' ⟨s0, s1, s2, s3, s4, s5, s6, s7, s8, s9, s10, s11⟩
      go_simp
      with_reducible rfl
     rotate_left
     ·simp only [SX]
      rfl
     refine pu 3 108 ?_ (ms 14 15) rfl rfl HT_ (by kernel_rfl) (fun _ _ _ h => h) (by rfl) ?_ ?_ ?_ ?_
     rotate_left
     ·intro w'
      go_simp
      with_reducible rfl
     rotate_left
     ·simp only [SX]
      rfl
     refine pu 4 109 ?_ (ms 14 31) rfl rfl HT_ (by kernel_rfl) (fun _ _ _ h => h) (by rfl) ?_ ?_ ?_ ?_
     rotate_left
     ·intro w'
      go_simp
      with_reducible rfl
     rotate_left
     ·simp only [SX]
      rfl
     refine pu 5 110 ?_ (ms 14 63) rfl rfl HT_ (by kernel_rfl) (fun _ _ _ h => h) (by rfl) ?_ ?_ ?_ ?_
     rotate_left
     ·intro w'
      go_simp
      with_reducible rfl
     rotate_left
     ·simp only [SX]
      rfl
     refine pu 6 111 ?_ (ms 14 127) rfl rfl HT_ (by kernel_rfl) (fun _ _ _ h => h) (by rfl) ?_ ?_ ?_ ?_
     rotate_left
     ·intro w'
      go_simp
      with_reducible rfl
     rotate_left
     ·simp only [SX]
      rfl
     refine pu 8 113 ?_ (ms 14 383) rfl rfl HT_ (by kernel_rfl) (fun _ _ _ h => h) (by rfl) ?_ ?_ ?_ ?_
     rotate_left
     ·intro w'
      go_simp
      with_reducible rfl
     rotate_left
     ·simp only [SX]
      rfl
     refine tk 7 112 ?_ (ms 14 511) rfl rfl HT_ HW_ (by kernel_rfl) (fun _ _ _ h => h) (by rfl) ?_ hHeld ?_ ?_ ?_
     rotate_left
     ·rintro w' ⟨s0, s1, s2, s3, s4, s5, s6, s7, s8, s9, s10, s11⟩
      go_simp
      with_reducible rfl
     rotate_left
     ·simp only [SX]
      rfl
     refine pu 9 114 ?_ (ms 14 1023) rfl rfl HT_ (by kernel_rfl) (fun _ _ _ h => h) (by rfl) ?_ ?_ ?_ ?_
     rotate_left
     ·intro w'
      go_simp
      with_reducible rfl
     rotate_left
     ·simp only [SX]
      rfl
     refine tk 10 115 ?_ (ms 14 2047) rfl rfl HT_ HW_ (by kernel_rfl) (fun _ _ _ h => h) (by rfl) ?_ hHeld ?_ ?_ ?_
     rotate_left
     ·rintro w' ⟨s0, s1, s2, s3, s4, s5, s6, s7, s8, s9, s10, s11⟩
      go_simp
      with_reducible rfl
     rotate_left
     ·simp only [SX]
      rfl
     refine tk 11 116 ?_ (ms 14 4095) rfl rfl HT_ HW_ (by kernel_rfl) (fun _ _ _ h => h) (by rfl) ?_ hHeld ?_ ?_ ?_
     rotate_left
     ·rintro w' ⟨s0, s1, s2, s3, s4, s5, s6, s7, s8, s9, s10, s11⟩
      go_simp
      with_reducible rfl
     rotate_left
     ·simp only [SX]
      rfl
     refine pu 12 117 ?_ (ms 14 8191) rfl rfl HT_ (by kernel_rfl) (fun _ _ _ h => h) (by rfl) ?_ ?_ ?_ ?_
     rotate_left
     ·intro w'
      go_simp
      with_reducible rfl
     rotate_left
     ·simp only [SX]
      rfl
     refine pu 13 118 ?_ (ms 14 16383) rfl rfl HT_ (by kernel_rfl) (fun _ _ _ h => h) (by rfl) ?_ ?_ ?_ ?_
     rotate_left
     ·intro w'
      go_simp
      with_reducible rfl
     rotate_left
     ·simp only [SX]
      rfl
     refine done_ (done_of HT_.out (by kernel_rfl)) ?_
     try go_wp2
     go_roundg k3
     case measure => have := HJ4.out; have := HK2.out; have := HK3.out; omega
     case rel => exact ⟨(wrap64 (x5_2 + 1)), (wrap64 (x6_2 + 1)), (by first | rfl | (simp; done) | (simp [*]; done)), (by first | rfl | (simp; done) | (simp [*]; done)), H', ⟨by have := HJ4.out; have := HK2.out; have := HK3.out; omega⟩, ⟨by (with_reducible repeat (first | apply Kd.R_alloc | apply Kd.R_drewN | apply Kd.R_drew)); exact Kd.R_mono HO_824001.out (fun _ hk => hk.1)⟩, ⟨rk HO_824002⟩, ⟨by (with_reducible repeat (first | apply Kd.R_alloc | apply Kd.R_drewN | apply Kd.R_drew)); exact Kd.R_mono HO_829001.out (fun _ hk => hk.1)⟩, ⟨bk BK823⟩, ⟨bk BK828⟩, ⟨bl3 HB GE823 GE828 GE856⟩⟩
    rw [if_neg c72] at H
    have c72b0 : decide (99 < x8_3) = false := decide_eq_false c72
    clear c72
    by_cases c87 : 0 ≤ x6_2
    rotate_left
    ·rw [if_neg c87] at H
     exact absurd H (by simp)
    rw [if_pos c87] at H
    have c87b0 : decide (0 ≤ x6_2) = true := decide_eq_true c87
    clear c87
    by_cases c88 : x6_2 < (t817.length : Int)
    rotate_left
    ·rw [if_neg c88] at H
     exact absurd H (by simp)
    rw [if_pos c88] at H
    have c88b0 : decide (x6_2 < (t817.length : Int)) = true := decide_eq_true c88
    clear c88
    by_cases c89 : x5_2 ≥ (t825.length : Int)
    ·rw [if_pos c89] at H
     have c89b0 : decide ((t825.length : Int) ≤ x5_2) = true := decide_eq_true c89
     clear c89
     exact absurd ((Option.some.inj H).trans hr_) Bool.false_ne_true
    rw [if_neg c89] at H
    have c89b0 : decide ((t825.length : Int) ≤ x5_2) = false := decide_eq_false c89
    clear c89
    by_cases c90 : 0 ≤ x5_2
    rotate_left
    ·rw [if_neg c90] at H
     exact absurd H (by simp)
    rw [if_pos c90] at H
    have c90b0 : decide (0 ≤ x5_2) = true := decide_eq_true c90
    clear c90
    by_cases c91 : x5_2 < (t825.length : Int)
    rotate_left
    ·rw [if_neg c91] at H
     exact absurd H (by simp)
    rw [if_pos c91] at H
    have c91b0 : decide (x5_2 < (t825.length : Int)) = true := decide_eq_true c91
    clear c91
    by_cases c92 : (!(((rd_T31 t825 x5_2).f0) == ((rd_T31 t817 x6_2).f0)) || (!(((rd_T31 t825 x5_2).f1) == ((rd_T31 t817 x6_2).f1)) || (!(((rd_T31 t825 x5_2).f2) == x8_3) || (!(((rd_T31 t825 x5_2).f3) == ((rd_T31 t817 x6_2).f3)) || (!(((rd_T31 t825 x5_2).f4) == ((rd_T31 t817 x6_2).f4))))))) = true
    ·rw [if_pos c92] at H
     have c92b0 : (!(((rd_T31 t825 x5_2).f0) == ((rd_T31 t817 x6_2).f0)) || (!(((rd_T31 t825 x5_2).f1) == ((rd_T31 t817 x6_2).f1)) || (!(((rd_T31 t825 x5_2).f2) == x8_3) || (!(((rd_T31 t825 x5_2).f3) == ((rd_T31 t817 x6_2).f3)) || (!(((rd_T31 t825 x5_2).f4) == ((rd_T31 t817 x6_2).f4))))))) = true := c92
     clear c92
     exact absurd ((Option.some.inj H).trans hr_) Bool.false_ne_true
    rw [if_neg c92] at H
    have c92b0 : (!(((rd_T31 t825 x5_2).f0) == ((rd_T31 t817 x6_2).f0)) || (!(((rd_T31 t825 x5_2).f1) == ((rd_T31 t817 x6_2).f1)) || (!(((rd_T31 t825 x5_2).f2) == x8_3) || (!(((rd_T31 t825 x5_2).f3) == ((rd_T31 t817 x6_2).f3)) || (!(((rd_T31 t825 x5_2).f4) == ((rd_T31 t817 x6_2).f4))))))) = false := by simpa using c92
    clear c92
    have H' := Aside0.mk H
    clear H
    have hnb93 := NB823_828.out
    have hnc93 := NB828_823.out
    have hcz94_0 := bc wr BK823 0 (.int .i64 t816) rfl
    have hcz94_1 := bc wr BK823 1 (.slice (some ad850) t817.length co9) rfl
    have hcz94_2 := bc wr BK823 2 (.slice Ao10 t820.length co10) rfl
    have hfz94_0 := fz BK823 0
    have hfz94_1 := fz BK823 1
    have hfz94_2 := fz BK823 2
    have p858 : 0 ≤ (x6_2 : Int) := oT (by first | (with_reducible assumption) | assumption)
    have q858 : x6_2 < (t817.length : Int) := oT (by first | (with_reducible assumption) | assumption)
    obtain ⟨ad858, e858, hx858_0, hx858_1, hx858_2, hx858_3, hx858_4⟩ := at_T31 (Kd.R_reads' HO_824001.out).2.2 x6_2 p858 q858
    obtain rfl : ad850 = ad858 := (by injection e858)
    replace p858 := eq_true p858
    replace q858 := eq_true q858
    try go_wp2_with (first | ((with_reducible refine gate_dst (N := 10) rfl ?_); refine box_event ?hg (N := 10) ?hd (cs := #[.int .i64 0, .int .i64 0, .int .i64 0, .int .i64 0, .int .i64 0]) (t := 31) ?hr ?_; (case hd => rfl); (case hg => rfl); (case hr => first | (go_simp; done) | (go_simp; rfl)); intro gb859 hg w95 hbox hb; replace HO_824001 := Aside0.mk (Kd.R_below (Kd.R_elderB (rk HO_824001) gb859 (Nat.le_of_eq hg.symm)) hb); replace HO_824002 := Aside0.mk (Kd.R_below (rk HO_824002) hb); replace HO_829001 := Aside0.mk (Kd.R_below (Kd.R_elderB (rk HO_829001) gb859 (Nat.le_of_eq hg.symm)) hb); have BK859 := Aside0.mk (hbox); have GW859 := Aside0.mk ((by rw [hg]; exact (below_size (bl2 HB GE823 GE828)) : w.heap.size ≤ gb859)); have GE859 := Aside0.mk ((by rw [hg]; exact (below_size (bl2 HB GE823 GE828)) : w.heap.size ≤ gb859)); replace HB := Aside0.mk (below_step (bl2 HB GE823 GE828) hb); have NB823_859 := Aside0.mk ((by rw [hg]; exact Nat.ne_of_lt (blk_lt (bk BK823)) : gb823 ≠ gb859)); have NB859_823 := Aside0.mk ((by rw [hg]; exact Nat.ne_of_gt (blk_lt (bk BK823)) : gb859 ≠ gb823)); replace BK823 := Aside0.mk (blk_below (bk BK823) hb); have NB828_859 := Aside0.mk ((by rw [hg]; exact Nat.ne_of_lt (blk_lt (bk BK828)) : gb828 ≠ gb859)); have NB859_828 := Aside0.mk ((by rw [hg]; exact Nat.ne_of_gt (blk_lt (bk BK828)) : gb859 ≠ gb828)); replace BK828 := Aside0.mk (blk_below (bk BK828) hb); clear hb hbox hg; have hnb96 := NB859_823.out; have hnc96 := NB823_859.out; have hnb97 := NB859_828.out; have hnc97 := NB828_859.out; have hcz98_0 := bc w95 BK859 0 (.int .i64 0) rfl; have hcz98_1 := bc w95 BK859 1 (.int .i64 0) rfl; have hcz98_2 := bc w95 BK859 2 (.int .i64 0) rfl; have hcz98_3 := bc w95 BK859 3 (.int .i64 0) rfl; have hcz98_4 := bc w95 BK859 4 (.int .i64 0) rfl; have hfz98_0 := fz BK859 0; have hfz98_1 := fz BK859 1; have hfz98_2 := fz BK859 2; have hfz98_3 := fz BK859 3; have hfz98_4 := fz BK859 4))
    have n0_ : Aside0 (Kd.R k31 31 ((((((w95.setCell ⟨gb859, 0, none⟩ (.int .i64 ((rd_T31 t817 x6_2).f0))).setCell ⟨gb859, 1, none⟩ (.int .i64 ((rd_T31 t817 x6_2).f1))).setCell ⟨gb859, 2, none⟩ (.int .i64 ((rd_T31 t817 x6_2).f2))).setCell ⟨gb859, 3, none⟩ (.int .i64 ((rd_T31 t817 x6_2).f3))).setCell ⟨gb859, 4, none⟩ (.int .i64 ((rd_T31 t817 x6_2).f4))).setCell ⟨gb859, 2, none⟩ (.int .i64 x8_3)) w.heap.size (fun k_ => some k_ ≠ (.slice Ao15 t825.length co15 : Value).ownBlock ∧ k_ ≠ gb859) (.slice (some ad850) t817.length co9) t817) := ⟨by (with_reducible repeat (first | apply Kd.R_alloc | apply Kd.R_drewN | apply Kd.R_drew)); exact Kd.R_mono (Kd.R_far (p := ⟨gb859, 2, none⟩) (Kd.R_far (p := ⟨gb859, 4, none⟩) (Kd.R_far (p := ⟨gb859, 3, none⟩) (Kd.R_far (p := ⟨gb859, 2, none⟩) (Kd.R_far (p := ⟨gb859, 1, none⟩) (Kd.R_far (p := ⟨gb859, 0, none⟩) (Kd.R_mono HO_824001.out (fun k_ hk => (⟨hk, hk.2⟩ : _ ∧ k_ ≠ gb859))) (fun _ hk => hk.2) (.int .i64 ((rd_T31 t817 x6_2).f0))) (fun _ hk => hk.2) (.int .i64 ((rd_T31 t817 x6_2).f1))) (fun _ hk => hk.2) (.int .i64 ((rd_T31 t817 x6_2).f2))) (fun _ hk => hk.2) (.int .i64 ((rd_T31 t817 x6_2).f3))) (fun _ hk => hk.2) (.int .i64 ((rd_T31 t817 x6_2).f4))) (fun _ hk => hk.2) (.int .i64 x8_3)) (fun _ hk => ⟨hk.1.1, hk.1.2⟩)⟩
    have n1_ : Aside0 (Kd.R k64 64 ((((((w95.setCell ⟨gb859, 0, none⟩ (.int .i64 ((rd_T31 t817 x6_2).f0))).setCell ⟨gb859, 1, none⟩ (.int .i64 ((rd_T31 t817 x6_2).f1))).setCell ⟨gb859, 2, none⟩ (.int .i64 ((rd_T31 t817 x6_2).f2))).setCell ⟨gb859, 3, none⟩ (.int .i64 ((rd_T31 t817 x6_2).f3))).setCell ⟨gb859, 4, none⟩ (.int .i64 ((rd_T31 t817 x6_2).f4))).setCell ⟨gb859, 2, none⟩ (.int .i64 x8_3)) w.heap.size (fun _ => True) (.slice Ao10 t820.length co10) t820) := ⟨by (with_reducible repeat (first | apply Kd.R_alloc | apply Kd.R_drewN | apply Kd.R_drew)); exact Kd.R_mono (Kd.R_far (p := ⟨gb859, 2, none⟩) (Kd.R_far (p := ⟨gb859, 4, none⟩) (Kd.R_far (p := ⟨gb859, 3, none⟩) (Kd.R_far (p := ⟨gb859, 2, none⟩) (Kd.R_far (p := ⟨gb859, 1, none⟩) (Kd.R_far (p := ⟨gb859, 0, none⟩) (Kd.R_types HO_824002.out BK859.out (by decide)) (fun _ hk => hk.2) (.int .i64 ((rd_T31 t817 x6_2).f0))) (fun _ hk => hk.2) (.int .i64 ((rd_T31 t817 x6_2).f1))) (fun _ hk => hk.2) (.int .i64 ((rd_T31 t817 x6_2).f2))) (fun _ hk => hk.2) (.int .i64 ((rd_T31 t817 x6_2).f3))) (fun _ hk => hk.2) (.int .i64 ((rd_T31 t817 x6_2).f4))) (fun _ hk => hk.2) (.int .i64 x8_3)) (fun _ hk => trivial)⟩
    have n2_ : Aside0 (Kd.R k31 31 ((((((w95.setCell ⟨gb859, 0, none⟩ (.int .i64 ((rd_T31 t817 x6_2).f0))).setCell ⟨gb859, 1, none⟩ (.int .i64 ((rd_T31 t817 x6_2).f1))).setCell ⟨gb859, 2, none⟩ (.int .i64 ((rd_T31 t817 x6_2).f2))).setCell ⟨gb859, 3, none⟩ (.int .i64 ((rd_T31 t817 x6_2).f3))).setCell ⟨gb859, 4, none⟩ (.int .i64 ((rd_T31 t817 x6_2).f4))).setCell ⟨gb859, 2, none⟩ (.int .i64 x8_3)) w.heap.size (fun k_ => some k_ ≠ (.slice (some ad850) t817.length co9 : Value).ownBlock ∧ k_ ≠ gb859) (.slice Ao15 t825.length co15) t825) := ⟨by (with_reducible repeat (first | apply Kd.R_alloc | apply Kd.R_drewN | apply Kd.R_drew)); exact Kd.R_mono (Kd.R_far (p := ⟨gb859, 2, none⟩) (Kd.R_far (p := ⟨gb859, 4, none⟩) (Kd.R_far (p := ⟨gb859, 3, none⟩) (Kd.R_far (p := ⟨gb859, 2, none⟩) (Kd.R_far (p := ⟨gb859, 1, none⟩) (Kd.R_far (p := ⟨gb859, 0, none⟩) (Kd.R_mono HO_829001.out (fun k_ hk => (⟨hk, hk.2⟩ : _ ∧ k_ ≠ gb859))) (fun _ hk => hk.2) (.int .i64 ((rd_T31 t817 x6_2).f0))) (fun _ hk => hk.2) (.int .i64 ((rd_T31 t817 x6_2).f1))) (fun _ hk => hk.2) (.int .i64 ((rd_T31 t817 x6_2).f2))) (fun _ hk => hk.2) (.int .i64 ((rd_T31 t817 x6_2).f3))) (fun _ hk => hk.2) (.int .i64 ((rd_T31 t817 x6_2).f4))) (fun _ hk => hk.2) (.int .i64 x8_3)) (fun _ hk => ⟨hk.1.1, hk.1.2⟩)⟩
    have n3_ : Aside0 (((((((w95.setCell ⟨gb859, 0, none⟩ (.int .i64 ((rd_T31 t817 x6_2).f0))).setCell ⟨gb859, 1, none⟩ (.int .i64 ((rd_T31 t817 x6_2).f1))).setCell ⟨gb859, 2, none⟩ (.int .i64 ((rd_T31 t817 x6_2).f2))).setCell ⟨gb859, 3, none⟩ (.int .i64 ((rd_T31 t817 x6_2).f3))).setCell ⟨gb859, 4, none⟩ (.int .i64 ((rd_T31 t817 x6_2).f4))).setCell ⟨gb859, 2, none⟩ (.int .i64 x8_3)).heap[gb823]? = some (.cells #[.int .i64 t816, .slice (some ad850) t817.length co9, .slice Ao10 t820.length co10] 57 (0, 0))) := ⟨by (with_reducible repeat (first | refine blk_drewN ?_ _ | refine blk_drew ?_ | refine blk_alloc ?_ _)); refine blk_far ?_ NB823_859.out _; refine blk_far ?_ NB823_859.out _; refine blk_far ?_ NB823_859.out _; refine blk_far ?_ NB823_859.out _; refine blk_far ?_ NB823_859.out _; refine blk_far ?_ NB823_859.out _; (with_reducible repeat (first | refine blk_drewN ?_ _ | refine blk_drew ?_ | refine blk_alloc ?_ _)); exact BK823.out⟩
    have n4_ : Aside0 (((((((w95.setCell ⟨gb859, 0, none⟩ (.int .i64 ((rd_T31 t817 x6_2).f0))).setCell ⟨gb859, 1, none⟩ (.int .i64 ((rd_T31 t817 x6_2).f1))).setCell ⟨gb859, 2, none⟩ (.int .i64 ((rd_T31 t817 x6_2).f2))).setCell ⟨gb859, 3, none⟩ (.int .i64 ((rd_T31 t817 x6_2).f3))).setCell ⟨gb859, 4, none⟩ (.int .i64 ((rd_T31 t817 x6_2).f4))).setCell ⟨gb859, 2, none⟩ (.int .i64 x8_3)).heap[gb828]? = some (.cells #[.int .i64 t824, .slice Ao15 t825.length co15] 25 (0, 0))) := ⟨by (with_reducible repeat (first | refine blk_drewN ?_ _ | refine blk_drew ?_ | refine blk_alloc ?_ _)); refine blk_far ?_ NB828_859.out _; refine blk_far ?_ NB828_859.out _; refine blk_far ?_ NB828_859.out _; refine blk_far ?_ NB828_859.out _; refine blk_far ?_ NB828_859.out _; refine blk_far ?_ NB828_859.out _; (with_reducible repeat (first | refine blk_drewN ?_ _ | refine blk_drew ?_ | refine blk_alloc ?_ _)); exact BK828.out⟩
    have n5_ : Aside0 (((((((w95.setCell ⟨gb859, 0, none⟩ (.int .i64 ((rd_T31 t817 x6_2).f0))).setCell ⟨gb859, 1, none⟩ (.int .i64 ((rd_T31 t817 x6_2).f1))).setCell ⟨gb859, 2, none⟩ (.int .i64 ((rd_T31 t817 x6_2).f2))).setCell ⟨gb859, 3, none⟩ (.int .i64 ((rd_T31 t817 x6_2).f3))).setCell ⟨gb859, 4, none⟩ (.int .i64 ((rd_T31 t817 x6_2).f4))).setCell ⟨gb859, 2, none⟩ (.int .i64 x8_3)).heap[gb859]? = some (.cells #[.int .i64 ((rd_T31 t817 x6_2).f0), .int .i64 ((rd_T31 t817 x6_2).f1), .int .i64 x8_3, .int .i64 ((rd_T31 t817 x6_2).f3), .int .i64 ((rd_T31 t817 x6_2).f4)] 31 (0, 0))) := ⟨by (with_reducible repeat (first | refine blk_drewN ?_ _ | refine blk_drew ?_ | refine blk_alloc ?_ _)); refine blk_put (cs := #[.int .i64 ((rd_T31 t817 x6_2).f0), .int .i64 ((rd_T31 t817 x6_2).f1), .int .i64 ((rd_T31 t817 x6_2).f2), .int .i64 ((rd_T31 t817 x6_2).f3), .int .i64 ((rd_T31 t817 x6_2).f4)]) ?_ 2 _ rfl; refine blk_put (cs := #[.int .i64 ((rd_T31 t817 x6_2).f0), .int .i64 ((rd_T31 t817 x6_2).f1), .int .i64 ((rd_T31 t817 x6_2).f2), .int .i64 ((rd_T31 t817 x6_2).f3), .int .i64 0]) ?_ 4 _ rfl; refine blk_put (cs := #[.int .i64 ((rd_T31 t817 x6_2).f0), .int .i64 ((rd_T31 t817 x6_2).f1), .int .i64 ((rd_T31 t817 x6_2).f2), .int .i64 0, .int .i64 0]) ?_ 3 _ rfl; refine blk_put (cs := #[.int .i64 ((rd_T31 t817 x6_2).f0), .int .i64 ((rd_T31 t817 x6_2).f1), .int .i64 0, .int .i64 0, .int .i64 0]) ?_ 2 _ rfl; refine blk_put (cs := #[.int .i64 ((rd_T31 t817 x6_2).f0), .int .i64 0, .int .i64 0, .int .i64 0, .int .i64 0]) ?_ 1 _ rfl; refine blk_put (cs := #[.int .i64 0, .int .i64 0, .int .i64 0, .int .i64 0, .int .i64 0]) ?_ 0 _ rfl; (with_reducible repeat (first | refine blk_drewN ?_ _ | refine blk_drew ?_ | refine blk_alloc ?_ _)); exact BK859.out⟩
    have n6_ : Aside0 (Below w.heap.size w ((((((w95.setCell ⟨gb859, 0, none⟩ (.int .i64 ((rd_T31 t817 x6_2).f0))).setCell ⟨gb859, 1, none⟩ (.int .i64 ((rd_T31 t817 x6_2).f1))).setCell ⟨gb859, 2, none⟩ (.int .i64 ((rd_T31 t817 x6_2).f2))).setCell ⟨gb859, 3, none⟩ (.int .i64 ((rd_T31 t817 x6_2).f3))).setCell ⟨gb859, 4, none⟩ (.int .i64 ((rd_T31 t817 x6_2).f4))).setCell ⟨gb859, 2, none⟩ (.int .i64 x8_3))) := ⟨bl3 HB GE823 GE828 GE859⟩
    (try clear HO_824001)
    (try clear HO_824002)
    (try clear HO_829001)
    (try clear BK823)
    (try clear BK828)
    (try clear BK859)
    (try clear HB)
    generalize ((((((w95.setCell ⟨gb859, 0, none⟩ (.int .i64 ((rd_T31 t817 x6_2).f0))).setCell ⟨gb859, 1, none⟩ (.int .i64 ((rd_T31 t817 x6_2).f1))).setCell ⟨gb859, 2, none⟩ (.int .i64 ((rd_T31 t817 x6_2).f2))).setCell ⟨gb859, 3, none⟩ (.int .i64 ((rd_T31 t817 x6_2).f3))).setCell ⟨gb859, 4, none⟩ (.int .i64 ((rd_T31 t817 x6_2).f4))).setCell ⟨gb859, 2, none⟩ (.int .i64 x8_3)) = w99 at n0_ n1_ n2_ n3_ n4_ n5_ n6_ ⊢
    have HO_824001 := n0_
    have HO_824002 := n1_
    have HO_829001 := n2_
    have BK823 := n3_
    have BK828 := n4_
    have BK859 := n5_
    have HB := n6_
    clear n0_ n1_ n2_ n3_ n4_ n5_ n6_
    replace HO_824001 := Aside0.mk (Kd.R_drew HO_824001.out)
    replace HO_824002 := Aside0.mk (Kd.R_drew HO_824002.out)
    replace HO_829001 := Aside0.mk (Kd.R_drew HO_829001.out)
    replace BK823 := Aside0.mk (blk_drew BK823.out)
    replace BK828 := Aside0.mk (blk_drew BK828.out)
    replace BK859 := Aside0.mk (blk_drew BK859.out)
    replace HB := Aside0.mk (below_drew1 HB.out)
    have p860 : 0 ≤ (x5_2 : Int) := oT (by first | (with_reducible assumption) | assumption)
    have q860 : x5_2 < (t825.length : Int) := oT (by first | (with_reducible assumption) | assumption)
    obtain ⟨ad860, e860, hx860_0, hx860_1, hx860_2, hx860_3, hx860_4⟩ := at_T31 (Kd.R_reads' HO_829001.out).2.2 x5_2 p860 q860
    cases e860
    replace p860 := eq_true p860
    replace q860 := eq_true q860
    refine start_ (n := 14) (S := fun w' => w'.cell? ⟨gb828, 0, none⟩ = some (.int .i64 t824) ∧ w'.cell? ⟨gb828, 1, none⟩ = some (.slice (some ad860) t825.length co15) ∧ w'.cell? ⟨gb859, 0, none⟩ = some (.int .i64 ((rd_T31 t817 x6_2).f0)) ∧ w'.cell? ⟨gb859, 1, none⟩ = some (.int .i64 ((rd_T31 t817 x6_2).f1)) ∧ w'.cell? ⟨gb859, 2, none⟩ = some (.int .i64 x8_3) ∧ w'.cell? ⟨gb859, 3, none⟩ = some (.int .i64 ((rd_T31 t817 x6_2).f3)) ∧ w'.cell? ⟨gb859, 4, none⟩ = some (.int .i64 ((rd_T31 t817 x6_2).f4)) ∧ w'.cell? (ad860.add ((x5_2).toNat * 5)) = some (.int .i64 ((rd_T31 t825 x5_2).f0)) ∧ w'.cell? ⟨(ad860.add ((x5_2).toNat * 5)).block, (ad860.add ((x5_2).toNat * 5)).off + 1, none⟩ = some (.int .i64 ((rd_T31 t825 x5_2).f1)) ∧ w'.cell? ⟨(ad860.add ((x5_2).toNat * 5)).block, (ad860.add ((x5_2).toNat * 5)).off + 2, none⟩ = some (.int .i64 ((rd_T31 t825 x5_2).f2)) ∧ w'.cell? ⟨(ad860.add ((x5_2).toNat * 5)).block, (ad860.add ((x5_2).toNat * 5)).off + 3, none⟩ = some (.int .i64 ((rd_T31 t825 x5_2).f3)) ∧ w'.cell? ⟨(ad860.add ((x5_2).toNat * 5)).block, (ad860.add ((x5_2).toNat * 5)).off + 4, none⟩ = some (.int .i64 ((rd_T31 t825 x5_2).f4))) (ds := []) (ms 14 0) (by kernel_rfl) rfl (by kernel_rfl) ⟨(blk_cell BK828.out 0).trans rfl, (blk_cell BK828.out 1).trans rfl, (blk_cell BK859.out 0).trans rfl, (blk_cell BK859.out 1).trans rfl, (blk_cell BK859.out 2).trans rfl, (blk_cell BK859.out 3).trans rfl, (blk_cell BK859.out 4).trans rfl, hx860_0, hx860_1, hx860_2, hx860_3, hx860_4⟩ (fun hHeld => ?_); refine with_tabW laws_FnLiveNow.tab24 laws_FnLiveNow.bits24 (fun HT_ HW_ => ?_)
    generalize w99.drew = w100 at HO_824001 HO_824002 HO_829001 BK823 BK828 BK859 HB hx860_0 hx860_1 hx860_2 hx860_3 hx860_4 hHeld ⊢
    refine pu 0 105 ?_ (ms 14 1) rfl rfl HT_ (by kernel_rfl) (fun _ _ _ h => h) (by rfl) ?_ ?_ ?_ ?_
    rotate_left
    ·intro w'
     go_simp
     with_reducible rfl
    rotate_left
    ·simp only [SX]
     rfl
    refine pu 1 106 ?_ (ms 14 3) rfl rfl HT_ (by kernel_rfl) (fun _ _ _ h => h) (by rfl) ?_ ?_ ?_ ?_
    rotate_left
    ·intro w'
     go_simp
     with_reducible rfl
    rotate_left
    ·simp only [SX]
     rfl
    refine tk 2 107 ?_ (ms 14 7) rfl rfl HT_ HW_ (by kernel_rfl) (fun _ _ _ h => h) (by rfl) ?_ hHeld ?_ ?_ ?_
    rotate_left
    ·rintro w' ⟨s0, s1, s2, s3, s4, s5, s6, s7, s8, s9, s10, s11⟩
     go_simp
     with_reducible rfl
    rotate_left
    ·simp only [SX]
     rfl
    refine pu 3 108 ?_ (ms 14 15) rfl rfl HT_ (by kernel_rfl) (fun _ _ _ h => h) (by rfl) ?_ ?_ ?_ ?_
    rotate_left
    ·intro w'
     go_simp
     with_reducible rfl
    rotate_left
    ·simp only [SX]
     rfl
    refine pu 4 109 ?_ (ms 14 31) rfl rfl HT_ (by kernel_rfl) (fun _ _ _ h => h) (by rfl) ?_ ?_ ?_ ?_
    rotate_left
    ·intro w'
     go_simp
     with_reducible rfl
    rotate_left
    ·simp only [SX]
     rfl
    refine pu 5 110 ?_ (ms 14 63) rfl rfl HT_ (by kernel_rfl) (fun _ _ _ h => h) (by rfl) ?_ ?_ ?_ ?_
    rotate_left
    ·intro w'
     go_simp
     with_reducible rfl
    rotate_left
    ·simp only [SX]
     rfl
    refine pu 6 111 ?_ (ms 14 127) rfl rfl HT_ (by kernel_rfl) (fun _ _ _ h => h) (by rfl) ?_ ?_ ?_ ?_
    rotate_left
    ·intro w'
     go_simp
     with_reducible rfl
    rotate_left
    ·simp only [SX]
     rfl
    refine pu 8 113 ?_ (ms 14 383) rfl rfl HT_ (by kernel_rfl) (fun _ _ _ h => h) (by rfl) ?_ ?_ ?_ ?_
    rotate_left
    ·intro w'
     go_simp
     with_reducible rfl
    rotate_left
    ·simp only [SX]
     rfl
    refine tk 7 112 ?_ (ms 14 511) rfl rfl HT_ HW_ (by kernel_rfl) (fun _ _ _ h => h) (by rfl) ?_ hHeld ?_ ?_ ?_
    rotate_left
    ·rintro w' ⟨s0, s1, s2, s3, s4, s5, s6, s7, s8, s9, s10, s11⟩
     go_simp
     with_reducible rfl
    rotate_left
    ·simp only [SX]
     rfl
    refine pu 9 114 ?_ (ms 14 1023) rfl rfl HT_ (by kernel_rfl) (fun _ _ _ h => h) (by rfl) ?_ ?_ ?_ ?_
    rotate_left
    ·intro w'
     go_simp
     with_reducible rfl
    rotate_left
    ·simp only [SX]
     rfl
    refine tk 10 115 ?_ (ms 14 2047) rfl rfl HT_ HW_ (by kernel_rfl) (fun _ _ _ h => h) (by rfl) ?_ hHeld ?_ ?_ ?_
    rotate_left
    ·rintro w' ⟨s0, s1, s2, s3, s4, s5, s6, s7, s8, s9, s10, s11⟩
     go_simp
     with_reducible rfl
    rotate_left
    ·simp only [SX]
     rfl
    refine tk 11 116 ?_ (ms 14 4095) rfl rfl HT_ HW_ (by kernel_rfl) (fun _ _ _ h => h) (by rfl) ?_ hHeld ?_ ?_ ?_
    rotate_left
    ·rintro w' ⟨s0, s1, s2, s3, s4, s5, s6, s7, s8, s9, s10, s11⟩
     go_simp
     with_reducible rfl
    rotate_left
    ·simp only [SX]
     rfl
    refine pu 12 117 ?_ (ms 14 8191) rfl rfl HT_ (by kernel_rfl) (fun _ _ _ h => h) (by rfl) ?_ ?_ ?_ ?_
    rotate_left
    ·intro w'
     go_simp
     with_reducible rfl
    rotate_left
    ·simp only [SX]
     rfl
    refine pu 13 118 ?_ (ms 14 16383) rfl rfl HT_ (by kernel_rfl) (fun _ _ _ h => h) (by rfl) ?_ ?_ ?_ ?_
    rotate_left
    ·intro w'
     go_simp
     with_reducible rfl
    rotate_left
    ·simp only [SX]
     rfl
    refine done_ (done_of HT_.out (by kernel_rfl)) ?_
    try go_wp2
    go_roundg k3
    case measure => have := HJ4.out; have := HK2.out; have := HK3.out; omega
    case rel => exact ⟨(wrap64 (x5_2 + 1)), (wrap64 (x6_2 + 1)), (by first | rfl | (simp; done) | (simp [*]; done)), (by first | rfl | (simp; done) | (simp [*]; done)), H', ⟨by have := HJ4.out; have := HK2.out; have := HK3.out; omega⟩, ⟨by (with_reducible repeat (first | apply Kd.R_alloc | apply Kd.R_drewN | apply Kd.R_drew)); exact Kd.R_mono HO_824001.out (fun _ hk => hk.1)⟩, ⟨rk HO_824002⟩, ⟨by (with_reducible repeat (first | apply Kd.R_alloc | apply Kd.R_drewN | apply Kd.R_drew)); exact Kd.R_mono HO_829001.out (fun _ hk => hk.1)⟩, ⟨bk BK823⟩, ⟨bk BK828⟩, ⟨bl3 HB GE823 GE828 GE859⟩⟩

/-- THE ONE PURE STATEMENT of laws_FnLiveNow: yours. -/
def laws_FnLiveNow.Pure : Prop := ∀ (l0 : List Int), l0.length ≤ maxLen → l0.length * 1 ≤ 140737488351232 → (∀ x ∈ l0, (Lit.int .u8 x).wf = true) → ∃ k, laws_FnLiveNow.f k l0 = some true
theorem laws_FnLiveNow.walk (P : laws_FnLiveNow.Pure) (a0 : Option Addr) (len0 cap0 : Nat) (z0 : List Int) (w : World) (w0 : (a0 = none ∧ len0 = 0 ∧ cap0 = 0 ∧ z0 = []) ∨ ∃ x, a0 = some x ∧ len0 ≤ cap0 ∧ cap0 ≤ maxLen ∧ z0.length = cap0 ∧ (∀ i, i < z0.length → w.cell? (x.add i) = some (.int .u8 (z0.getD i 0))) ∧ ∀ n ∈ z0, (Lit.int .u8 n).wf = true) (y0 : len0 * 1 ≤ 140737488351232) :
  Calls Try.prog 8 #[.slice a0 len0 cap0] w fun e w' => e = .returned (.bool true) ∧ Below w.heap.size w w' := by
 obtain ⟨l0, rfl, hr0, hm0, hw0, hc0⟩ := ReadsInt.ofRowC w0
 obtain ⟨k, h⟩ := P l0 hm0 y0 hw0
 refine (laws_FnLiveNow.calls k _ _ l0 true w (Kd.C_of_reads (d := (0 : Int)) (h1 := fun _ => rfl) hr0) hc0 h rfl).mono ?_
 rintro e w' ⟨rfl, hd⟩
 exact ⟨rfl, hd⟩

end Go.Proofs.Ythgihpbpebbebaa.F
