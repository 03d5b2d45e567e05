-- Printed by wip/px/px.py of this claim's repository (the kit's printer, extended there). Lean checks it.
import Derived.Test.YtbcedkcjodokkaaFKinds
import Derived.Test.YtbcedkcjodokkaaFEq30
import Derived.Test.YtbcedkcjodokkaaFspecLiveTell
import Derived.Test.YtbcedkcjodokkaaFspecDrawLiveTell
import Derived.Test.YtbcedkcjodokkaaFimplLiveOk
import Derived.Test.YtbcedkcjodokkaaFimplLiveTell
import Derived.Test.YtbcedkcjodokkaaFlawswkLive
namespace Go.Proofs.Ytbcedkcjodokkaa.F
open Go.RowKit Go.Proofs.YtbcedkcjodokkaaW.PrintWords Go.Proofs.YtbcedkcjodokkaaW.PrintLast Go.Proofs.YtbcedkcjodokkaaW.PrintMore
attribute [local go_sem] max2_int min2_int max_two min_two max_three min_three max_four min_four   -- for this text's walks alone
set_option linter.unusedVariables false
set_option linter.unusedSimpArgs false

attribute [local go_sem high] eqA30
/-! ### laws_FnLiveTell: function 4 -/
mutual
def laws_FnLiveTell.j0 : Nat → Bool → Bool → Bool → Int → List (S65) → List (S30) → Int → Int → Int → Int → List (S65) → List (S30) → Int → List (S65) → List (S30) → Option (Bool)
 | 0, _, _, _, _, _, _, _, _, _, _, _, _, _, _, _ => none
 | k + 1, x6, x8, x48, x475000, x475001, x475002, x476000, x476001, x476002, x485000, x485001, x485002, x494000, x494001, x494002 => if x48 = true then (if (x6 == x8) = true then ((laws_wkLive.f k x485000 x485001 x485002 x494000 x494001 x494002).bind fun t496 => (some t496)) else (some false)) else (if x6 = true then (laws_FnLiveTell.l0 k false 0 0 x475000 x475001 x475002 x476000 x476001 x476002 x485000 x485001 x485002) else ((laws_wkLive.f k x485000 x485001 x485002 x475000 x475001 x475002).bind fun t497 => (some t497)))
def laws_FnLiveTell.l0 : Nat → Bool → Int → Int → Int → List (S65) → List (S30) → Int → Int → Int → Int → List (S65) → List (S30) → Option (Bool)
 | 0, _, _, _, _, _, _, _, _, _, _, _, _ => none
 | k + 1, x9, x10, x11, x475000, x475001, x475002, x476000, x476001, x476002, x485000, x485001, x485002 => if x11 < (x485002.length : Int) then (if x9 = true then (laws_FnLiveTell.j2 k true x10 x11 x475000 x475001 x475002 x476000 x476001 x476002 x485000 x485001 x485002) else (if 0 ≤ x11 then (laws_FnLiveTell.j2 k (((rd_T30 x485002 x11).f0) == x476000 && (((rd_T30 x485002 x11).f1) == x476001 && (((rd_T30 x485002 x11).f2) == x476002))) x10 x11 x475000 x475001 x475002 x476000 x476001 x476002 x485000 x485001 x485002) else (none))) else ((impl_LiveTell.f k x485000 x485001 x485002 x476000 x476001 x476002).bind fun bt498 => ((impl_LiveOk.f k x485000 x485001 x485002).bind fun t507 => (if t507 = true then (if x9 = true then (if x10 = (wrap64 ((x485002.length : Int) - 1)) then (if bt498.2.2.2 = true then ((laws_wkLive.f k bt498.1 bt498.2.1 bt498.2.2.1 x485000 x485001 x485002).bind fun t508 => (some t508)) else (some false)) else (some false)) else (some false)) else (some false))))
def laws_FnLiveTell.j2 : Nat → Bool → Int → Int → Int → List (S65) → List (S30) → Int → Int → Int → Int → List (S65) → List (S30) → Option (Bool)
 | 0, _, _, _, _, _, _, _, _, _, _, _, _ => none
 | k + 1, x9, x10, x11, x475000, x475001, x475002, x476000, x476001, x476002, x485000, x485001, x485002 => laws_FnLiveTell.l1 k x9 x10 x11 0 x475000 x475001 x475002 x476000 x476001 x476002 x485000 x485001 x485002
def laws_FnLiveTell.l1 : Nat → Bool → Int → Int → Int → Int → List (S65) → List (S30) → Int → Int → Int → Int → List (S65) → List (S30) → Option (Bool)
 | 0, _, _, _, _, _, _, _, _, _, _, _, _, _ => none
 | k + 1, x9, x10, x11, x12, x475000, x475001, x475002, x476000, x476001, x476002, x485000, x485001, x485002 => if x12 < (x475002.length : Int) then (if 0 ≤ x11 then (if x11 < (x485002.length : Int) then (if 0 ≤ x12 then (if (((rd_T30 x485002 x11).f0) == ((rd_T30 x475002 x12).f0) && (((rd_T30 x485002 x11).f1) == ((rd_T30 x475002 x12).f1) && (((rd_T30 x485002 x11).f2) == ((rd_T30 x475002 x12).f2)))) = true then (if ((rd_T30 x485002 x11).f0) = x476000 then (laws_FnLiveTell.l1 k x9 x10 x11 (wrap64 (x12 + 1)) x475000 x475001 x475002 x476000 x476001 x476002 x485000 x485001 x485002) else (laws_FnLiveTell.l1 k x9 (wrap64 (x10 + 1)) x11 (wrap64 (x12 + 1)) x475000 x475001 x475002 x476000 x476001 x476002 x485000 x485001 x485002)) else (laws_FnLiveTell.l1 k x9 x10 x11 (wrap64 (x12 + 1)) x475000 x475001 x475002 x476000 x476001 x476002 x485000 x485001 x485002)) else (none)) else (none)) else (none)) else (laws_FnLiveTell.l0 k x9 x10 (wrap64 (x11 + 1)) x475000 x475001 x475002 x476000 x476001 x476002 x485000 x485001 x485002)
end
def laws_FnLiveTell.f (k : Nat) (l0 : List Int) : Option (Bool) := if (l0.length : Int) > 1048576 then (some true) else ((spec_DrawLiveTell.f k l0).bind fun bt464 => ((impl_LiveTell.f k bt464.1 bt464.2.1 bt464.2.2.1 bt464.2.2.2.1 bt464.2.2.2.2.1 bt464.2.2.2.2.2).bind fun bt476 => ((spec_LiveTell.f k bt464.1 bt464.2.1 bt464.2.2.1 bt464.2.2.2.1 bt464.2.2.2.2.1 bt464.2.2.2.2.2).bind fun bt485 => (if (bt476.2.2.2 != bt485.2.2.2) = true then (laws_FnLiveTell.j0 k bt476.2.2.2 bt485.2.2.2 true bt464.1 bt464.2.1 bt464.2.2.1 bt464.2.2.2.1 bt464.2.2.2.2.1 bt464.2.2.2.2.2 bt476.1 bt476.2.1 bt476.2.2.1 bt485.1 bt485.2.1 bt485.2.2.1) else ((laws_wkLive.f k bt476.1 bt476.2.1 bt476.2.2.1 bt485.1 bt485.2.1 bt485.2.2.1).bind fun t494 => (if t494 = true then ((impl_LiveOk.f k bt464.1 bt464.2.1 bt464.2.2.1).bind fun t495 => (laws_FnLiveTell.j0 k bt476.2.2.2 bt485.2.2.2 (!t495) bt464.1 bt464.2.1 bt464.2.2.1 bt464.2.2.2.1 bt464.2.2.2.2.1 bt464.2.2.2.2.2 bt476.1 bt476.2.1 bt476.2.2.1 bt485.1 bt485.2.1 bt485.2.2.1)) else (laws_FnLiveTell.j0 k bt476.2.2.2 bt485.2.2.2 true bt464.1 bt464.2.1 bt464.2.2.1 bt464.2.2.2.1 bt464.2.2.2.2.1 bt464.2.2.2.2.2 bt476.1 bt476.2.1 bt476.2.2.1 bt485.1 bt485.2.1 bt485.2.2.1)))))))
theorem laws_FnLiveTell.mono_l : ∀ k, (∀ y0 y1 y2 y3 y4 y5 y6 y7 y8 y9 y10 y11 y12 y13 y14, LeO (laws_FnLiveTell.j0 k y0 y1 y2 y3 y4 y5 y6 y7 y8 y9 y10 y11 y12 y13 y14) (laws_FnLiveTell.j0 (k + 1) y0 y1 y2 y3 y4 y5 y6 y7 y8 y9 y10 y11 y12 y13 y14)) ∧ (∀ y0 y1 y2 y3 y4 y5 y6 y7 y8 y9 y10 y11, LeO (laws_FnLiveTell.l0 k y0 y1 y2 y3 y4 y5 y6 y7 y8 y9 y10 y11) (laws_FnLiveTell.l0 (k + 1) y0 y1 y2 y3 y4 y5 y6 y7 y8 y9 y10 y11)) ∧ (∀ y0 y1 y2 y3 y4 y5 y6 y7 y8 y9 y10 y11, LeO (laws_FnLiveTell.j2 k y0 y1 y2 y3 y4 y5 y6 y7 y8 y9 y10 y11) (laws_FnLiveTell.j2 (k + 1) y0 y1 y2 y3 y4 y5 y6 y7 y8 y9 y10 y11)) ∧ (∀ y0 y1 y2 y3 y4 y5 y6 y7 y8 y9 y10 y11 y12, LeO (laws_FnLiveTell.l1 k y0 y1 y2 y3 y4 y5 y6 y7 y8 y9 y10 y11 y12) (laws_FnLiveTell.l1 (k + 1) y0 y1 y2 y3 y4 y5 y6 y7 y8 y9 y10 y11 y12))
 | 0 => ⟨fun _ _ _ _ _ _ _ _ _ _ _ _ _ _ _ r h => by simp [laws_FnLiveTell.j0] at h, fun _ _ _ _ _ _ _ _ _ _ _ _ r h => by simp [laws_FnLiveTell.l0] at h, fun _ _ _ _ _ _ _ _ _ _ _ _ r h => by simp [laws_FnLiveTell.j2] at h, fun _ _ _ _ _ _ _ _ _ _ _ _ _ r h => by simp [laws_FnLiveTell.l1] at h⟩
 | k + 1 => by
  obtain ⟨ih0, ih1, ih2, ih3⟩ := laws_FnLiveTell.mono_l k
  refine ⟨?_, ?_, ?_, ?_⟩
  ·intro y0 y1 y2 y3 y4 y5 y6 y7 y8 y9 y10 y11 y12 y13 y14
   unfold laws_FnLiveTell.j0
   repeat' first | (with_reducible exact ih1 _ _ _ _ _ _ _ _ _ _ _ _) | (with_reducible exact laws_wkLive.mono _ _ _ _ _ _ _) | (with_reducible exact LeO.refl _) | (with_reducible refine LeO.ite ?_ ?_) | (with_reducible refine LeO.bind ?_ (fun _ => ?_))
  ·intro y0 y1 y2 y3 y4 y5 y6 y7 y8 y9 y10 y11
   unfold laws_FnLiveTell.l0
   repeat' first | (with_reducible exact ih2 _ _ _ _ _ _ _ _ _ _ _ _) | (with_reducible exact impl_LiveOk.mono _ _ _ _) | (with_reducible exact impl_LiveTell.mono _ _ _ _ _ _ _) | (with_reducible exact laws_wkLive.mono _ _ _ _ _ _ _) | (with_reducible exact LeO.refl _) | (with_reducible refine LeO.ite ?_ ?_) | (with_reducible refine LeO.bind ?_ (fun _ => ?_))
  ·intro y0 y1 y2 y3 y4 y5 y6 y7 y8 y9 y10 y11
   unfold laws_FnLiveTell.j2
   repeat' (with_reducible exact ih3 _ _ _ _ _ _ _ _ _ _ _ _ _)
  ·intro y0 y1 y2 y3 y4 y5 y6 y7 y8 y9 y10 y11 y12
   unfold laws_FnLiveTell.l1
   repeat' first | (with_reducible exact ih1 _ _ _ _ _ _ _ _ _ _ _ _) | (with_reducible exact ih3 _ _ _ _ _ _ _ _ _ _ _ _ _) | (with_reducible exact LeO.refl _) | (with_reducible refine LeO.ite ?_ ?_)
theorem laws_FnLiveTell.mono : ∀ a0 k, LeO (laws_FnLiveTell.f k a0) (laws_FnLiveTell.f (k + 1) a0) := by
 intro a0 k
 obtain ⟨ih0, ih1, ih2, ih3⟩ := laws_FnLiveTell.mono_l k
 unfold laws_FnLiveTell.f
 repeat' first | (with_reducible exact ih0 _ _ _ _ _ _ _ _ _ _ _ _ _ _ _) | (with_reducible exact impl_LiveOk.mono _ _ _ _) | (with_reducible exact impl_LiveTell.mono _ _ _ _ _ _ _) | (with_reducible exact laws_wkLive.mono _ _ _ _ _ _ _) | (with_reducible exact spec_DrawLiveTell.mono _ _) | (with_reducible exact spec_LiveTell.mono _ _ _ _ _ _ _) | (with_reducible exact LeO.refl _) | (with_reducible refine LeO.ite ?_ ?_) | (with_reducible refine LeO.bind ?_ (fun _ => ?_))
set_option maxHeartbeats 8000000 in
set_option maxRecDepth 100000 in
theorem laws_FnLiveTell.calls (k : Nat) (A0 : Option Addr) (c0 : Nat) (l0 : List Int) (r : Bool) (w : World) (hr0 : Kd.C (Kd.int .u8) w A0 l0.length l0) (hc0 : l0.length ≤ c0) (h : laws_FnLiveTell.f k l0 = some r) (hr_ : r = true) :
  Calls Try.prog 4 #[.slice A0 l0.length c0] w fun e w' => e = .returned (.bool r) ∧ Below w.heap.size w w' := by
 have hu28 := Try.underlying28
 have hu30 := Try.underlying30
 have HR0 := ak hr0
 have HC0 := ak hc0
 clear hr0 hc0
 have HB := ak (Below.refl w.heap.size w)
 have H : (if (l0.length : Int) > 1048576 then (some true) else ((spec_DrawLiveTell.f k l0).bind fun bt464 => ((impl_LiveTell.f k bt464.1 bt464.2.1 bt464.2.2.1 bt464.2.2.2.1 bt464.2.2.2.2.1 bt464.2.2.2.2.2).bind fun bt476 => ((spec_LiveTell.f k bt464.1 bt464.2.1 bt464.2.2.1 bt464.2.2.2.1 bt464.2.2.2.2.1 bt464.2.2.2.2.2).bind fun bt485 => (if (bt476.2.2.2 != bt485.2.2.2) = true then (laws_FnLiveTell.j0 k bt476.2.2.2 bt485.2.2.2 true bt464.1 bt464.2.1 bt464.2.2.1 bt464.2.2.2.1 bt464.2.2.2.2.1 bt464.2.2.2.2.2 bt476.1 bt476.2.1 bt476.2.2.1 bt485.1 bt485.2.1 bt485.2.2.1) else ((laws_wkLive.f k bt476.1 bt476.2.1 bt476.2.2.1 bt485.1 bt485.2.1 bt485.2.2.1).bind fun t494 => (if t494 = true then ((impl_LiveOk.f k bt464.1 bt464.2.1 bt464.2.2.1).bind fun t495 => (laws_FnLiveTell.j0 k bt476.2.2.2 bt485.2.2.2 (!t495) bt464.1 bt464.2.1 bt464.2.2.1 bt464.2.2.2.1 bt464.2.2.2.2.1 bt464.2.2.2.2.2 bt476.1 bt476.2.1 bt476.2.2.1 bt485.1 bt485.2.1 bt485.2.2.1)) else (laws_FnLiveTell.j0 k bt476.2.2.2 bt485.2.2.2 true bt464.1 bt464.2.1 bt464.2.2.1 bt464.2.2.2.1 bt464.2.2.2.2.1 bt464.2.2.2.2.2 bt476.1 bt476.2.1 bt476.2.2.1 bt485.1 bt485.2.1 bt485.2.2.1)))))))) = some r := h
 clear h
 by_cases c2 : (l0.length : Int) > 1048576
 ·rw [if_pos c2] at H
  have c2b0 : decide (1048576 < (l0.length : Int)) = true := decide_eq_true c2
  have c2b1 : decide (1048576 < l0.length) = true := decide_eq_true (by omega)
  clear c2
  obtain rfl := Option.some.inj H
  go_enter Try.func4, Try.ntmps4
  go_wp2
  repeat (go_quiet (fail); try go_wp2)
  go_ret
  exact ⟨by rfl, bl HB⟩
 rw [if_neg c2] at H
 have c2b0 : decide (1048576 < (l0.length : Int)) = false := decide_eq_false c2
 have c2b1 : decide (1048576 < l0.length) = false := decide_eq_false (by omega)
 clear c2
 replace H := Option.bind_eq_some_iff.mp H
 obtain ⟨⟨t464, t465, t468, t471, t472, t473⟩, A30, H⟩ := H
 have A3 := ak A30
 clear A30
 replace H := Option.bind_eq_some_iff.mp H
 obtain ⟨⟨t476, t477, t480, t483⟩, A40, H⟩ := H
 have A4 := ak A40
 clear A40
 replace H := Option.bind_eq_some_iff.mp H
 obtain ⟨⟨t485, t486, t489, t492⟩, A50, H⟩ := H
 have A5 := ak A50
 clear A50
 have HC6 := ak H
 clear H
 go_enter Try.func4, Try.ntmps4
 go_upto_region 6 with (first | (go_at_call 6; (with_reducible refine (spec_DrawLiveTell.calls k _ _ l0 t464 t465 t468 t471 t472 t473 _ ?side1 ?side2 A3.out).mono ?_); (case side1 => repeat (exact HR0.out)); (case side2 => exact HC0.out); rintro e w7 ⟨v466, v469, rfl, ho0, ho1, hb⟩; have n0_ := ak (Kd.R_lower ho0 (below_size (bl HB))); have n1_ := ak (Kd.R_lower ho1 (below_size (bl HB))); have n2_ := ak (below_step (bl HB) hb); clear HB; have HO467 := n0_; have HO470 := n1_; have HB := n2_; clear n0_ n1_ n2_; (try clear hb); (try clear hb2); (try clear hk); (try clear hi); (try clear ho0); (try clear ho1)) | ((with_reducible refine gate_dst (N := 3) rfl ?_); refine box_event ?hg (N := 3) ?hd (cs := #[.int .i64 0, .slice none 0 0, .slice none 0 0]) (t := 28) ?hr ?_; (case hd => rfl); (case hg => rfl); (case hr => (go_simp; done)); intro gb474 hg w8 hbox hb; replace HO467 := ak (Kd.R_below (rk HO467) hb); replace HO470 := ak (Kd.R_below (rk HO470) hb); have BK474 := ak (hbox); have GW474 := ak ((by rw [hg]; exact (below_size (bl HB)) : w.heap.size ≤ gb474)); have GE474 := ak ((by rw [hg]; exact (below_size (bl HB)) : w.heap.size ≤ gb474)); replace HB := ak (below_step (bl HB) hb); clear hb hbox hg) | ((with_reducible refine gate_dst (N := 4) rfl ?_); refine box_event ?hg (N := 4) ?hd (cs := #[.int .i64 0, .int .i64 0, .int .i64 0]) (t := 30) ?hr ?_; (case hd => rfl); (case hg => rfl); (case hr => (go_simp; done)); intro gb475 hg w9 hbox hb; replace HO467 := ak (Kd.R_below (rk HO467) hb); replace HO470 := ak (Kd.R_below (Kd.R_elderB (rk HO470) gb475 (Nat.le_of_eq hg.symm)) hb); have BK475 := ak (hbox); have GW475 := ak ((by rw [hg]; exact (below_size (bl1 HB GE474)) : w.heap.size ≤ gb475)); have GE475 := ak ((by rw [hg]; exact (below_size (bl1 HB GE474)) : w.heap.size ≤ gb475)); replace HB := ak (below_step (bl1 HB GE474) hb); have NB474_475 := ak ((by rw [hg]; exact Nat.ne_of_lt (blk_lt (bk BK474)) : gb474 ≠ gb475)); have NB475_474 := ak ((by rw [hg]; exact Nat.ne_of_gt (blk_lt (bk BK474)) : gb475 ≠ gb474)); replace BK474 := ak (blk_below (bk BK474) hb); clear hb hbox hg; have hnb10 := NB474_475.out; have hnc10 := NB475_474.out; have hcz11_0 := bc w9 BK474 0 (.int .i64 0) rfl; have hcz11_1 := bc w9 BK474 1 (.slice none 0 0) rfl; have hcz11_2 := bc w9 BK474 2 (.slice none 0 0) rfl; have hfz11_0 := fz BK474 0; have hfz11_1 := fz BK474 1; have hfz11_2 := fz BK474 2; obtain ⟨Ao12, co12, eo12⟩ := Kd.R_slice HO467.out; subst eo12; obtain ⟨Ao13, co13, eo13⟩ := Kd.R_slice HO470.out; subst eo13; have hcz14_0 := bc w9 BK475 0 (.int .i64 0) rfl; have hcz14_1 := bc w9 BK475 1 (.int .i64 0) rfl; have hcz14_2 := bc w9 BK475 2 (.int .i64 0) rfl; have hfz14_0 := fz BK475 0; have hfz14_1 := fz BK475 1; have hfz14_2 := fz BK475 2) | (go_at_call 7; (with_reducible refine (impl_LiveTell.calls k t464 _ _ t465 _ _ t468 t471 t472 t473 t476 t477 t480 t483 _ ?side1 ?side2 ?side3 ?side4 A4.out).mono ?_); (case side1 => refine (Kd.R_reads' (e := 65) (base := w.heap.size) (ok := fun k_ => True) (n := t465.length) (c := co12) ?_).2.2; exact (by exact (Kd.R_mono (Kd.R_mono (Kd.R_far (p := ⟨gb475, 2, none⟩) (Kd.R_far (p := ⟨gb475, 1, none⟩) (Kd.R_far (p := ⟨gb475, 0, none⟩) (Kd.R_far (p := ⟨gb474, 2, none⟩) (Kd.R_far (p := ⟨gb474, 1, none⟩) (Kd.R_far (p := ⟨gb474, 0, none⟩) (Kd.R_types (Kd.R_types HO467.out BK474.out (by decide)) BK475.out (by decide)) (fun _ hk => hk.1.2) (.int .i64 t464)) (fun _ hk => hk.1.2) (.slice Ao12 t465.length co12)) (fun _ hk => hk.1.2) (.slice Ao13 t468.length co13)) (fun _ hk => hk.2) (.int .i64 t471)) (fun _ hk => hk.2) (.int .i64 t472)) (fun _ hk => hk.2) (.int .i64 t473)) (fun _ h_ => h_.1)) (fun _ h_ => h_.1)))); (case side2 => exact (Kd.R_reads' HO467.out).2.1); (case side3 => refine (Kd.R_reads' (e := 30) (base := w.heap.size) (ok := fun k_ => (True ∧ k_ ≠ gb475)) (n := t468.length) (c := co13) ?_).2.2; exact (by exact (Kd.R_mono (Kd.R_mono (Kd.R_far (p := ⟨gb475, 2, none⟩) (Kd.R_far (p := ⟨gb475, 1, none⟩) (Kd.R_far (p := ⟨gb475, 0, none⟩) (Kd.R_far (p := ⟨gb474, 2, none⟩) (Kd.R_far (p := ⟨gb474, 1, none⟩) (Kd.R_far (p := ⟨gb474, 0, none⟩) (Kd.R_mono (Kd.R_types HO470.out BK474.out (by decide)) (fun k_ hk => (⟨hk, hk.1.2⟩ : _ ∧ k_ ≠ gb475))) (fun _ hk => hk.1.2) (.int .i64 t464)) (fun _ hk => hk.1.2) (.slice Ao12 t465.length co12)) (fun _ hk => hk.1.2) (.slice Ao13 t468.length co13)) (fun _ hk => hk.2) (.int .i64 t471)) (fun _ hk => hk.2) (.int .i64 t472)) (fun _ hk => hk.2) (.int .i64 t473)) (fun _ h_ => h_.1)) (fun _ h_ => h_.1)))); (case side4 => exact (Kd.R_reads' HO470.out).2.1); rintro e w15 ⟨v478, v481, rfl, ho0, ho1, hb⟩; have n0_ := ak (Kd.R_elder' (by exact (Kd.R_mono (Kd.R_mono (Kd.R_far (p := ⟨gb475, 2, none⟩) (Kd.R_far (p := ⟨gb475, 1, none⟩) (Kd.R_far (p := ⟨gb475, 0, none⟩) (Kd.R_far (p := ⟨gb474, 2, none⟩) (Kd.R_far (p := ⟨gb474, 1, none⟩) (Kd.R_far (p := ⟨gb474, 0, none⟩) (Kd.R_types (Kd.R_types HO467.out BK474.out (by decide)) BK475.out (by decide)) (fun _ hk => hk.1.2) (.int .i64 t464)) (fun _ hk => hk.1.2) (.slice Ao12 t465.length co12)) (fun _ hk => hk.1.2) (.slice Ao13 t468.length co13)) (fun _ hk => hk.2) (.int .i64 t471)) (fun _ hk => hk.2) (.int .i64 t472)) (fun _ hk => hk.2) (.int .i64 t473)) (fun _ h_ => h_.1)) (fun _ h_ => h_.1))) (Kd.R_base ho0) hb); have n1_ := ak (Kd.R_elder' (by exact (Kd.R_mono (Kd.R_mono (Kd.R_far (p := ⟨gb475, 2, none⟩) (Kd.R_far (p := ⟨gb475, 1, none⟩) (Kd.R_far (p := ⟨gb475, 0, none⟩) (Kd.R_far (p := ⟨gb474, 2, none⟩) (Kd.R_far (p := ⟨gb474, 1, none⟩) (Kd.R_far (p := ⟨gb474, 0, none⟩) (Kd.R_mono (Kd.R_types HO470.out BK474.out (by decide)) (fun k_ hk => (⟨hk, hk.1.2⟩ : _ ∧ k_ ≠ gb475))) (fun _ hk => hk.1.2) (.int .i64 t464)) (fun _ hk => hk.1.2) (.slice Ao12 t465.length co12)) (fun _ hk => hk.1.2) (.slice Ao13 t468.length co13)) (fun _ hk => hk.2) (.int .i64 t471)) (fun _ hk => hk.2) (.int .i64 t472)) (fun _ hk => hk.2) (.int .i64 t473)) (fun _ h_ => h_.1)) (fun _ h_ => h_.1))) (Kd.R_base ho1) hb); have n2_ := ak (Kd.R_lower (Kd.R_new' ho0 (Kd.R_lt (by exact (Kd.R_mono (Kd.R_mono (Kd.R_far (p := ⟨gb475, 2, none⟩) (Kd.R_far (p := ⟨gb475, 1, none⟩) (Kd.R_far (p := ⟨gb475, 0, none⟩) (Kd.R_far (p := ⟨gb474, 2, none⟩) (Kd.R_far (p := ⟨gb474, 1, none⟩) (Kd.R_far (p := ⟨gb474, 0, none⟩) (Kd.R_types (Kd.R_types HO467.out BK474.out (by decide)) BK475.out (by decide)) (fun _ hk => hk.1.2) (.int .i64 t464)) (fun _ hk => hk.1.2) (.slice Ao12 t465.length co12)) (fun _ hk => hk.1.2) (.slice Ao13 t468.length co13)) (fun _ hk => hk.2) (.int .i64 t471)) (fun _ hk => hk.2) (.int .i64 t472)) (fun _ hk => hk.2) (.int .i64 t473)) (fun _ h_ => h_.1)) (fun _ h_ => h_.1))))) (below_size (bl2 HB GE474 GE475))); have n3_ := ak (Kd.R_lower (Kd.R_newB (Kd.R_new' ho1 (Kd.R_lt (by exact (Kd.R_mono (Kd.R_mono (Kd.R_far (p := ⟨gb475, 2, none⟩) (Kd.R_far (p := ⟨gb475, 1, none⟩) (Kd.R_far (p := ⟨gb475, 0, none⟩) (Kd.R_far (p := ⟨gb474, 2, none⟩) (Kd.R_far (p := ⟨gb474, 1, none⟩) (Kd.R_far (p := ⟨gb474, 0, none⟩) (Kd.R_mono (Kd.R_types HO470.out BK474.out (by decide)) (fun k_ hk => (⟨hk, hk.1.2⟩ : _ ∧ k_ ≠ gb475))) (fun _ hk => hk.1.2) (.int .i64 t464)) (fun _ hk => hk.1.2) (.slice Ao12 t465.length co12)) (fun _ hk => hk.1.2) (.slice Ao13 t468.length co13)) (fun _ hk => hk.2) (.int .i64 t471)) (fun _ hk => hk.2) (.int .i64 t472)) (fun _ hk => hk.2) (.int .i64 t473)) (fun _ h_ => h_.1)) (fun _ h_ => h_.1))))) (g := gb475) (o := .cells #[.int .i64 t471, .int .i64 t472, .int .i64 t473] 30 (0, 0)) (by refine blk_put (cs := #[.int .i64 t471, .int .i64 t472, .int .i64 0]) ?_ 2 _ rfl; refine blk_put (cs := #[.int .i64 t471, .int .i64 0, .int .i64 0]) ?_ 1 _ rfl; refine blk_put (cs := #[.int .i64 0, .int .i64 0, .int .i64 0]) ?_ 0 _ rfl; refine blk_far ?_ NB475_474.out _; refine blk_far ?_ NB475_474.out _; refine blk_far ?_ NB475_474.out _; exact BK475.out)) (below_size (bl2 HB GE474 GE475))); have n4_ := ak (blk_below (g := gb474) (o := .cells #[.int .i64 t464, .slice Ao12 t465.length co12, .slice Ao13 t468.length co13] 28 (0, 0)) (by refine blk_far ?_ NB474_475.out _; refine blk_far ?_ NB474_475.out _; refine blk_far ?_ NB474_475.out _; refine blk_put (cs := #[.int .i64 t464, .slice Ao12 t465.length co12, .slice none 0 0]) ?_ 2 _ rfl; refine blk_put (cs := #[.int .i64 t464, .slice none 0 0, .slice none 0 0]) ?_ 1 _ rfl; refine blk_put (cs := #[.int .i64 0, .slice none 0 0, .slice none 0 0]) ?_ 0 _ rfl; exact BK474.out) hb); have n5_ := ak (blk_below (g := gb475) (o := .cells #[.int .i64 t471, .int .i64 t472, .int .i64 t473] 30 (0, 0)) (by refine blk_put (cs := #[.int .i64 t471, .int .i64 t472, .int .i64 0]) ?_ 2 _ rfl; refine blk_put (cs := #[.int .i64 t471, .int .i64 0, .int .i64 0]) ?_ 1 _ rfl; refine blk_put (cs := #[.int .i64 0, .int .i64 0, .int .i64 0]) ?_ 0 _ rfl; refine blk_far ?_ NB475_474.out _; refine blk_far ?_ NB475_474.out _; refine blk_far ?_ NB475_474.out _; exact BK475.out) hb); have n6_ := ak (below_step (bl2 HB GE474 GE475) hb); clear HO467; clear HO470; clear BK474; clear BK475; clear HB; have HO467 := n0_; have HO470 := n1_; have HO479 := n2_; have HO482 := n3_; have BK474 := n4_; have BK475 := n5_; have HB := n6_; clear n0_ n1_ n2_ n3_ n4_ n5_ n6_; (try clear hb); (try clear hb2); (try clear hk); (try clear hi); (try clear ho0); (try clear ho1)) | ((with_reducible refine gate_dst (N := 5) rfl ?_); refine box_event ?hg (N := 5) ?hd (cs := #[.int .i64 0, .slice none 0 0, .slice none 0 0]) (t := 28) ?hr ?_; (case hd => rfl); (case hg => rfl); (case hr => (go_simp; done)); intro gb484 hg w16 hbox hb; replace HO467 := ak (Kd.R_below (rk HO467) hb); replace HO470 := ak (Kd.R_below (rk HO470) hb); replace HO479 := ak (Kd.R_below (rk HO479) hb); replace HO482 := ak (Kd.R_below (rk HO482) hb); have BK484 := ak (hbox); have GW484 := ak ((by rw [hg]; exact (below_size (bl2 HB GE474 GE475)) : w.heap.size ≤ gb484)); have GE484 := ak ((by rw [hg]; exact (below_size (bl2 HB GE474 GE475)) : w.heap.size ≤ gb484)); replace HB := ak (below_step (bl2 HB GE474 GE475) hb); have NB474_484 := ak ((by rw [hg]; exact Nat.ne_of_lt (blk_lt (bk BK474)) : gb474 ≠ gb484)); have NB484_474 := ak ((by rw [hg]; exact Nat.ne_of_gt (blk_lt (bk BK474)) : gb484 ≠ gb474)); replace BK474 := ak (blk_below (bk BK474) hb); have NB475_484 := ak ((by rw [hg]; exact Nat.ne_of_lt (blk_lt (bk BK475)) : gb475 ≠ gb484)); have NB484_475 := ak ((by rw [hg]; exact Nat.ne_of_gt (blk_lt (bk BK475)) : gb484 ≠ gb475)); replace BK475 := ak (blk_below (bk BK475) hb); clear hb hbox hg; have hnb17 := NB484_474.out; have hnc17 := NB474_484.out; have hnb18 := NB484_475.out; have hnc18 := NB475_484.out; have hcz19_0 := bc w16 BK484 0 (.int .i64 0) rfl; have hcz19_1 := bc w16 BK484 1 (.slice none 0 0) rfl; have hcz19_2 := bc w16 BK484 2 (.slice none 0 0) rfl; have hfz19_0 := fz BK484 0; have hfz19_1 := fz BK484 1; have hfz19_2 := fz BK484 2; obtain ⟨Ao20, co20, eo20⟩ := Kd.R_slice HO479.out; subst eo20; obtain ⟨Ao21, co21, eo21⟩ := Kd.R_slice HO482.out; subst eo21; have hcz22_0 := bc w16 BK474 0 (.int .i64 t464) rfl; have hcz22_1 := bc w16 BK474 1 (.slice Ao12 t465.length co12) rfl; have hcz22_2 := bc w16 BK474 2 (.slice Ao13 t468.length co13) rfl; have hfz22_0 := fz BK474 0; have hfz22_1 := fz BK474 1; have hfz22_2 := fz BK474 2; have hcz23_0 := bc w16 BK475 0 (.int .i64 t471) rfl; have hcz23_1 := bc w16 BK475 1 (.int .i64 t472) rfl; have hcz23_2 := bc w16 BK475 2 (.int .i64 t473) rfl; have hfz23_0 := fz BK475 0; have hfz23_1 := fz BK475 1; have hfz23_2 := fz BK475 2) | (go_at_call 8; (with_reducible refine (spec_LiveTell.calls k t464 _ _ t465 _ _ t468 t471 t472 t473 t485 t486 t489 t492 _ ?side1 ?side2 ?side3 ?side4 A5.out).mono ?_); (case side1 => refine (Kd.R_reads' (e := 65) (base := w.heap.size) (ok := fun k_ => (True ∧ some k_ ≠ (.slice Ao20 t477.length co20 : Value).ownBlock)) (n := t465.length) (c := co12) ?_).2.2; exact (by exact (Kd.R_mono (Kd.R_far (p := ⟨gb484, 2, none⟩) (Kd.R_far (p := ⟨gb484, 1, none⟩) (Kd.R_far (p := ⟨gb484, 0, none⟩) (Kd.R_types HO467.out BK484.out (by decide)) (fun _ hk => hk.2) (.int .i64 t476)) (fun _ hk => hk.2) (.slice Ao20 t477.length co20)) (fun _ hk => hk.2) (.slice Ao21 t480.length co21)) (fun _ h_ => h_.1)))); (case side2 => exact (Kd.R_reads' HO467.out).2.1); (case side3 => refine (Kd.R_reads' (e := 30) (base := w.heap.size) (ok := fun k_ => ((True ∧ k_ ≠ gb475) ∧ some k_ ≠ (.slice Ao21 t480.length co21 : Value).ownBlock)) (n := t468.length) (c := co13) ?_).2.2; exact (by exact (Kd.R_mono (Kd.R_far (p := ⟨gb484, 2, none⟩) (Kd.R_far (p := ⟨gb484, 1, none⟩) (Kd.R_far (p := ⟨gb484, 0, none⟩) (Kd.R_types HO470.out BK484.out (by decide)) (fun _ hk => hk.2) (.int .i64 t476)) (fun _ hk => hk.2) (.slice Ao20 t477.length co20)) (fun _ hk => hk.2) (.slice Ao21 t480.length co21)) (fun _ h_ => h_.1)))); (case side4 => exact (Kd.R_reads' HO470.out).2.1); rintro e w24 ⟨v487, v490, rfl, ho0, ho1, hb⟩; have n0_ := ak (Kd.R_elder' (by exact (Kd.R_mono (Kd.R_far (p := ⟨gb484, 2, none⟩) (Kd.R_far (p := ⟨gb484, 1, none⟩) (Kd.R_far (p := ⟨gb484, 0, none⟩) (Kd.R_types HO467.out BK484.out (by decide)) (fun _ hk => hk.2) (.int .i64 t476)) (fun _ hk => hk.2) (.slice Ao20 t477.length co20)) (fun _ hk => hk.2) (.slice Ao21 t480.length co21)) (fun _ h_ => h_.1))) (Kd.R_base ho0) hb); have n1_ := ak (Kd.R_elder' (by exact (Kd.R_mono (Kd.R_far (p := ⟨gb484, 2, none⟩) (Kd.R_far (p := ⟨gb484, 1, none⟩) (Kd.R_far (p := ⟨gb484, 0, none⟩) (Kd.R_types HO470.out BK484.out (by decide)) (fun _ hk => hk.2) (.int .i64 t476)) (fun _ hk => hk.2) (.slice Ao20 t477.length co20)) (fun _ hk => hk.2) (.slice Ao21 t480.length co21)) (fun _ h_ => h_.1))) (Kd.R_base ho1) hb); have n2_ := ak (Kd.R_elder' (by exact (Kd.R_mono (Kd.R_far (p := ⟨gb484, 2, none⟩) (Kd.R_far (p := ⟨gb484, 1, none⟩) (Kd.R_far (p := ⟨gb484, 0, none⟩) (Kd.R_types HO479.out BK484.out (by decide)) (fun _ hk => hk.2) (.int .i64 t476)) (fun _ hk => hk.2) (.slice Ao20 t477.length co20)) (fun _ hk => hk.2) (.slice Ao21 t480.length co21)) (fun _ h_ => h_.1))) (Kd.R_base ho0) hb); have n3_ := ak (Kd.R_elder' (by exact (Kd.R_mono (Kd.R_far (p := ⟨gb484, 2, none⟩) (Kd.R_far (p := ⟨gb484, 1, none⟩) (Kd.R_far (p := ⟨gb484, 0, none⟩) (Kd.R_types HO482.out BK484.out (by decide)) (fun _ hk => hk.2) (.int .i64 t476)) (fun _ hk => hk.2) (.slice Ao20 t477.length co20)) (fun _ hk => hk.2) (.slice Ao21 t480.length co21)) (fun _ h_ => h_.1))) (Kd.R_base ho1) hb); have n4_ := ak (Kd.R_lower (Kd.R_new' (Kd.R_new' ho0 (Kd.R_lt (by exact (Kd.R_mono (Kd.R_far (p := ⟨gb484, 2, none⟩) (Kd.R_far (p := ⟨gb484, 1, none⟩) (Kd.R_far (p := ⟨gb484, 0, none⟩) (Kd.R_types HO467.out BK484.out (by decide)) (fun _ hk => hk.2) (.int .i64 t476)) (fun _ hk => hk.2) (.slice Ao20 t477.length co20)) (fun _ hk => hk.2) (.slice Ao21 t480.length co21)) (fun _ h_ => h_.1))))) (Kd.R_lt (by exact (Kd.R_mono (Kd.R_far (p := ⟨gb484, 2, none⟩) (Kd.R_far (p := ⟨gb484, 1, none⟩) (Kd.R_far (p := ⟨gb484, 0, none⟩) (Kd.R_types HO479.out BK484.out (by decide)) (fun _ hk => hk.2) (.int .i64 t476)) (fun _ hk => hk.2) (.slice Ao20 t477.length co20)) (fun _ hk => hk.2) (.slice Ao21 t480.length co21)) (fun _ h_ => h_.1))))) (below_size (bl3 HB GE474 GE475 GE484))); have n5_ := ak (Kd.R_lower (Kd.R_newB (Kd.R_new' (Kd.R_new' ho1 (Kd.R_lt (by exact (Kd.R_mono (Kd.R_far (p := ⟨gb484, 2, none⟩) (Kd.R_far (p := ⟨gb484, 1, none⟩) (Kd.R_far (p := ⟨gb484, 0, none⟩) (Kd.R_types HO470.out BK484.out (by decide)) (fun _ hk => hk.2) (.int .i64 t476)) (fun _ hk => hk.2) (.slice Ao20 t477.length co20)) (fun _ hk => hk.2) (.slice Ao21 t480.length co21)) (fun _ h_ => h_.1))))) (Kd.R_lt (by exact (Kd.R_mono (Kd.R_far (p := ⟨gb484, 2, none⟩) (Kd.R_far (p := ⟨gb484, 1, none⟩) (Kd.R_far (p := ⟨gb484, 0, none⟩) (Kd.R_types HO482.out BK484.out (by decide)) (fun _ hk => hk.2) (.int .i64 t476)) (fun _ hk => hk.2) (.slice Ao20 t477.length co20)) (fun _ hk => hk.2) (.slice Ao21 t480.length co21)) (fun _ h_ => h_.1))))) (g := gb475) (o := .cells #[.int .i64 t471, .int .i64 t472, .int .i64 t473] 30 (0, 0)) (by refine blk_far ?_ NB475_484.out _; refine blk_far ?_ NB475_484.out _; refine blk_far ?_ NB475_484.out _; exact BK475.out)) (below_size (bl3 HB GE474 GE475 GE484))); have n6_ := ak (blk_below (g := gb474) (o := .cells #[.int .i64 t464, .slice Ao12 t465.length co12, .slice Ao13 t468.length co13] 28 (0, 0)) (by refine blk_far ?_ NB474_484.out _; refine blk_far ?_ NB474_484.out _; refine blk_far ?_ NB474_484.out _; exact BK474.out) hb); have n7_ := ak (blk_below (g := gb475) (o := .cells #[.int .i64 t471, .int .i64 t472, .int .i64 t473] 30 (0, 0)) (by refine blk_far ?_ NB475_484.out _; refine blk_far ?_ NB475_484.out _; refine blk_far ?_ NB475_484.out _; exact BK475.out) hb); have n8_ := ak (blk_below (g := gb484) (o := .cells #[.int .i64 t476, .slice Ao20 t477.length co20, .slice Ao21 t480.length co21] 28 (0, 0)) (by refine blk_put (cs := #[.int .i64 t476, .slice Ao20 t477.length co20, .slice none 0 0]) ?_ 2 _ rfl; refine blk_put (cs := #[.int .i64 t476, .slice none 0 0, .slice none 0 0]) ?_ 1 _ rfl; refine blk_put (cs := #[.int .i64 0, .slice none 0 0, .slice none 0 0]) ?_ 0 _ rfl; exact BK484.out) hb); have n9_ := ak (below_step (bl3 HB GE474 GE475 GE484) hb); clear HO467; clear HO470; clear HO479; clear HO482; clear BK474; clear BK475; clear BK484; clear HB; have HO467 := n0_; have HO470 := n1_; have HO479 := n2_; have HO482 := n3_; have HO488 := n4_; have HO491 := n5_; have BK474 := n6_; have BK475 := n7_; have BK484 := n8_; have HB := n9_; clear n0_ n1_ n2_ n3_ n4_ n5_ n6_ n7_ n8_ n9_; (try clear hb); (try clear hb2); (try clear hk); (try clear hi); (try clear ho0); (try clear ho1)) | ((with_reducible refine gate_dst (N := 7) rfl ?_); refine box_event ?hg (N := 7) ?hd (cs := #[.int .i64 0, .slice none 0 0, .slice none 0 0]) (t := 28) ?hr ?_; (case hd => rfl); (case hg => rfl); (case hr => (go_simp; done)); intro gb493 hg w25 hbox hb; replace HO467 := ak (Kd.R_below (rk HO467) hb); replace HO470 := ak (Kd.R_below (rk HO470) hb); replace HO479 := ak (Kd.R_below (rk HO479) hb); replace HO482 := ak (Kd.R_below (rk HO482) hb); replace HO488 := ak (Kd.R_below (rk HO488) hb); replace HO491 := ak (Kd.R_below (rk HO491) hb); have BK493 := ak (hbox); have GW493 := ak ((by rw [hg]; exact (below_size (bl3 HB GE474 GE475 GE484)) : w.heap.size ≤ gb493)); have GE493 := ak ((by rw [hg]; exact (below_size (bl3 HB GE474 GE475 GE484)) : w.heap.size ≤ gb493)); replace HB := ak (below_step (bl3 HB GE474 GE475 GE484) hb); have NB474_493 := ak ((by rw [hg]; exact Nat.ne_of_lt (blk_lt (bk BK474)) : gb474 ≠ gb493)); have NB493_474 := ak ((by rw [hg]; exact Nat.ne_of_gt (blk_lt (bk BK474)) : gb493 ≠ gb474)); replace BK474 := ak (blk_below (bk BK474) hb); have NB475_493 := ak ((by rw [hg]; exact Nat.ne_of_lt (blk_lt (bk BK475)) : gb475 ≠ gb493)); have NB493_475 := ak ((by rw [hg]; exact Nat.ne_of_gt (blk_lt (bk BK475)) : gb493 ≠ gb475)); replace BK475 := ak (blk_below (bk BK475) hb); have NB484_493 := ak ((by rw [hg]; exact Nat.ne_of_lt (blk_lt (bk BK484)) : gb484 ≠ gb493)); have NB493_484 := ak ((by rw [hg]; exact Nat.ne_of_gt (blk_lt (bk BK484)) : gb493 ≠ gb484)); replace BK484 := ak (blk_below (bk BK484) hb); clear hb hbox hg; have hnb26 := NB493_474.out; have hnc26 := NB474_493.out; have hnb27 := NB493_475.out; have hnc27 := NB475_493.out; have hnb28 := NB493_484.out; have hnc28 := NB484_493.out; have hcz29_0 := bc w25 BK493 0 (.int .i64 0) rfl; have hcz29_1 := bc w25 BK493 1 (.slice none 0 0) rfl; have hcz29_2 := bc w25 BK493 2 (.slice none 0 0) rfl; have hfz29_0 := fz BK493 0; have hfz29_1 := fz BK493 1; have hfz29_2 := fz BK493 2; obtain ⟨Ao30, co30, eo30⟩ := Kd.R_slice HO488.out; subst eo30; obtain ⟨Ao31, co31, eo31⟩ := Kd.R_slice HO491.out; subst eo31))
 repeat (go_quiet (fail); go_upto_region 6 with (fail))
 (try simp only [Act.put, List.setIfInBounds_toArray, List.set_cons_zero, List.set_cons_succ])
 go_cut [48] (fun v48 wc => ∃ (kq : Nat) (x48_5 : Bool), v48 = .bool x48_5 ∧ Aside0 (laws_FnLiveTell.j0 kq t483 t492 x48_5 t464 t465 t468 t471 t472 t473 t476 t477 t480 t485 t486 t489 = some r) ∧ Aside0 (kq ≤ k) ∧ Aside0 (Kd.R k65 65 wc w.heap.size (fun k_ => some k_ ≠ ((.slice Ao20 t477.length co20) : Value).ownBlock ∧ some k_ ≠ ((.slice Ao30 t486.length co30) : Value).ownBlock) (.slice Ao12 t465.length co12) t465) ∧ Aside0 (Kd.R k30 30 wc w.heap.size (fun k_ => some k_ ≠ ((.slice Ao21 t480.length co21) : Value).ownBlock ∧ some k_ ≠ ((.slice Ao31 t489.length co31) : Value).ownBlock ∧ k_ ≠ gb475) (.slice Ao13 t468.length co13) t468) ∧ Aside0 (Kd.R k65 65 wc w.heap.size (fun k_ => some k_ ≠ ((.slice Ao12 t465.length co12) : Value).ownBlock ∧ some k_ ≠ ((.slice Ao30 t486.length co30) : Value).ownBlock) (.slice Ao20 t477.length co20) t477) ∧ Aside0 (Kd.R k30 30 wc w.heap.size (fun k_ => some k_ ≠ ((.slice Ao13 t468.length co13) : Value).ownBlock ∧ some k_ ≠ ((.slice Ao31 t489.length co31) : Value).ownBlock ∧ k_ ≠ gb475) (.slice Ao21 t480.length co21) t480) ∧ Aside0 (Kd.R k65 65 wc w.heap.size (fun k_ => some k_ ≠ ((.slice Ao12 t465.length co12) : Value).ownBlock ∧ some k_ ≠ ((.slice Ao20 t477.length co20) : Value).ownBlock) (.slice Ao30 t486.length co30) t486) ∧ Aside0 (Kd.R k30 30 wc w.heap.size (fun k_ => some k_ ≠ ((.slice Ao13 t468.length co13) : Value).ownBlock ∧ some k_ ≠ ((.slice Ao21 t480.length co21) : Value).ownBlock ∧ k_ ≠ gb475) (.slice Ao31 t489.length co31) t489) ∧ Aside0 (wc.heap[gb474]? = some (.cells #[.int .i64 t464, (.slice Ao12 t465.length co12), (.slice Ao13 t468.length co13)] 28 (0, 0))) ∧ Aside0 (wc.heap[gb475]? = some (.cells #[.int .i64 t471, .int .i64 t472, .int .i64 t473] 30 (0, 0))) ∧ Aside0 (wc.heap[gb484]? = some (.cells #[.int .i64 t476, (.slice Ao20 t477.length co20), (.slice Ao21 t480.length co21)] 28 (0, 0))) ∧ Aside0 (wc.heap[gb493]? = some (.cells #[.int .i64 t485, (.slice Ao30 t486.length co30), (.slice Ao31 t489.length co31)] 28 (0, 0))) ∧ Aside0 (Below w.heap.size w wc))
 case first =>
  have H := HC6.out
  clear HC6
  by_cases c32 : (t483 != t492) = true
  ·rw [if_pos c32] at H
   have c32b0 : (t483 != t492) = true := c32
   (try (have c32b1 : decide (t483 = t492) = false := by simpa using c32))
   (try (have c32b2 : (t483 == t492) = false := by simpa using c32))
   (try (have c32b3 : ¬ (t483 = t492) := by simpa using c32))
   clear c32
   (skip)
   have H' := ak H
   clear H
   go_wp2
   repeat (go_quiet (fail); try go_wp2)
   go_meet
   case rel => exact ⟨_, (true), (by rfl), H', ⟨by omega⟩, ⟨by exact Kd.R_mono (Kd.R_far (p := ⟨gb493, 2, none⟩) (Kd.R_far (p := ⟨gb493, 1, none⟩) (Kd.R_far (p := ⟨gb493, 0, none⟩) (Kd.R_types HO467.out BK493.out (by decide)) (fun _ hk => hk.2) (.int .i64 t485)) (fun _ hk => hk.2) (.slice Ao30 t486.length co30)) (fun _ hk => hk.2) (.slice Ao31 t489.length co31)) (fun _ hk => ⟨hk.1.1.2, hk.1.2⟩)⟩, ⟨by exact Kd.R_mono (Kd.R_far (p := ⟨gb493, 2, none⟩) (Kd.R_far (p := ⟨gb493, 1, none⟩) (Kd.R_far (p := ⟨gb493, 0, none⟩) (Kd.R_types HO470.out BK493.out (by decide)) (fun _ hk => hk.2) (.int .i64 t485)) (fun _ hk => hk.2) (.slice Ao30 t486.length co30)) (fun _ hk => hk.2) (.slice Ao31 t489.length co31)) (fun _ hk => ⟨hk.1.1.2, ⟨hk.1.2, hk.1.1.1.2⟩⟩)⟩, ⟨by exact Kd.R_mono (Kd.R_far (p := ⟨gb493, 2, none⟩) (Kd.R_far (p := ⟨gb493, 1, none⟩) (Kd.R_far (p := ⟨gb493, 0, none⟩) (Kd.R_types HO479.out BK493.out (by decide)) (fun _ hk => hk.2) (.int .i64 t485)) (fun _ hk => hk.2) (.slice Ao30 t486.length co30)) (fun _ hk => hk.2) (.slice Ao31 t489.length co31)) (fun _ hk => ⟨hk.1.1.2, hk.1.2⟩)⟩, ⟨by exact Kd.R_mono (Kd.R_far (p := ⟨gb493, 2, none⟩) (Kd.R_far (p := ⟨gb493, 1, none⟩) (Kd.R_far (p := ⟨gb493, 0, none⟩) (Kd.R_types HO482.out BK493.out (by decide)) (fun _ hk => hk.2) (.int .i64 t485)) (fun _ hk => hk.2) (.slice Ao30 t486.length co30)) (fun _ hk => hk.2) (.slice Ao31 t489.length co31)) (fun _ hk => ⟨hk.1.1.1.2, ⟨hk.1.2, hk.1.1.2⟩⟩)⟩, ⟨by exact Kd.R_mono (Kd.R_far (p := ⟨gb493, 2, none⟩) (Kd.R_far (p := ⟨gb493, 1, none⟩) (Kd.R_far (p := ⟨gb493, 0, none⟩) (Kd.R_types HO488.out BK493.out (by decide)) (fun _ hk => hk.2) (.int .i64 t485)) (fun _ hk => hk.2) (.slice Ao30 t486.length co30)) (fun _ hk => hk.2) (.slice Ao31 t489.length co31)) (fun _ hk => ⟨hk.1.1.2, hk.1.2⟩)⟩, ⟨by exact Kd.R_mono (Kd.R_far (p := ⟨gb493, 2, none⟩) (Kd.R_far (p := ⟨gb493, 1, none⟩) (Kd.R_far (p := ⟨gb493, 0, none⟩) (Kd.R_types HO491.out BK493.out (by decide)) (fun _ hk => hk.2) (.int .i64 t485)) (fun _ hk => hk.2) (.slice Ao30 t486.length co30)) (fun _ hk => hk.2) (.slice Ao31 t489.length co31)) (fun _ hk => ⟨hk.1.1.1.2, ⟨hk.1.1.2, hk.1.2⟩⟩)⟩, ⟨by refine blk_far ?_ NB474_493.out _; refine blk_far ?_ NB474_493.out _; refine blk_far ?_ NB474_493.out _; exact BK474.out⟩, ⟨by refine blk_far ?_ NB475_493.out _; refine blk_far ?_ NB475_493.out _; refine blk_far ?_ NB475_493.out _; exact BK475.out⟩, ⟨by refine blk_far ?_ NB484_493.out _; refine blk_far ?_ NB484_493.out _; refine blk_far ?_ NB484_493.out _; exact BK484.out⟩, ⟨by refine blk_put (cs := #[.int .i64 t485, .slice Ao30 t486.length co30, .slice none 0 0]) ?_ 2 _ rfl; refine blk_put (cs := #[.int .i64 t485, .slice none 0 0, .slice none 0 0]) ?_ 1 _ rfl; refine blk_put (cs := #[.int .i64 0, .slice none 0 0, .slice none 0 0]) ?_ 0 _ rfl; exact BK493.out⟩, ⟨bl4 HB GE474 GE475 GE484 GE493⟩⟩
  rw [if_neg c32] at H
  have c32b0 : (t483 != t492) = false := by simpa using c32
  (try (have c32b1 : decide (t483 = t492) = true := by simpa using c32))
  (try (have c32b2 : (t483 == t492) = true := by simpa using c32))
  clear c32
  (skip)
  replace H := Option.bind_eq_some_iff.mp H
  obtain ⟨t494, A330, H⟩ := H
  have A33 := ak A330
  clear A330
  by_cases c34 : t494 = true
  rotate_left
  ·replace c34 := Bool.eq_false_iff.mpr c34
   subst c34
   rw [if_neg (show ¬ (false = true) by decide)] at H
   have H' := ak H
   clear H
   have hnb47 := NB484_474.out
   have hnc47 := NB474_484.out
   have hnb48 := NB484_475.out
   have hnc48 := NB475_484.out
   have hnb49 := NB484_493.out
   have hnc49 := NB493_484.out
   have hcz50_0 := bc w25 BK484 0 (.int .i64 t476) rfl
   have hcz50_1 := bc w25 BK484 1 (.slice Ao20 t477.length co20) rfl
   have hcz50_2 := bc w25 BK484 2 (.slice Ao21 t480.length co21) rfl
   have hfz50_0 := fz BK484 0
   have hfz50_1 := fz BK484 1
   have hfz50_2 := fz BK484 2
   have hnb51 := NB493_474.out
   have hnc51 := NB474_493.out
   have hnb52 := NB493_475.out
   have hnc52 := NB475_493.out
   have hcz53_0 := bc w25 BK493 0 (.int .i64 0) rfl
   have hcz53_1 := bc w25 BK493 1 (.slice none 0 0) rfl
   have hcz53_2 := bc w25 BK493 2 (.slice none 0 0) rfl
   have hfz53_0 := fz BK493 0
   have hfz53_1 := fz BK493 1
   have hfz53_2 := fz BK493 2
   go_wp2_with ((go_at_call 9; (with_reducible refine (laws_wkLive.calls k t476 _ _ t477 _ _ t480 t485 _ _ t486 _ _ t489 false _ ?side1 ?side2 ?side3 ?side4 ?side5 ?side6 ?side7 ?side8 A33.out).mono ?_); (case side1 => refine (Kd.R_reads' (e := 65) (base := w.heap.size) (ok := fun k_ => ((True ∧ some k_ ≠ (.slice Ao12 t465.length co12 : Value).ownBlock) ∧ some k_ ≠ (.slice Ao30 t486.length co30 : Value).ownBlock)) (n := t477.length) (c := co20) ?_).2.2; exact (by exact (Kd.R_mono (Kd.R_far (p := ⟨gb493, 2, none⟩) (Kd.R_far (p := ⟨gb493, 1, none⟩) (Kd.R_far (p := ⟨gb493, 0, none⟩) (Kd.R_types HO479.out BK493.out (by decide)) (fun _ hk => hk.2) (.int .i64 t485)) (fun _ hk => hk.2) (.slice Ao30 t486.length co30)) (fun _ hk => hk.2) (.slice Ao31 t489.length co31)) (fun _ h_ => h_.1)))); (case side2 => exact (Kd.R_reads' HO479.out).2.1); (case side3 => refine (Kd.R_reads' (e := 30) (base := w.heap.size) (ok := fun k_ => (((True ∧ some k_ ≠ (.slice Ao13 t468.length co13 : Value).ownBlock) ∧ k_ ≠ gb475) ∧ some k_ ≠ (.slice Ao31 t489.length co31 : Value).ownBlock)) (n := t480.length) (c := co21) ?_).2.2; exact (by exact (Kd.R_mono (Kd.R_far (p := ⟨gb493, 2, none⟩) (Kd.R_far (p := ⟨gb493, 1, none⟩) (Kd.R_far (p := ⟨gb493, 0, none⟩) (Kd.R_types HO482.out BK493.out (by decide)) (fun _ hk => hk.2) (.int .i64 t485)) (fun _ hk => hk.2) (.slice Ao30 t486.length co30)) (fun _ hk => hk.2) (.slice Ao31 t489.length co31)) (fun _ h_ => h_.1)))); (case side4 => exact (Kd.R_reads' HO482.out).2.1); (case side5 => refine (Kd.R_reads' (e := 65) (base := w.heap.size) (ok := fun k_ => ((True ∧ some k_ ≠ (.slice Ao12 t465.length co12 : Value).ownBlock) ∧ some k_ ≠ (.slice Ao20 t477.length co20 : Value).ownBlock)) (n := t486.length) (c := co30) ?_).2.2; exact (by exact (Kd.R_mono (Kd.R_far (p := ⟨gb493, 2, none⟩) (Kd.R_far (p := ⟨gb493, 1, none⟩) (Kd.R_far (p := ⟨gb493, 0, none⟩) (Kd.R_types HO488.out BK493.out (by decide)) (fun _ hk => hk.2) (.int .i64 t485)) (fun _ hk => hk.2) (.slice Ao30 t486.length co30)) (fun _ hk => hk.2) (.slice Ao31 t489.length co31)) (fun _ h_ => h_.1)))); (case side6 => exact (Kd.R_reads' HO488.out).2.1); (case side7 => refine (Kd.R_reads' (e := 30) (base := w.heap.size) (ok := fun k_ => (((True ∧ some k_ ≠ (.slice Ao13 t468.length co13 : Value).ownBlock) ∧ some k_ ≠ (.slice Ao21 t480.length co21 : Value).ownBlock) ∧ k_ ≠ gb475)) (n := t489.length) (c := co31) ?_).2.2; exact (by exact (Kd.R_mono (Kd.R_far (p := ⟨gb493, 2, none⟩) (Kd.R_far (p := ⟨gb493, 1, none⟩) (Kd.R_far (p := ⟨gb493, 0, none⟩) (Kd.R_types HO491.out BK493.out (by decide)) (fun _ hk => hk.2) (.int .i64 t485)) (fun _ hk => hk.2) (.slice Ao30 t486.length co30)) (fun _ hk => hk.2) (.slice Ao31 t489.length co31)) (fun _ h_ => h_.1)))); (case side8 => exact (Kd.R_reads' HO491.out).2.1); rintro e w54 ⟨rfl, hb⟩; have n0_ := ak (Kd.R_below (by exact (Kd.R_mono (Kd.R_far (p := ⟨gb493, 2, none⟩) (Kd.R_far (p := ⟨gb493, 1, none⟩) (Kd.R_far (p := ⟨gb493, 0, none⟩) (Kd.R_types HO467.out BK493.out (by decide)) (fun _ hk => hk.2) (.int .i64 t485)) (fun _ hk => hk.2) (.slice Ao30 t486.length co30)) (fun _ hk => hk.2) (.slice Ao31 t489.length co31)) (fun _ h_ => h_.1))) hb); have n1_ := ak (Kd.R_below (by exact (Kd.R_mono (Kd.R_far (p := ⟨gb493, 2, none⟩) (Kd.R_far (p := ⟨gb493, 1, none⟩) (Kd.R_far (p := ⟨gb493, 0, none⟩) (Kd.R_types HO470.out BK493.out (by decide)) (fun _ hk => hk.2) (.int .i64 t485)) (fun _ hk => hk.2) (.slice Ao30 t486.length co30)) (fun _ hk => hk.2) (.slice Ao31 t489.length co31)) (fun _ h_ => h_.1))) hb); have n2_ := ak (Kd.R_below (by exact (Kd.R_mono (Kd.R_far (p := ⟨gb493, 2, none⟩) (Kd.R_far (p := ⟨gb493, 1, none⟩) (Kd.R_far (p := ⟨gb493, 0, none⟩) (Kd.R_types HO479.out BK493.out (by decide)) (fun _ hk => hk.2) (.int .i64 t485)) (fun _ hk => hk.2) (.slice Ao30 t486.length co30)) (fun _ hk => hk.2) (.slice Ao31 t489.length co31)) (fun _ h_ => h_.1))) hb); have n3_ := ak (Kd.R_below (by exact (Kd.R_mono (Kd.R_far (p := ⟨gb493, 2, none⟩) (Kd.R_far (p := ⟨gb493, 1, none⟩) (Kd.R_far (p := ⟨gb493, 0, none⟩) (Kd.R_types HO482.out BK493.out (by decide)) (fun _ hk => hk.2) (.int .i64 t485)) (fun _ hk => hk.2) (.slice Ao30 t486.length co30)) (fun _ hk => hk.2) (.slice Ao31 t489.length co31)) (fun _ h_ => h_.1))) hb); have n4_ := ak (Kd.R_below (by exact (Kd.R_mono (Kd.R_far (p := ⟨gb493, 2, none⟩) (Kd.R_far (p := ⟨gb493, 1, none⟩) (Kd.R_far (p := ⟨gb493, 0, none⟩) (Kd.R_types HO488.out BK493.out (by decide)) (fun _ hk => hk.2) (.int .i64 t485)) (fun _ hk => hk.2) (.slice Ao30 t486.length co30)) (fun _ hk => hk.2) (.slice Ao31 t489.length co31)) (fun _ h_ => h_.1))) hb); have n5_ := ak (Kd.R_below (by exact (Kd.R_mono (Kd.R_far (p := ⟨gb493, 2, none⟩) (Kd.R_far (p := ⟨gb493, 1, none⟩) (Kd.R_far (p := ⟨gb493, 0, none⟩) (Kd.R_types HO491.out BK493.out (by decide)) (fun _ hk => hk.2) (.int .i64 t485)) (fun _ hk => hk.2) (.slice Ao30 t486.length co30)) (fun _ hk => hk.2) (.slice Ao31 t489.length co31)) (fun _ h_ => h_.1))) hb); have n6_ := ak (blk_below (g := gb474) (o := .cells #[.int .i64 t464, .slice Ao12 t465.length co12, .slice Ao13 t468.length co13] 28 (0, 0)) (by refine blk_far ?_ NB474_493.out _; refine blk_far ?_ NB474_493.out _; refine blk_far ?_ NB474_493.out _; exact BK474.out) hb); have n7_ := ak (blk_below (g := gb475) (o := .cells #[.int .i64 t471, .int .i64 t472, .int .i64 t473] 30 (0, 0)) (by refine blk_far ?_ NB475_493.out _; refine blk_far ?_ NB475_493.out _; refine blk_far ?_ NB475_493.out _; exact BK475.out) hb); have n8_ := ak (blk_below (g := gb484) (o := .cells #[.int .i64 t476, .slice Ao20 t477.length co20, .slice Ao21 t480.length co21] 28 (0, 0)) (by refine blk_far ?_ NB484_493.out _; refine blk_far ?_ NB484_493.out _; refine blk_far ?_ NB484_493.out _; exact BK484.out) hb); have n9_ := ak (blk_below (g := gb493) (o := .cells #[.int .i64 t485, .slice Ao30 t486.length co30, .slice Ao31 t489.length co31] 28 (0, 0)) (by refine blk_put (cs := #[.int .i64 t485, .slice Ao30 t486.length co30, .slice none 0 0]) ?_ 2 _ rfl; refine blk_put (cs := #[.int .i64 t485, .slice none 0 0, .slice none 0 0]) ?_ 1 _ rfl; refine blk_put (cs := #[.int .i64 0, .slice none 0 0, .slice none 0 0]) ?_ 0 _ rfl; exact BK493.out) hb); have n10_ := ak (below_step (bl4 HB GE474 GE475 GE484 GE493) hb); clear HO467; clear HO470; clear HO479; clear HO482; clear HO488; clear HO491; clear BK474; clear BK475; clear BK484; clear BK493; clear HB; have HO467 := n0_; have HO470 := n1_; have HO479 := n2_; have HO482 := n3_; have HO488 := n4_; have HO491 := n5_; have BK474 := n6_; have BK475 := n7_; have BK484 := n8_; have BK493 := n9_; have HB := n10_; clear n0_ n1_ n2_ n3_ n4_ n5_ n6_ n7_ n8_ n9_ n10_; (try clear hb); (try clear hb2); (try clear hk); (try clear hi)))
   repeat (go_quiet (fail); try go_wp2_with (fail))
   go_meet
   case rel => exact ⟨_, (true), (by rfl), H', ⟨by omega⟩, ⟨by exact Kd.R_mono HO467.out (fun _ hk => ⟨hk.1.2, hk.2⟩)⟩, ⟨by exact Kd.R_mono HO470.out (fun _ hk => ⟨hk.1.2, ⟨hk.2, hk.1.1.2⟩⟩)⟩, ⟨by exact Kd.R_mono HO479.out (fun _ hk => ⟨hk.1.2, hk.2⟩)⟩, ⟨by exact Kd.R_mono HO482.out (fun _ hk => ⟨hk.1.1.2, ⟨hk.2, hk.1.2⟩⟩)⟩, ⟨by exact Kd.R_mono HO488.out (fun _ hk => ⟨hk.1.2, hk.2⟩)⟩, ⟨by exact Kd.R_mono HO491.out (fun _ hk => ⟨hk.1.1.2, ⟨hk.1.2, hk.2⟩⟩)⟩, ⟨bk BK474⟩, ⟨bk BK475⟩, ⟨bk BK484⟩, ⟨bk BK493⟩, ⟨bl4 HB GE474 GE475 GE484 GE493⟩⟩
  subst c34
  rw [if_pos rfl] at H
  replace H := Option.bind_eq_some_iff.mp H
  obtain ⟨t495, A350, H⟩ := H
  have A35 := ak A350
  clear A350
  have H' := ak H
  clear H
  have hnb36 := NB484_474.out
  have hnc36 := NB474_484.out
  have hnb37 := NB484_475.out
  have hnc37 := NB475_484.out
  have hnb38 := NB484_493.out
  have hnc38 := NB493_484.out
  have hcz39_0 := bc w25 BK484 0 (.int .i64 t476) rfl
  have hcz39_1 := bc w25 BK484 1 (.slice Ao20 t477.length co20) rfl
  have hcz39_2 := bc w25 BK484 2 (.slice Ao21 t480.length co21) rfl
  have hfz39_0 := fz BK484 0
  have hfz39_1 := fz BK484 1
  have hfz39_2 := fz BK484 2
  have hnb40 := NB493_474.out
  have hnc40 := NB474_493.out
  have hnb41 := NB493_475.out
  have hnc41 := NB475_493.out
  have hcz42_0 := bc w25 BK493 0 (.int .i64 0) rfl
  have hcz42_1 := bc w25 BK493 1 (.slice none 0 0) rfl
  have hcz42_2 := bc w25 BK493 2 (.slice none 0 0) rfl
  have hfz42_0 := fz BK493 0
  have hfz42_1 := fz BK493 1
  have hfz42_2 := fz BK493 2
  go_wp2_with (first | (go_at_call 9; (with_reducible refine (laws_wkLive.calls k t476 _ _ t477 _ _ t480 t485 _ _ t486 _ _ t489 true _ ?side1 ?side2 ?side3 ?side4 ?side5 ?side6 ?side7 ?side8 A33.out).mono ?_); (case side1 => refine (Kd.R_reads' (e := 65) (base := w.heap.size) (ok := fun k_ => ((True ∧ some k_ ≠ (.slice Ao12 t465.length co12 : Value).ownBlock) ∧ some k_ ≠ (.slice Ao30 t486.length co30 : Value).ownBlock)) (n := t477.length) (c := co20) ?_).2.2; exact (by exact (Kd.R_mono (Kd.R_far (p := ⟨gb493, 2, none⟩) (Kd.R_far (p := ⟨gb493, 1, none⟩) (Kd.R_far (p := ⟨gb493, 0, none⟩) (Kd.R_types HO479.out BK493.out (by decide)) (fun _ hk => hk.2) (.int .i64 t485)) (fun _ hk => hk.2) (.slice Ao30 t486.length co30)) (fun _ hk => hk.2) (.slice Ao31 t489.length co31)) (fun _ h_ => h_.1)))); (case side2 => exact (Kd.R_reads' HO479.out).2.1); (case side3 => refine (Kd.R_reads' (e := 30) (base := w.heap.size) (ok := fun k_ => (((True ∧ some k_ ≠ (.slice Ao13 t468.length co13 : Value).ownBlock) ∧ k_ ≠ gb475) ∧ some k_ ≠ (.slice Ao31 t489.length co31 : Value).ownBlock)) (n := t480.length) (c := co21) ?_).2.2; exact (by exact (Kd.R_mono (Kd.R_far (p := ⟨gb493, 2, none⟩) (Kd.R_far (p := ⟨gb493, 1, none⟩) (Kd.R_far (p := ⟨gb493, 0, none⟩) (Kd.R_types HO482.out BK493.out (by decide)) (fun _ hk => hk.2) (.int .i64 t485)) (fun _ hk => hk.2) (.slice Ao30 t486.length co30)) (fun _ hk => hk.2) (.slice Ao31 t489.length co31)) (fun _ h_ => h_.1)))); (case side4 => exact (Kd.R_reads' HO482.out).2.1); (case side5 => refine (Kd.R_reads' (e := 65) (base := w.heap.size) (ok := fun k_ => ((True ∧ some k_ ≠ (.slice Ao12 t465.length co12 : Value).ownBlock) ∧ some k_ ≠ (.slice Ao20 t477.length co20 : Value).ownBlock)) (n := t486.length) (c := co30) ?_).2.2; exact (by exact (Kd.R_mono (Kd.R_far (p := ⟨gb493, 2, none⟩) (Kd.R_far (p := ⟨gb493, 1, none⟩) (Kd.R_far (p := ⟨gb493, 0, none⟩) (Kd.R_types HO488.out BK493.out (by decide)) (fun _ hk => hk.2) (.int .i64 t485)) (fun _ hk => hk.2) (.slice Ao30 t486.length co30)) (fun _ hk => hk.2) (.slice Ao31 t489.length co31)) (fun _ h_ => h_.1)))); (case side6 => exact (Kd.R_reads' HO488.out).2.1); (case side7 => refine (Kd.R_reads' (e := 30) (base := w.heap.size) (ok := fun k_ => (((True ∧ some k_ ≠ (.slice Ao13 t468.length co13 : Value).ownBlock) ∧ some k_ ≠ (.slice Ao21 t480.length co21 : Value).ownBlock) ∧ k_ ≠ gb475)) (n := t489.length) (c := co31) ?_).2.2; exact (by exact (Kd.R_mono (Kd.R_far (p := ⟨gb493, 2, none⟩) (Kd.R_far (p := ⟨gb493, 1, none⟩) (Kd.R_far (p := ⟨gb493, 0, none⟩) (Kd.R_types HO491.out BK493.out (by decide)) (fun _ hk => hk.2) (.int .i64 t485)) (fun _ hk => hk.2) (.slice Ao30 t486.length co30)) (fun _ hk => hk.2) (.slice Ao31 t489.length co31)) (fun _ h_ => h_.1)))); (case side8 => exact (Kd.R_reads' HO491.out).2.1); rintro e w43 ⟨rfl, hb⟩; have n0_ := ak (Kd.R_below (by exact (Kd.R_mono (Kd.R_far (p := ⟨gb493, 2, none⟩) (Kd.R_far (p := ⟨gb493, 1, none⟩) (Kd.R_far (p := ⟨gb493, 0, none⟩) (Kd.R_types HO467.out BK493.out (by decide)) (fun _ hk => hk.2) (.int .i64 t485)) (fun _ hk => hk.2) (.slice Ao30 t486.length co30)) (fun _ hk => hk.2) (.slice Ao31 t489.length co31)) (fun _ h_ => h_.1))) hb); have n1_ := ak (Kd.R_below (by exact (Kd.R_mono (Kd.R_far (p := ⟨gb493, 2, none⟩) (Kd.R_far (p := ⟨gb493, 1, none⟩) (Kd.R_far (p := ⟨gb493, 0, none⟩) (Kd.R_types HO470.out BK493.out (by decide)) (fun _ hk => hk.2) (.int .i64 t485)) (fun _ hk => hk.2) (.slice Ao30 t486.length co30)) (fun _ hk => hk.2) (.slice Ao31 t489.length co31)) (fun _ h_ => h_.1))) hb); have n2_ := ak (Kd.R_below (by exact (Kd.R_mono (Kd.R_far (p := ⟨gb493, 2, none⟩) (Kd.R_far (p := ⟨gb493, 1, none⟩) (Kd.R_far (p := ⟨gb493, 0, none⟩) (Kd.R_types HO479.out BK493.out (by decide)) (fun _ hk => hk.2) (.int .i64 t485)) (fun _ hk => hk.2) (.slice Ao30 t486.length co30)) (fun _ hk => hk.2) (.slice Ao31 t489.length co31)) (fun _ h_ => h_.1))) hb); have n3_ := ak (Kd.R_below (by exact (Kd.R_mono (Kd.R_far (p := ⟨gb493, 2, none⟩) (Kd.R_far (p := ⟨gb493, 1, none⟩) (Kd.R_far (p := ⟨gb493, 0, none⟩) (Kd.R_types HO482.out BK493.out (by decide)) (fun _ hk => hk.2) (.int .i64 t485)) (fun _ hk => hk.2) (.slice Ao30 t486.length co30)) (fun _ hk => hk.2) (.slice Ao31 t489.length co31)) (fun _ h_ => h_.1))) hb); have n4_ := ak (Kd.R_below (by exact (Kd.R_mono (Kd.R_far (p := ⟨gb493, 2, none⟩) (Kd.R_far (p := ⟨gb493, 1, none⟩) (Kd.R_far (p := ⟨gb493, 0, none⟩) (Kd.R_types HO488.out BK493.out (by decide)) (fun _ hk => hk.2) (.int .i64 t485)) (fun _ hk => hk.2) (.slice Ao30 t486.length co30)) (fun _ hk => hk.2) (.slice Ao31 t489.length co31)) (fun _ h_ => h_.1))) hb); have n5_ := ak (Kd.R_below (by exact (Kd.R_mono (Kd.R_far (p := ⟨gb493, 2, none⟩) (Kd.R_far (p := ⟨gb493, 1, none⟩) (Kd.R_far (p := ⟨gb493, 0, none⟩) (Kd.R_types HO491.out BK493.out (by decide)) (fun _ hk => hk.2) (.int .i64 t485)) (fun _ hk => hk.2) (.slice Ao30 t486.length co30)) (fun _ hk => hk.2) (.slice Ao31 t489.length co31)) (fun _ h_ => h_.1))) hb); have n6_ := ak (blk_below (g := gb474) (o := .cells #[.int .i64 t464, .slice Ao12 t465.length co12, .slice Ao13 t468.length co13] 28 (0, 0)) (by refine blk_far ?_ NB474_493.out _; refine blk_far ?_ NB474_493.out _; refine blk_far ?_ NB474_493.out _; exact BK474.out) hb); have n7_ := ak (blk_below (g := gb475) (o := .cells #[.int .i64 t471, .int .i64 t472, .int .i64 t473] 30 (0, 0)) (by refine blk_far ?_ NB475_493.out _; refine blk_far ?_ NB475_493.out _; refine blk_far ?_ NB475_493.out _; exact BK475.out) hb); have n8_ := ak (blk_below (g := gb484) (o := .cells #[.int .i64 t476, .slice Ao20 t477.length co20, .slice Ao21 t480.length co21] 28 (0, 0)) (by refine blk_far ?_ NB484_493.out _; refine blk_far ?_ NB484_493.out _; refine blk_far ?_ NB484_493.out _; exact BK484.out) hb); have n9_ := ak (blk_below (g := gb493) (o := .cells #[.int .i64 t485, .slice Ao30 t486.length co30, .slice Ao31 t489.length co31] 28 (0, 0)) (by refine blk_put (cs := #[.int .i64 t485, .slice Ao30 t486.length co30, .slice none 0 0]) ?_ 2 _ rfl; refine blk_put (cs := #[.int .i64 t485, .slice none 0 0, .slice none 0 0]) ?_ 1 _ rfl; refine blk_put (cs := #[.int .i64 0, .slice none 0 0, .slice none 0 0]) ?_ 0 _ rfl; exact BK493.out) hb); have n10_ := ak (below_step (bl4 HB GE474 GE475 GE484 GE493) hb); clear HO467; clear HO470; clear HO479; clear HO482; clear HO488; clear HO491; clear BK474; clear BK475; clear BK484; clear BK493; clear HB; have HO467 := n0_; have HO470 := n1_; have HO479 := n2_; have HO482 := n3_; have HO488 := n4_; have HO491 := n5_; have BK474 := n6_; have BK475 := n7_; have BK484 := n8_; have BK493 := n9_; have HB := n10_; clear n0_ n1_ n2_ n3_ n4_ n5_ n6_ n7_ n8_ n9_ n10_; (try clear hb); (try clear hb2); (try clear hk); (try clear hi); have hnb44 := NB474_475.out; have hnc44 := NB475_474.out; have hcz45_0 := bc w43 BK474 0 (.int .i64 t464) rfl; have hcz45_1 := bc w43 BK474 1 (.slice Ao12 t465.length co12) rfl; have hcz45_2 := bc w43 BK474 2 (.slice Ao13 t468.length co13) rfl; have hfz45_0 := fz BK474 0; have hfz45_1 := fz BK474 1; have hfz45_2 := fz BK474 2) | (go_at_call 10; (with_reducible refine (impl_LiveOk.calls k t464 _ _ t465 _ _ t468 t495 _ ?side1 ?side2 ?side3 ?side4 A35.out).mono ?_); (case side1 => repeat (exact (Kd.R_reads' HO467.out).2.2)); (case side2 => exact (Kd.R_reads' HO467.out).2.1); (case side3 => repeat (exact (Kd.R_reads' HO470.out).2.2)); (case side4 => exact (Kd.R_reads' HO470.out).2.1); rintro e w46 ⟨rfl, hb⟩; have n0_ := ak (Kd.R_below (rk HO467) hb); have n1_ := ak (Kd.R_below (rk HO470) hb); have n2_ := ak (Kd.R_below (rk HO479) hb); have n3_ := ak (Kd.R_below (rk HO482) hb); have n4_ := ak (Kd.R_below (rk HO488) hb); have n5_ := ak (Kd.R_below (rk HO491) hb); have n6_ := ak (blk_below (bk BK474) hb); have n7_ := ak (blk_below (bk BK475) hb); have n8_ := ak (blk_below (bk BK484) hb); have n9_ := ak (blk_below (bk BK493) hb); have n10_ := ak (below_step (bl4 HB GE474 GE475 GE484 GE493) hb); clear HO467; clear HO470; clear HO479; clear HO482; clear HO488; clear HO491; clear BK474; clear BK475; clear BK484; clear BK493; clear HB; have HO467 := n0_; have HO470 := n1_; have HO479 := n2_; have HO482 := n3_; have HO488 := n4_; have HO491 := n5_; have BK474 := n6_; have BK475 := n7_; have BK484 := n8_; have BK493 := n9_; have HB := n10_; clear n0_ n1_ n2_ n3_ n4_ n5_ n6_ n7_ n8_ n9_ n10_; (try clear hb); (try clear hb2); (try clear hk); (try clear hi)))
  repeat (go_quiet (fail); try go_wp2_with (fail))
  go_meet
  case rel => exact ⟨_, (!t495), (by rfl), H', ⟨by omega⟩, ⟨by exact Kd.R_mono HO467.out (fun _ hk => ⟨hk.1.2, hk.2⟩)⟩, ⟨by exact Kd.R_mono HO470.out (fun _ hk => ⟨hk.1.2, ⟨hk.2, hk.1.1.2⟩⟩)⟩, ⟨by exact Kd.R_mono HO479.out (fun _ hk => ⟨hk.1.2, hk.2⟩)⟩, ⟨by exact Kd.R_mono HO482.out (fun _ hk => ⟨hk.1.1.2, ⟨hk.2, hk.1.2⟩⟩)⟩, ⟨by exact Kd.R_mono HO488.out (fun _ hk => ⟨hk.1.2, hk.2⟩)⟩, ⟨by exact Kd.R_mono HO491.out (fun _ hk => ⟨hk.1.1.2, ⟨hk.1.2, hk.2⟩⟩)⟩, ⟨bk BK474⟩, ⟨bk BK475⟩, ⟨bk BK484⟩, ⟨bk BK493⟩, ⟨bl4 HB GE474 GE475 GE484 GE493⟩⟩
 clear HC6
 try clear c1
 try clear c2
 try clear c2b0
 try clear c2b1
 try clear p2
 try clear c3
 try clear c4
 try clear c5
 try clear c10
 try clear c17
 try clear c18
 try clear c26
 try clear c27
 try clear c28
 try clear c32
 try clear c32b0
 try clear c32b1
 try clear c32b2
 try clear c34
 try clear c36
 try clear c37
 try clear c38
 try clear c40
 try clear c41
 try clear c44
 try clear c47
 try clear c48
 try clear c49
 try clear c51
 try clear c52
 try clear hcz11_0
 try clear hcz11_1
 try clear hcz11_2
 try clear hcz14_0
 try clear hcz14_1
 try clear hcz14_2
 try clear hcz19_0
 try clear hcz19_1
 try clear hcz19_2
 try clear hcz22_0
 try clear hcz22_1
 try clear hcz22_2
 try clear hcz23_0
 try clear hcz23_1
 try clear hcz23_2
 try clear hcz29_0
 try clear hcz29_1
 try clear hcz29_2
 try clear hcz39_0
 try clear hcz39_1
 try clear hcz39_2
 try clear hcz42_0
 try clear hcz42_1
 try clear hcz42_2
 try clear hcz45_0
 try clear hcz45_1
 try clear hcz45_2
 try clear hcz50_0
 try clear hcz50_1
 try clear hcz50_2
 try clear hcz53_0
 try clear hcz53_1
 try clear hcz53_2
 try clear hfz11_0
 try clear hfz11_1
 try clear hfz11_2
 try clear hfz14_0
 try clear hfz14_1
 try clear hfz14_2
 try clear hfz19_0
 try clear hfz19_1
 try clear hfz19_2
 try clear hfz22_0
 try clear hfz22_1
 try clear hfz22_2
 try clear hfz23_0
 try clear hfz23_1
 try clear hfz23_2
 try clear hfz29_0
 try clear hfz29_1
 try clear hfz29_2
 try clear hfz39_0
 try clear hfz39_1
 try clear hfz39_2
 try clear hfz42_0
 try clear hfz42_1
 try clear hfz42_2
 try clear hfz45_0
 try clear hfz45_1
 try clear hfz45_2
 try clear hfz50_0
 try clear hfz50_1
 try clear hfz50_2
 try clear hfz53_0
 try clear hfz53_1
 try clear hfz53_2
 obtain ⟨kq, x48_5, rfl, HA, HJ5, HO_475001, HO_475002, HO_485001, HO_485002, HO_494001, HO_494002, BK474, BK475, BK484, BK493, HB⟩ := hcut
 cases kq with
 | zero => exact absurd HA.out (by simp [laws_FnLiveTell.j0])
 | succ kj5 =>
  have H := HA.out
  clear HA
  simp only [laws_FnLiveTell.j0] at H
  by_cases c55 : x48_5 = true
  ·subst c55
   rw [if_pos rfl] at H
   by_cases c56 : (t483 == t492) = true
   rotate_left
   ·rw [if_neg c56] at H
    have c56b0 : (t483 == t492) = false := by simpa using c56
    (try (have c56b1 : decide (t483 = t492) = false := by simpa using c56))
    (try (have c56b2 : (t483 == t492) = false := by simpa using c56))
    (try (have c56b3 : ¬ (t483 = t492) := by simpa using c56))
    clear c56
    exact absurd ((Option.some.inj H).trans hr_) Bool.false_ne_true
   rw [if_pos c56] at H
   have c56b0 : (t483 == t492) = true := c56
   (try (have c56b1 : decide (t483 = t492) = true := by simpa using c56))
   (try (have c56b2 : (t483 == t492) = true := by simpa using c56))
   clear c56
   replace H := Option.bind_eq_some_iff.mp H
   obtain ⟨t496, A570, H⟩ := H
   have A57 := ak A570
   clear A570
   obtain rfl := Option.some.inj H
   have hnb58 := NB484_474.out
   have hnc58 := NB474_484.out
   have hnb59 := NB484_475.out
   have hnc59 := NB475_484.out
   have hnb60 := NB484_493.out
   have hnc60 := NB493_484.out
   have hcz61_0 := bc wc BK484 0 (.int .i64 t476) rfl
   have hcz61_1 := bc wc BK484 1 (.slice Ao20 t477.length co20) rfl
   have hcz61_2 := bc wc BK484 2 (.slice Ao21 t480.length co21) rfl
   have hfz61_0 := fz BK484 0
   have hfz61_1 := fz BK484 1
   have hfz61_2 := fz BK484 2
   have hnb62 := NB493_474.out
   have hnc62 := NB474_493.out
   have hnb63 := NB493_475.out
   have hnc63 := NB475_493.out
   have hcz64_0 := bc wc BK493 0 (.int .i64 t485) rfl
   have hcz64_1 := bc wc BK493 1 (.slice Ao30 t486.length co30) rfl
   have hcz64_2 := bc wc BK493 2 (.slice Ao31 t489.length co31) rfl
   have hfz64_0 := fz BK493 0
   have hfz64_1 := fz BK493 1
   have hfz64_2 := fz BK493 2
   go_wp2_with ((go_at_call 9; (with_reducible refine (laws_wkLive.calls kj5 t476 _ _ t477 _ _ t480 t485 _ _ t486 _ _ t489 t496 _ ?side1 ?side2 ?side3 ?side4 ?side5 ?side6 ?side7 ?side8 A57.out).mono ?_); (case side1 => repeat (exact (Kd.R_reads' HO_485001.out).2.2)); (case side2 => exact (Kd.R_reads' HO_485001.out).2.1); (case side3 => repeat (exact (Kd.R_reads' HO_485002.out).2.2)); (case side4 => exact (Kd.R_reads' HO_485002.out).2.1); (case side5 => repeat (exact (Kd.R_reads' HO_494001.out).2.2)); (case side6 => exact (Kd.R_reads' HO_494001.out).2.1); (case side7 => repeat (exact (Kd.R_reads' HO_494002.out).2.2)); (case side8 => exact (Kd.R_reads' HO_494002.out).2.1); rintro e w65 ⟨rfl, hb⟩; have n0_ := ak (Kd.R_below (rk HO_475001) hb); have n1_ := ak (Kd.R_below (rk HO_475002) hb); have n2_ := ak (Kd.R_below (rk HO_485001) hb); have n3_ := ak (Kd.R_below (rk HO_485002) hb); have n4_ := ak (Kd.R_below (rk HO_494001) hb); have n5_ := ak (Kd.R_below (rk HO_494002) hb); have n6_ := ak (blk_below (bk BK474) hb); have n7_ := ak (blk_below (bk BK475) hb); have n8_ := ak (blk_below (bk BK484) hb); have n9_ := ak (blk_below (bk BK493) hb); have n10_ := ak (below_step (bl4 HB GE474 GE475 GE484 GE493) hb); clear HO_475001; clear HO_475002; clear HO_485001; clear HO_485002; clear HO_494001; clear HO_494002; clear BK474; clear BK475; clear BK484; clear BK493; clear HB; have HO_475001 := n0_; have HO_475002 := n1_; have HO_485001 := n2_; have HO_485002 := n3_; have HO_494001 := n4_; have HO_494002 := n5_; have BK474 := n6_; have BK475 := n7_; have BK484 := n8_; have BK493 := n9_; have HB := n10_; clear n0_ n1_ n2_ n3_ n4_ n5_ n6_ n7_ n8_ n9_ n10_; (try clear hb); (try clear hb2); (try clear hk); (try clear hi)))
   repeat (go_quiet (fail); try go_wp2_with (fail))
   go_ret
   exact ⟨by (simp [*, errW_none, errW_some] <;> rfl), bl4 HB GE474 GE475 GE484 GE493⟩
  replace c55 := Bool.eq_false_iff.mpr c55
  subst c55
  rw [if_neg (show ¬ (false = true) by decide)] at H
  by_cases c66 : t483 = true
  rotate_left
  ·replace c66 := Bool.eq_false_iff.mpr c66
   subst c66
   rw [if_neg (show ¬ (false = true) by decide)] at H
   replace H := Option.bind_eq_some_iff.mp H
   obtain ⟨t497, A1450, H⟩ := H
   have A145 := ak A1450
   clear A1450
   obtain rfl := Option.some.inj H
   have hnb146 := NB484_474.out
   have hnc146 := NB474_484.out
   have hnb147 := NB484_475.out
   have hnc147 := NB475_484.out
   have hnb148 := NB484_493.out
   have hnc148 := NB493_484.out
   have hcz149_0 := bc wc BK484 0 (.int .i64 t476) rfl
   have hcz149_1 := bc wc BK484 1 (.slice Ao20 t477.length co20) rfl
   have hcz149_2 := bc wc BK484 2 (.slice Ao21 t480.length co21) rfl
   have hfz149_0 := fz BK484 0
   have hfz149_1 := fz BK484 1
   have hfz149_2 := fz BK484 2
   have hnb150 := NB474_475.out
   have hnc150 := NB475_474.out
   have hnb151 := NB474_493.out
   have hnc151 := NB493_474.out
   have hcz152_0 := bc wc BK474 0 (.int .i64 t464) rfl
   have hcz152_1 := bc wc BK474 1 (.slice Ao12 t465.length co12) rfl
   have hcz152_2 := bc wc BK474 2 (.slice Ao13 t468.length co13) rfl
   have hfz152_0 := fz BK474 0
   have hfz152_1 := fz BK474 1
   have hfz152_2 := fz BK474 2
   go_wp2_with ((go_at_call 9; (with_reducible refine (laws_wkLive.calls kj5 t476 _ _ t477 _ _ t480 t464 _ _ t465 _ _ t468 t497 _ ?side1 ?side2 ?side3 ?side4 ?side5 ?side6 ?side7 ?side8 A145.out).mono ?_); (case side1 => repeat (exact (Kd.R_reads' HO_485001.out).2.2)); (case side2 => exact (Kd.R_reads' HO_485001.out).2.1); (case side3 => repeat (exact (Kd.R_reads' HO_485002.out).2.2)); (case side4 => exact (Kd.R_reads' HO_485002.out).2.1); (case side5 => repeat (exact (Kd.R_reads' HO_475001.out).2.2)); (case side6 => exact (Kd.R_reads' HO_475001.out).2.1); (case side7 => repeat (exact (Kd.R_reads' HO_475002.out).2.2)); (case side8 => exact (Kd.R_reads' HO_475002.out).2.1); rintro e w153 ⟨rfl, hb⟩; have n0_ := ak (Kd.R_below (rk HO_475001) hb); have n1_ := ak (Kd.R_below (rk HO_475002) hb); have n2_ := ak (Kd.R_below (rk HO_485001) hb); have n3_ := ak (Kd.R_below (rk HO_485002) hb); have n4_ := ak (Kd.R_below (rk HO_494001) hb); have n5_ := ak (Kd.R_below (rk HO_494002) hb); have n6_ := ak (blk_below (bk BK474) hb); have n7_ := ak (blk_below (bk BK475) hb); have n8_ := ak (blk_below (bk BK484) hb); have n9_ := ak (blk_below (bk BK493) hb); have n10_ := ak (below_step (bl4 HB GE474 GE475 GE484 GE493) hb); clear HO_475001; clear HO_475002; clear HO_485001; clear HO_485002; clear HO_494001; clear HO_494002; clear BK474; clear BK475; clear BK484; clear BK493; clear HB; have HO_475001 := n0_; have HO_475002 := n1_; have HO_485001 := n2_; have HO_485002 := n3_; have HO_494001 := n4_; have HO_494002 := n5_; have BK474 := n6_; have BK475 := n7_; have BK484 := n8_; have BK493 := n9_; have HB := n10_; clear n0_ n1_ n2_ n3_ n4_ n5_ n6_ n7_ n8_ n9_ n10_; (try clear hb); (try clear hb2); (try clear hk); (try clear hi)))
   repeat (go_quiet (fail); try go_wp2_with (fail))
   go_ret
   exact ⟨by (simp [*, errW_none, errW_some] <;> rfl), bl4 HB GE474 GE475 GE484 GE493⟩
  subst c66
  rw [if_pos rfl] at H
  have H' := ak H
  clear H
  go_wp2
  repeat (go_quiet (fail); try go_wp2)
  go_loopg [9, 10, 11] kj5 (fun kq v9 v10 v11 w' => ∃ (x9_2 : Bool) (x10_2 : Int) (x11_2 : Int), v9 = .bool x9_2 ∧ v10 = .int .i64 x10_2 ∧ v11 = .int .i64 x11_2 ∧ Aside0 (laws_FnLiveTell.l0 kq x9_2 x10_2 x11_2 t464 t465 t468 t471 t472 t473 t476 t477 t480 = some r) ∧ Aside0 (kq ≤ kj5) ∧ Aside0 (Kd.R k65 65 w' w.heap.size (fun k_ => some k_ ≠ ((.slice Ao20 t477.length co20) : Value).ownBlock ∧ some k_ ≠ ((.slice Ao30 t486.length co30) : Value).ownBlock) (.slice Ao12 t465.length co12) t465) ∧ Aside0 (Kd.R k30 30 w' w.heap.size (fun k_ => some k_ ≠ ((.slice Ao21 t480.length co21) : Value).ownBlock ∧ some k_ ≠ ((.slice Ao31 t489.length co31) : Value).ownBlock ∧ k_ ≠ gb475) (.slice Ao13 t468.length co13) t468) ∧ Aside0 (Kd.R k65 65 w' w.heap.size (fun k_ => some k_ ≠ ((.slice Ao12 t465.length co12) : Value).ownBlock ∧ some k_ ≠ ((.slice Ao30 t486.length co30) : Value).ownBlock) (.slice Ao20 t477.length co20) t477) ∧ Aside0 (Kd.R k30 30 w' w.heap.size (fun k_ => some k_ ≠ ((.slice Ao13 t468.length co13) : Value).ownBlock ∧ some k_ ≠ ((.slice Ao31 t489.length co31) : Value).ownBlock ∧ k_ ≠ gb475) (.slice Ao21 t480.length co21) t480) ∧ Aside0 (Kd.R k65 65 w' w.heap.size (fun k_ => some k_ ≠ ((.slice Ao12 t465.length co12) : Value).ownBlock ∧ some k_ ≠ ((.slice Ao20 t477.length co20) : Value).ownBlock) (.slice Ao30 t486.length co30) t486) ∧ Aside0 (Kd.R k30 30 w' w.heap.size (fun k_ => some k_ ≠ ((.slice Ao13 t468.length co13) : Value).ownBlock ∧ some k_ ≠ ((.slice Ao21 t480.length co21) : Value).ownBlock ∧ k_ ≠ gb475) (.slice Ao31 t489.length co31) t489) ∧ Aside0 (w'.heap[gb474]? = some (.cells #[.int .i64 t464, (.slice Ao12 t465.length co12), (.slice Ao13 t468.length co13)] 28 (0, 0))) ∧ Aside0 (w'.heap[gb475]? = some (.cells #[.int .i64 t471, .int .i64 t472, .int .i64 t473] 30 (0, 0))) ∧ Aside0 (w'.heap[gb484]? = some (.cells #[.int .i64 t476, (.slice Ao20 t477.length co20), (.slice Ao21 t480.length co21)] 28 (0, 0))) ∧ Aside0 (w'.heap[gb493]? = some (.cells #[.int .i64 t485, (.slice Ao30 t486.length co30), (.slice Ao31 t489.length co31)] 28 (0, 0))) ∧ Aside0 (Below w.heap.size w w'))
  case atStart => exact ⟨(false), (0), (0), (by rfl), (by rfl), (by rfl), H', ⟨Nat.le_refl _⟩, ⟨rk HO_475001⟩, ⟨rk HO_475002⟩, ⟨rk HO_485001⟩, ⟨rk HO_485002⟩, ⟨rk HO_494001⟩, ⟨rk HO_494002⟩, ⟨bk BK474⟩, ⟨bk BK475⟩, ⟨bk BK484⟩, ⟨bk BK493⟩, ⟨bl4 HB GE474 GE475 GE484 GE493⟩⟩
  clear H'
  try clear c1
  try clear c2
  try clear c2b0
  try clear c2b1
  try clear p2
  try clear c3
  try clear c4
  try clear c5
  try clear c6
  try clear c10
  try clear c17
  try clear c18
  try clear c26
  try clear c27
  try clear c28
  try clear c32
  try clear c32b0
  try clear c32b1
  try clear c32b2
  try clear c34
  try clear c36
  try clear c37
  try clear c38
  try clear c40
  try clear c41
  try clear c44
  try clear c47
  try clear c48
  try clear c49
  try clear c51
  try clear c52
  try clear c55
  try clear c56
  try clear c56b0
  try clear c56b1
  try clear c56b2
  try clear c58
  try clear c59
  try clear c60
  try clear c62
  try clear c63
  try clear c66
  try clear hcz11_0
  try clear hcz11_1
  try clear hcz11_2
  try clear hcz14_0
  try clear hcz14_1
  try clear hcz14_2
  try clear hcz19_0
  try clear hcz19_1
  try clear hcz19_2
  try clear hcz22_0
  try clear hcz22_1
  try clear hcz22_2
  try clear hcz23_0
  try clear hcz23_1
  try clear hcz23_2
  try clear hcz29_0
  try clear hcz29_1
  try clear hcz29_2
  try clear hcz39_0
  try clear hcz39_1
  try clear hcz39_2
  try clear hcz42_0
  try clear hcz42_1
  try clear hcz42_2
  try clear hcz45_0
  try clear hcz45_1
  try clear hcz45_2
  try clear hcz50_0
  try clear hcz50_1
  try clear hcz50_2
  try clear hcz53_0
  try clear hcz53_1
  try clear hcz53_2
  try clear hcz61_0
  try clear hcz61_1
  try clear hcz61_2
  try clear hcz64_0
  try clear hcz64_1
  try clear hcz64_2
  try clear hfz11_0
  try clear hfz11_1
  try clear hfz11_2
  try clear hfz14_0
  try clear hfz14_1
  try clear hfz14_2
  try clear hfz19_0
  try clear hfz19_1
  try clear hfz19_2
  try clear hfz22_0
  try clear hfz22_1
  try clear hfz22_2
  try clear hfz23_0
  try clear hfz23_1
  try clear hfz23_2
  try clear hfz29_0
  try clear hfz29_1
  try clear hfz29_2
  try clear hfz39_0
  try clear hfz39_1
  try clear hfz39_2
  try clear hfz42_0
  try clear hfz42_1
  try clear hfz42_2
  try clear hfz45_0
  try clear hfz45_1
  try clear hfz45_2
  try clear hfz50_0
  try clear hfz50_1
  try clear hfz50_2
  try clear hfz53_0
  try clear hfz53_1
  try clear hfz53_2
  try clear hfz61_0
  try clear hfz61_1
  try clear hfz61_2
  try clear hfz64_0
  try clear hfz64_1
  try clear hfz64_2
  try clear p2
  obtain ⟨x9_2, x10_2, x11_2, rfl, rfl, rfl, HA, HK2, HO_475001, HO_475002, HO_485001, HO_485002, HO_494001, HO_494002, BK474, BK475, BK484, BK493, HB⟩ := hrel
  cases gk with
  | zero => exact absurd HA.out (by simp [laws_FnLiveTell.l0])
  | succ k2 =>
   have H := HA.out
   clear HA
   simp only [laws_FnLiveTell.l0] at H
   by_cases c67 : x11_2 < (t480.length : Int)
   ·rw [if_pos c67] at H
    have c67b0 : decide (x11_2 < (t480.length : Int)) = true := decide_eq_true c67
    clear c67
    have HC68 := ak H
    clear H
    have hnb69 := NB484_474.out
    have hnc69 := NB474_484.out
    have hnb70 := NB484_475.out
    have hnc70 := NB475_484.out
    have hnb71 := NB484_493.out
    have hnc71 := NB493_484.out
    have hcz72_0 := bc wr BK484 0 (.int .i64 t476) rfl
    have hcz72_1 := bc wr BK484 1 (.slice Ao20 t477.length co20) rfl
    have hcz72_2 := bc wr BK484 2 (.slice Ao21 t480.length co21) rfl
    have hfz72_0 := fz BK484 0
    have hfz72_1 := fz BK484 1
    have hfz72_2 := fz BK484 2
    go_upto_region 15 with (fail)
    repeat (go_quiet (fail); go_upto_region 15 with (fail))
    go_cut [9] (fun v9 wc => ∃ (kq : Nat) (x9_67 : Bool), v9 = .bool x9_67 ∧ Aside0 (laws_FnLiveTell.j2 kq x9_67 x10_2 x11_2 t464 t465 t468 t471 t472 t473 t476 t477 t480 = some r) ∧ Aside0 (kq ≤ k2) ∧ Aside0 (Kd.R k65 65 wc w.heap.size (fun k_ => some k_ ≠ ((.slice Ao20 t477.length co20) : Value).ownBlock ∧ some k_ ≠ ((.slice Ao30 t486.length co30) : Value).ownBlock) (.slice Ao12 t465.length co12) t465) ∧ Aside0 (Kd.R k30 30 wc w.heap.size (fun k_ => some k_ ≠ ((.slice Ao21 t480.length co21) : Value).ownBlock ∧ some k_ ≠ ((.slice Ao31 t489.length co31) : Value).ownBlock ∧ k_ ≠ gb475) (.slice Ao13 t468.length co13) t468) ∧ Aside0 (Kd.R k65 65 wc w.heap.size (fun k_ => some k_ ≠ ((.slice Ao12 t465.length co12) : Value).ownBlock ∧ some k_ ≠ ((.slice Ao30 t486.length co30) : Value).ownBlock) (.slice Ao20 t477.length co20) t477) ∧ Aside0 (Kd.R k30 30 wc w.heap.size (fun k_ => some k_ ≠ ((.slice Ao13 t468.length co13) : Value).ownBlock ∧ some k_ ≠ ((.slice Ao31 t489.length co31) : Value).ownBlock ∧ k_ ≠ gb475) (.slice Ao21 t480.length co21) t480) ∧ Aside0 (Kd.R k65 65 wc w.heap.size (fun k_ => some k_ ≠ ((.slice Ao12 t465.length co12) : Value).ownBlock ∧ some k_ ≠ ((.slice Ao20 t477.length co20) : Value).ownBlock) (.slice Ao30 t486.length co30) t486) ∧ Aside0 (Kd.R k30 30 wc w.heap.size (fun k_ => some k_ ≠ ((.slice Ao13 t468.length co13) : Value).ownBlock ∧ some k_ ≠ ((.slice Ao21 t480.length co21) : Value).ownBlock ∧ k_ ≠ gb475) (.slice Ao31 t489.length co31) t489) ∧ Aside0 (wc.heap[gb474]? = some (.cells #[.int .i64 t464, (.slice Ao12 t465.length co12), (.slice Ao13 t468.length co13)] 28 (0, 0))) ∧ Aside0 (wc.heap[gb475]? = some (.cells #[.int .i64 t471, .int .i64 t472, .int .i64 t473] 30 (0, 0))) ∧ Aside0 (wc.heap[gb484]? = some (.cells #[.int .i64 t476, (.slice Ao20 t477.length co20), (.slice Ao21 t480.length co21)] 28 (0, 0))) ∧ Aside0 (wc.heap[gb493]? = some (.cells #[.int .i64 t485, (.slice Ao30 t486.length co30), (.slice Ao31 t489.length co31)] 28 (0, 0))) ∧ Aside0 (Below w.heap.size w wc))
    case first =>
     have H := HC68.out
     clear HC68
     by_cases c73 : x9_2 = true
     ·subst c73
      rw [if_pos rfl] at H
      have H' := ak H
      clear H
      go_wp2
      repeat (go_quiet (fail); try go_wp2)
      go_meet
      case rel => exact ⟨_, (true), (by rfl), H', ⟨by have := HJ5.out; have := HK2.out; omega⟩, ⟨rk HO_475001⟩, ⟨rk HO_475002⟩, ⟨rk HO_485001⟩, ⟨rk HO_485002⟩, ⟨rk HO_494001⟩, ⟨rk HO_494002⟩, ⟨bk BK474⟩, ⟨bk BK475⟩, ⟨bk BK484⟩, ⟨bk BK493⟩, ⟨bl4 HB GE474 GE475 GE484 GE493⟩⟩
     replace c73 := Bool.eq_false_iff.mpr c73
     subst c73
     rw [if_neg (show ¬ (false = true) by decide)] at H
     by_cases c74 : 0 ≤ x11_2
     rotate_left
     ·rw [if_neg c74] at H
      exact absurd H (by simp)
     rw [if_pos c74] at H
     have c74b0 : decide (0 ≤ x11_2) = true := decide_eq_true c74
     clear c74
     (skip)
     have H' := ak H
     clear H
     have hnb75 := NB484_474.out
     have hnc75 := NB474_484.out
     have hnb76 := NB484_475.out
     have hnc76 := NB475_484.out
     have hnb77 := NB484_493.out
     have hnc77 := NB493_484.out
     have hcz78_0 := bc wr BK484 0 (.int .i64 t476) rfl
     have hcz78_1 := bc wr BK484 1 (.slice Ao20 t477.length co20) rfl
     have hcz78_2 := bc wr BK484 2 (.slice Ao21 t480.length co21) rfl
     have hfz78_0 := fz BK484 0
     have hfz78_1 := fz BK484 1
     have hfz78_2 := fz BK484 2
     have p509 : 0 ≤ (x11_2 : Int) := oT (by (with_reducible assumption))
     have q509 : x11_2 < (t480.length : Int) := oT (by (with_reducible assumption))
     obtain ⟨ad509, e509, hx509_0, hx509_1, hx509_2⟩ := at_T30 (Kd.R_reads' HO_485002.out).2.2 x11_2 p509 q509
     cases e509
     replace p509 := eq_true p509
     replace q509 := eq_true q509
     have hnb79 := NB475_474.out
     have hnc79 := NB474_475.out
     have hnb80 := NB475_493.out
     have hnc80 := NB493_475.out
     have hcz81_0 := bc wr BK475 0 (.int .i64 t471) rfl
     have hcz81_1 := bc wr BK475 1 (.int .i64 t472) rfl
     have hcz81_2 := bc wr BK475 2 (.int .i64 t473) rfl
     have hfz81_0 := fz BK475 0
     have hfz81_1 := fz BK475 1
     have hfz81_2 := fz BK475 2
     go_wp2
     repeat (go_quiet (fail); try go_wp2)
     go_meet
     case rel => exact ⟨_, ((((rd_T30 t480 x11_2).f0) == t471 && (((rd_T30 t480 x11_2).f1) == t472 && (((rd_T30 t480 x11_2).f2) == t473)))), (by rfl), H', ⟨by have := HJ5.out; have := HK2.out; omega⟩, ⟨rk HO_475001⟩, ⟨rk HO_475002⟩, ⟨rk HO_485001⟩, ⟨rk HO_485002⟩, ⟨rk HO_494001⟩, ⟨rk HO_494002⟩, ⟨bk BK474⟩, ⟨bk BK475⟩, ⟨bk BK484⟩, ⟨bk BK493⟩, ⟨bl4 HB GE474 GE475 GE484 GE493⟩⟩
    clear HC68
    try clear c1
    try clear c2
    try clear c2b0
    try clear c2b1
    try clear p2
    try clear c3
    try clear c4
    try clear c5
    try clear p5
    try clear q5
    try clear hx5
    try clear c6
    try clear c7
    try clear c8
    try clear c10
    try clear c17
    try clear c18
    try clear c26
    try clear c27
    try clear c28
    try clear c32
    try clear c32b0
    try clear c32b1
    try clear c32b2
    try clear c34
    try clear c36
    try clear c37
    try clear c38
    try clear c40
    try clear c41
    try clear c44
    try clear c47
    try clear c48
    try clear c49
    try clear p50
    try clear q50
    try clear hx50
    try clear c51
    try clear c52
    try clear c55
    try clear c56
    try clear c56b0
    try clear c56b1
    try clear c56b2
    try clear c58
    try clear c59
    try clear c60
    try clear c62
    try clear c63
    try clear c66
    try clear c67
    try clear c67b0
    try clear c69
    try clear c70
    try clear c71
    try clear c73
    try clear c74
    try clear c74b0
    try clear c75
    try clear c76
    try clear c77
    try clear c79
    try clear c80
    try clear hcz11_0
    try clear hcz11_1
    try clear hcz11_2
    try clear hcz14_0
    try clear hcz14_1
    try clear hcz14_2
    try clear hcz19_0
    try clear hcz19_1
    try clear hcz19_2
    try clear hcz22_0
    try clear hcz22_1
    try clear hcz22_2
    try clear hcz23_0
    try clear hcz23_1
    try clear hcz23_2
    try clear hcz29_0
    try clear hcz29_1
    try clear hcz29_2
    try clear hcz39_0
    try clear hcz39_1
    try clear hcz39_2
    try clear hcz42_0
    try clear hcz42_1
    try clear hcz42_2
    try clear hcz45_0
    try clear hcz45_1
    try clear hcz45_2
    try clear hcz50_0
    try clear hcz50_1
    try clear hcz50_2
    try clear hcz53_0
    try clear hcz53_1
    try clear hcz53_2
    try clear hcz61_0
    try clear hcz61_1
    try clear hcz61_2
    try clear hcz64_0
    try clear hcz64_1
    try clear hcz64_2
    try clear hcz72_0
    try clear hcz72_1
    try clear hcz72_2
    try clear hcz78_0
    try clear hcz78_1
    try clear hcz78_2
    try clear hcz81_0
    try clear hcz81_1
    try clear hcz81_2
    try clear hfz11_0
    try clear hfz11_1
    try clear hfz11_2
    try clear hfz14_0
    try clear hfz14_1
    try clear hfz14_2
    try clear hfz19_0
    try clear hfz19_1
    try clear hfz19_2
    try clear hfz22_0
    try clear hfz22_1
    try clear hfz22_2
    try clear hfz23_0
    try clear hfz23_1
    try clear hfz23_2
    try clear hfz29_0
    try clear hfz29_1
    try clear hfz29_2
    try clear hfz39_0
    try clear hfz39_1
    try clear hfz39_2
    try clear hfz42_0
    try clear hfz42_1
    try clear hfz42_2
    try clear hfz45_0
    try clear hfz45_1
    try clear hfz45_2
    try clear hfz50_0
    try clear hfz50_1
    try clear hfz50_2
    try clear hfz53_0
    try clear hfz53_1
    try clear hfz53_2
    try clear hfz61_0
    try clear hfz61_1
    try clear hfz61_2
    try clear hfz64_0
    try clear hfz64_1
    try clear hfz64_2
    try clear hfz72_0
    try clear hfz72_1
    try clear hfz72_2
    try clear hfz78_0
    try clear hfz78_1
    try clear hfz78_2
    try clear hfz81_0
    try clear hfz81_1
    try clear hfz81_2
    try clear hx509_0
    try clear hx509_1
    try clear hx509_2
    try clear p2
    try clear p509
    try clear q509
    obtain ⟨kq, x9_67, rfl, HA, HJ67, HO_475001, HO_475002, HO_485001, HO_485002, HO_494001, HO_494002, BK474, BK475, BK484, BK493, HB⟩ := hcut
    cases kq with
    | zero => exact absurd HA.out (by simp [laws_FnLiveTell.j2])
    | succ kj67 =>
     have H := HA.out
     clear HA
     simp only [laws_FnLiveTell.j2] at H
     have H' := ak H
     clear H
     go_wp2
     repeat (go_quiet (fail); try go_wp2)
     go_loopg [10, 12] kj67 (fun kq v10 v12 w' => ∃ (x10_4 : Int) (x12_4 : Int), v10 = .int .i64 x10_4 ∧ v12 = .int .i64 x12_4 ∧ Aside0 (laws_FnLiveTell.l1 kq x9_67 x10_4 x11_2 x12_4 t464 t465 t468 t471 t472 t473 t476 t477 t480 = some r) ∧ Aside0 (kq ≤ kj67) ∧ Aside0 (Kd.R k65 65 w' w.heap.size (fun k_ => some k_ ≠ ((.slice Ao20 t477.length co20) : Value).ownBlock ∧ some k_ ≠ ((.slice Ao30 t486.length co30) : Value).ownBlock) (.slice Ao12 t465.length co12) t465) ∧ Aside0 (Kd.R k30 30 w' w.heap.size (fun k_ => some k_ ≠ ((.slice Ao21 t480.length co21) : Value).ownBlock ∧ some k_ ≠ ((.slice Ao31 t489.length co31) : Value).ownBlock ∧ k_ ≠ gb475) (.slice Ao13 t468.length co13) t468) ∧ Aside0 (Kd.R k65 65 w' w.heap.size (fun k_ => some k_ ≠ ((.slice Ao12 t465.length co12) : Value).ownBlock ∧ some k_ ≠ ((.slice Ao30 t486.length co30) : Value).ownBlock) (.slice Ao20 t477.length co20) t477) ∧ Aside0 (Kd.R k30 30 w' w.heap.size (fun k_ => some k_ ≠ ((.slice Ao13 t468.length co13) : Value).ownBlock ∧ some k_ ≠ ((.slice Ao31 t489.length co31) : Value).ownBlock ∧ k_ ≠ gb475) (.slice Ao21 t480.length co21) t480) ∧ Aside0 (Kd.R k65 65 w' w.heap.size (fun k_ => some k_ ≠ ((.slice Ao12 t465.length co12) : Value).ownBlock ∧ some k_ ≠ ((.slice Ao20 t477.length co20) : Value).ownBlock) (.slice Ao30 t486.length co30) t486) ∧ Aside0 (Kd.R k30 30 w' w.heap.size (fun k_ => some k_ ≠ ((.slice Ao13 t468.length co13) : Value).ownBlock ∧ some k_ ≠ ((.slice Ao21 t480.length co21) : Value).ownBlock ∧ k_ ≠ gb475) (.slice Ao31 t489.length co31) t489) ∧ Aside0 (w'.heap[gb474]? = some (.cells #[.int .i64 t464, (.slice Ao12 t465.length co12), (.slice Ao13 t468.length co13)] 28 (0, 0))) ∧ Aside0 (w'.heap[gb475]? = some (.cells #[.int .i64 t471, .int .i64 t472, .int .i64 t473] 30 (0, 0))) ∧ Aside0 (w'.heap[gb484]? = some (.cells #[.int .i64 t476, (.slice Ao20 t477.length co20), (.slice Ao21 t480.length co21)] 28 (0, 0))) ∧ Aside0 (w'.heap[gb493]? = some (.cells #[.int .i64 t485, (.slice Ao30 t486.length co30), (.slice Ao31 t489.length co31)] 28 (0, 0))) ∧ Aside0 (Below w.heap.size w w'))
     case atStart => exact ⟨(x10_2), (0), (by rfl), (by rfl), H', ⟨Nat.le_refl _⟩, ⟨rk HO_475001⟩, ⟨rk HO_475002⟩, ⟨rk HO_485001⟩, ⟨rk HO_485002⟩, ⟨rk HO_494001⟩, ⟨rk HO_494002⟩, ⟨bk BK474⟩, ⟨bk BK475⟩, ⟨bk BK484⟩, ⟨bk BK493⟩, ⟨bl4 HB GE474 GE475 GE484 GE493⟩⟩
     clear H'
     try clear c1
     try clear c2
     try clear c2b0
     try clear c2b1
     try clear p2
     try clear c3
     try clear c4
     try clear c5
     try clear p5
     try clear q5
     try clear hx5
     try clear c6
     try clear c7
     try clear c8
     try clear c10
     try clear c17
     try clear c18
     try clear c26
     try clear c27
     try clear c28
     try clear c32
     try clear c32b0
     try clear c32b1
     try clear c32b2
     try clear c34
     try clear c36
     try clear c37
     try clear c38
     try clear c40
     try clear c41
     try clear c44
     try clear c47
     try clear c48
     try clear c49
     try clear p50
     try clear q50
     try clear hx50
     try clear c51
     try clear c52
     try clear c55
     try clear c56
     try clear c56b0
     try clear c56b1
     try clear c56b2
     try clear c58
     try clear c59
     try clear c60
     try clear c62
     try clear c63
     try clear c66
     try clear c67
     try clear c67b0
     try clear c69
     try clear c70
     try clear c71
     try clear c73
     try clear c74
     try clear c74b0
     try clear c75
     try clear c76
     try clear c77
     try clear c79
     try clear c80
     try clear hcz11_0
     try clear hcz11_1
     try clear hcz11_2
     try clear hcz14_0
     try clear hcz14_1
     try clear hcz14_2
     try clear hcz19_0
     try clear hcz19_1
     try clear hcz19_2
     try clear hcz22_0
     try clear hcz22_1
     try clear hcz22_2
     try clear hcz23_0
     try clear hcz23_1
     try clear hcz23_2
     try clear hcz29_0
     try clear hcz29_1
     try clear hcz29_2
     try clear hcz39_0
     try clear hcz39_1
     try clear hcz39_2
     try clear hcz42_0
     try clear hcz42_1
     try clear hcz42_2
     try clear hcz45_0
     try clear hcz45_1
     try clear hcz45_2
     try clear hcz50_0
     try clear hcz50_1
     try clear hcz50_2
     try clear hcz53_0
     try clear hcz53_1
     try clear hcz53_2
     try clear hcz61_0
     try clear hcz61_1
     try clear hcz61_2
     try clear hcz64_0
     try clear hcz64_1
     try clear hcz64_2
     try clear hcz72_0
     try clear hcz72_1
     try clear hcz72_2
     try clear hcz78_0
     try clear hcz78_1
     try clear hcz78_2
     try clear hcz81_0
     try clear hcz81_1
     try clear hcz81_2
     try clear hfz11_0
     try clear hfz11_1
     try clear hfz11_2
     try clear hfz14_0
     try clear hfz14_1
     try clear hfz14_2
     try clear hfz19_0
     try clear hfz19_1
     try clear hfz19_2
     try clear hfz22_0
     try clear hfz22_1
     try clear hfz22_2
     try clear hfz23_0
     try clear hfz23_1
     try clear hfz23_2
     try clear hfz29_0
     try clear hfz29_1
     try clear hfz29_2
     try clear hfz39_0
     try clear hfz39_1
     try clear hfz39_2
     try clear hfz42_0
     try clear hfz42_1
     try clear hfz42_2
     try clear hfz45_0
     try clear hfz45_1
     try clear hfz45_2
     try clear hfz50_0
     try clear hfz50_1
     try clear hfz50_2
     try clear hfz53_0
     try clear hfz53_1
     try clear hfz53_2
     try clear hfz61_0
     try clear hfz61_1
     try clear hfz61_2
     try clear hfz64_0
     try clear hfz64_1
     try clear hfz64_2
     try clear hfz72_0
     try clear hfz72_1
     try clear hfz72_2
     try clear hfz78_0
     try clear hfz78_1
     try clear hfz78_2
     try clear hfz81_0
     try clear hfz81_1
     try clear hfz81_2
     try clear hx509_0
     try clear hx509_1
     try clear hx509_2
     try clear p2
     try clear p5
     try clear p50
     try clear p509
     try clear q5
     try clear q50
     try clear q509
     obtain ⟨x10_4, x12_4, rfl, rfl, HA, HK4, HO_475001, HO_475002, HO_485001, HO_485002, HO_494001, HO_494002, BK474, BK475, BK484, BK493, HB⟩ := hrel
     cases gk with
     | zero => exact absurd HA.out (by simp [laws_FnLiveTell.l1])
     | succ k4 =>
      have H := HA.out
      clear HA
      simp only [laws_FnLiveTell.l1] at H
      by_cases c82 : x12_4 < (t468.length : Int)
      rotate_left
      ·rw [if_neg c82] at H
       have c82b0 : decide (x12_4 < (t468.length : Int)) = false := decide_eq_false c82
       clear c82
       have H' := ak H
       clear H
       have hnb113 := NB474_475.out
       have hnc113 := NB475_474.out
       have hnb114 := NB474_484.out
       have hnc114 := NB484_474.out
       have hnb115 := NB474_493.out
       have hnc115 := NB493_474.out
       have hcz116_0 := bc wr BK474 0 (.int .i64 t464) rfl
       have hcz116_1 := bc wr BK474 1 (.slice Ao12 t465.length co12) rfl
       have hcz116_2 := bc wr BK474 2 (.slice Ao13 t468.length co13) rfl
       have hfz116_0 := fz BK474 0
       have hfz116_1 := fz BK474 1
       have hfz116_2 := fz BK474 2
       go_wp2
       repeat (go_quiet (fail); try go_wp2)
       go_roundg k4
       case measure => have := HJ5.out; have := HK2.out; have := HJ67.out; have := HK4.out; omega
       case rel => exact ⟨(x9_67), (x10_4), (wrap64 (x11_2 + 1)), (by rfl), (by rfl), (by rfl), H', ⟨by have := HJ5.out; have := HK2.out; have := HJ67.out; have := HK4.out; omega⟩, ⟨rk HO_475001⟩, ⟨rk HO_475002⟩, ⟨rk HO_485001⟩, ⟨rk HO_485002⟩, ⟨rk HO_494001⟩, ⟨rk HO_494002⟩, ⟨bk BK474⟩, ⟨bk BK475⟩, ⟨bk BK484⟩, ⟨bk BK493⟩, ⟨bl4 HB GE474 GE475 GE484 GE493⟩⟩
      rw [if_pos c82] at H
      have c82b0 : decide (x12_4 < (t468.length : Int)) = true := decide_eq_true c82
      clear c82
      by_cases c83 : 0 ≤ x11_2
      rotate_left
      ·rw [if_neg c83] at H
       exact absurd H (by simp)
      rw [if_pos c83] at H
      have c83b0 : decide (0 ≤ x11_2) = true := decide_eq_true c83
      clear c83
      by_cases c84 : x11_2 < (t480.length : Int)
      rotate_left
      ·rw [if_neg c84] at H
       exact absurd H (by simp)
      rw [if_pos c84] at H
      have c84b0 : decide (x11_2 < (t480.length : Int)) = true := decide_eq_true c84
      clear c84
      by_cases c85 : 0 ≤ x12_4
      rotate_left
      ·rw [if_neg c85] at H
       exact absurd H (by simp)
      rw [if_pos c85] at H
      have c85b0 : decide (0 ≤ x12_4) = true := decide_eq_true c85
      clear c85
      by_cases c86 : (((rd_T30 t480 x11_2).f0) == ((rd_T30 t468 x12_4).f0) && (((rd_T30 t480 x11_2).f1) == ((rd_T30 t468 x12_4).f1) && (((rd_T30 t480 x11_2).f2) == ((rd_T30 t468 x12_4).f2)))) = true
      rotate_left
      ·rw [if_neg c86] at H
       have c86b0 : (((rd_T30 t480 x11_2).f0) == ((rd_T30 t468 x12_4).f0) && (((rd_T30 t480 x11_2).f1) == ((rd_T30 t468 x12_4).f1) && (((rd_T30 t480 x11_2).f2) == ((rd_T30 t468 x12_4).f2)))) = false := by simpa using c86
       (try (have c86b1 : decide (((rd_T30 t480 x11_2).f0) = ((rd_T30 t468 x12_4).f0) && (((rd_T30 t480 x11_2).f1) == ((rd_T30 t468 x12_4).f1) && (((rd_T30 t480 x11_2).f2) == ((rd_T30 t468 x12_4).f2)))) = false := by simpa using c86))
       (try (have c86b2 : (((rd_T30 t480 x11_2).f0) == ((rd_T30 t468 x12_4).f0) && (((rd_T30 t480 x11_2).f1) == ((rd_T30 t468 x12_4).f1) && (((rd_T30 t480 x11_2).f2) == ((rd_T30 t468 x12_4).f2)))) = false := by simpa using c86))
       (try (have c86b3 : ¬ (((rd_T30 t480 x11_2).f0) = ((rd_T30 t468 x12_4).f0) && (((rd_T30 t480 x11_2).f1) == ((rd_T30 t468 x12_4).f1) && (((rd_T30 t480 x11_2).f2) == ((rd_T30 t468 x12_4).f2)))) := by simpa using c86))
       clear c86
       have H' := ak H
       clear H
       have hnb106 := NB474_475.out
       have hnc106 := NB475_474.out
       have hnb107 := NB474_484.out
       have hnc107 := NB484_474.out
       have hnb108 := NB474_493.out
       have hnc108 := NB493_474.out
       have hcz109_0 := bc wr BK474 0 (.int .i64 t464) rfl
       have hcz109_1 := bc wr BK474 1 (.slice Ao12 t465.length co12) rfl
       have hcz109_2 := bc wr BK474 2 (.slice Ao13 t468.length co13) rfl
       have hfz109_0 := fz BK474 0
       have hfz109_1 := fz BK474 1
       have hfz109_2 := fz BK474 2
       have hnb110 := NB484_475.out
       have hnc110 := NB475_484.out
       have hnb111 := NB484_493.out
       have hnc111 := NB493_484.out
       have hcz112_0 := bc wr BK484 0 (.int .i64 t476) rfl
       have hcz112_1 := bc wr BK484 1 (.slice Ao20 t477.length co20) rfl
       have hcz112_2 := bc wr BK484 2 (.slice Ao21 t480.length co21) rfl
       have hfz112_0 := fz BK484 0
       have hfz112_1 := fz BK484 1
       have hfz112_2 := fz BK484 2
       have p510 : 0 ≤ (x11_2 : Int) := oT (by (with_reducible assumption))
       have q510 : x11_2 < (t480.length : Int) := oT (by (with_reducible assumption))
       obtain ⟨ad510, e510, hx510_0, hx510_1, hx510_2⟩ := at_T30 (Kd.R_reads' HO_485002.out).2.2 x11_2 p510 q510
       cases e510
       replace p510 := eq_true p510
       replace q510 := eq_true q510
       have p511 : 0 ≤ (x12_4 : Int) := oT (by (with_reducible assumption))
       have q511 : x12_4 < (t468.length : Int) := oT (by (with_reducible assumption))
       obtain ⟨ad511, e511, hx511_0, hx511_1, hx511_2⟩ := at_T30 (Kd.R_reads' HO_475002.out).2.2 x12_4 p511 q511
       cases e511
       replace p511 := eq_true p511
       replace q511 := eq_true q511
       go_wp2
       repeat (go_quiet (fail); try go_wp2)
       go_roundg k4
       case measure => have := HJ5.out; have := HK2.out; have := HJ67.out; have := HK4.out; omega
       case rel => exact ⟨(x10_4), (wrap64 (x12_4 + 1)), (by rfl), (by rfl), H', ⟨by have := HJ5.out; have := HK2.out; have := HJ67.out; have := HK4.out; omega⟩, ⟨rk HO_475001⟩, ⟨rk HO_475002⟩, ⟨rk HO_485001⟩, ⟨rk HO_485002⟩, ⟨rk HO_494001⟩, ⟨rk HO_494002⟩, ⟨bk BK474⟩, ⟨bk BK475⟩, ⟨bk BK484⟩, ⟨bk BK493⟩, ⟨bl4 HB GE474 GE475 GE484 GE493⟩⟩
      rw [if_pos c86] at H
      have c86b0 : (((rd_T30 t480 x11_2).f0) == ((rd_T30 t468 x12_4).f0) && (((rd_T30 t480 x11_2).f1) == ((rd_T30 t468 x12_4).f1) && (((rd_T30 t480 x11_2).f2) == ((rd_T30 t468 x12_4).f2)))) = true := c86
      (try (have c86b1 : decide (((rd_T30 t480 x11_2).f0) = ((rd_T30 t468 x12_4).f0) && (((rd_T30 t480 x11_2).f1) == ((rd_T30 t468 x12_4).f1) && (((rd_T30 t480 x11_2).f2) == ((rd_T30 t468 x12_4).f2)))) = true := by simpa using c86))
      (try (have c86b2 : (((rd_T30 t480 x11_2).f0) == ((rd_T30 t468 x12_4).f0) && (((rd_T30 t480 x11_2).f1) == ((rd_T30 t468 x12_4).f1) && (((rd_T30 t480 x11_2).f2) == ((rd_T30 t468 x12_4).f2)))) = true := by simpa using c86))
      clear c86
      by_cases c87 : ((rd_T30 t480 x11_2).f0) = t471
      ·rw [if_pos c87] at H
       have c87b0 : (((rd_T30 t480 x11_2).f0) == t471) = true := beq_iff_eq.mpr c87
       have c87b1 : (((rd_T30 t480 x11_2).f0) != t471) = false := bne_eq_false_iff_eq.mpr c87
       clear c87
       have H' := ak H
       clear H
       have hnb88 := NB474_475.out
       have hnc88 := NB475_474.out
       have hnb89 := NB474_484.out
       have hnc89 := NB484_474.out
       have hnb90 := NB474_493.out
       have hnc90 := NB493_474.out
       have hcz91_0 := bc wr BK474 0 (.int .i64 t464) rfl
       have hcz91_1 := bc wr BK474 1 (.slice Ao12 t465.length co12) rfl
       have hcz91_2 := bc wr BK474 2 (.slice Ao13 t468.length co13) rfl
       have hfz91_0 := fz BK474 0
       have hfz91_1 := fz BK474 1
       have hfz91_2 := fz BK474 2
       have hnb92 := NB484_475.out
       have hnc92 := NB475_484.out
       have hnb93 := NB484_493.out
       have hnc93 := NB493_484.out
       have hcz94_0 := bc wr BK484 0 (.int .i64 t476) rfl
       have hcz94_1 := bc wr BK484 1 (.slice Ao20 t477.length co20) rfl
       have hcz94_2 := bc wr BK484 2 (.slice Ao21 t480.length co21) rfl
       have hfz94_0 := fz BK484 0
       have hfz94_1 := fz BK484 1
       have hfz94_2 := fz BK484 2
       have p510 : 0 ≤ (x11_2 : Int) := oT (by (with_reducible assumption))
       have q510 : x11_2 < (t480.length : Int) := oT (by (with_reducible assumption))
       obtain ⟨ad510, e510, hx510_0, hx510_1, hx510_2⟩ := at_T30 (Kd.R_reads' HO_485002.out).2.2 x11_2 p510 q510
       cases e510
       replace p510 := eq_true p510
       replace q510 := eq_true q510
       have p511 : 0 ≤ (x12_4 : Int) := oT (by (with_reducible assumption))
       have q511 : x12_4 < (t468.length : Int) := oT (by (with_reducible assumption))
       obtain ⟨ad511, e511, hx511_0, hx511_1, hx511_2⟩ := at_T30 (Kd.R_reads' HO_475002.out).2.2 x12_4 p511 q511
       cases e511
       replace p511 := eq_true p511
       replace q511 := eq_true q511
       have p512 : 0 ≤ (x11_2 : Int) := oT (by (with_reducible assumption))
       have q512 : x11_2 < (t480.length : Int) := oT (by (with_reducible assumption))
       obtain ⟨ad512, e512, hx512_0, hx512_1, hx512_2⟩ := at_T30 (Kd.R_reads' HO_485002.out).2.2 x11_2 p512 q512
       obtain rfl : ad510 = ad512 := (by injection e512)
       replace p512 := eq_true p512
       replace q512 := eq_true q512
       have hnb95 := NB475_493.out
       have hnc95 := NB493_475.out
       have hcz96_0 := bc wr BK475 0 (.int .i64 t471) rfl
       have hcz96_1 := bc wr BK475 1 (.int .i64 t472) rfl
       have hcz96_2 := bc wr BK475 2 (.int .i64 t473) rfl
       have hfz96_0 := fz BK475 0
       have hfz96_1 := fz BK475 1
       have hfz96_2 := fz BK475 2
       go_wp2
       repeat (go_quiet (fail); try go_wp2)
       go_roundg k4
       case measure => have := HJ5.out; have := HK2.out; have := HJ67.out; have := HK4.out; omega
       case rel => exact ⟨(x10_4), (wrap64 (x12_4 + 1)), (by rfl), (by rfl), H', ⟨by have := HJ5.out; have := HK2.out; have := HJ67.out; have := HK4.out; omega⟩, ⟨rk HO_475001⟩, ⟨rk HO_475002⟩, ⟨rk HO_485001⟩, ⟨rk HO_485002⟩, ⟨rk HO_494001⟩, ⟨rk HO_494002⟩, ⟨bk BK474⟩, ⟨bk BK475⟩, ⟨bk BK484⟩, ⟨bk BK493⟩, ⟨bl4 HB GE474 GE475 GE484 GE493⟩⟩
      rw [if_neg c87] at H
      have c87b0 : (((rd_T30 t480 x11_2).f0) == t471) = false := beq_eq_false_iff_ne.mpr c87
      have c87b1 : (((rd_T30 t480 x11_2).f0) != t471) = true := bne_iff_ne.mpr c87
      have H' := ak H
      clear H
      have hnb97 := NB474_475.out
      have hnc97 := NB475_474.out
      have hnb98 := NB474_484.out
      have hnc98 := NB484_474.out
      have hnb99 := NB474_493.out
      have hnc99 := NB493_474.out
      have hcz100_0 := bc wr BK474 0 (.int .i64 t464) rfl
      have hcz100_1 := bc wr BK474 1 (.slice Ao12 t465.length co12) rfl
      have hcz100_2 := bc wr BK474 2 (.slice Ao13 t468.length co13) rfl
      have hfz100_0 := fz BK474 0
      have hfz100_1 := fz BK474 1
      have hfz100_2 := fz BK474 2
      have hnb101 := NB484_475.out
      have hnc101 := NB475_484.out
      have hnb102 := NB484_493.out
      have hnc102 := NB493_484.out
      have hcz103_0 := bc wr BK484 0 (.int .i64 t476) rfl
      have hcz103_1 := bc wr BK484 1 (.slice Ao20 t477.length co20) rfl
      have hcz103_2 := bc wr BK484 2 (.slice Ao21 t480.length co21) rfl
      have hfz103_0 := fz BK484 0
      have hfz103_1 := fz BK484 1
      have hfz103_2 := fz BK484 2
      have p510 : 0 ≤ (x11_2 : Int) := oT (by (with_reducible assumption))
      have q510 : x11_2 < (t480.length : Int) := oT (by (with_reducible assumption))
      obtain ⟨ad510, e510, hx510_0, hx510_1, hx510_2⟩ := at_T30 (Kd.R_reads' HO_485002.out).2.2 x11_2 p510 q510
      cases e510
      replace p510 := eq_true p510
      replace q510 := eq_true q510
      have p511 : 0 ≤ (x12_4 : Int) := oT (by (with_reducible assumption))
      have q511 : x12_4 < (t468.length : Int) := oT (by (with_reducible assumption))
      obtain ⟨ad511, e511, hx511_0, hx511_1, hx511_2⟩ := at_T30 (Kd.R_reads' HO_475002.out).2.2 x12_4 p511 q511
      cases e511
      replace p511 := eq_true p511
      replace q511 := eq_true q511
      have p512 : 0 ≤ (x11_2 : Int) := oT (by (with_reducible assumption))
      have q512 : x11_2 < (t480.length : Int) := oT (by (with_reducible assumption))
      obtain ⟨ad512, e512, hx512_0, hx512_1, hx512_2⟩ := at_T30 (Kd.R_reads' HO_485002.out).2.2 x11_2 p512 q512
      obtain rfl : ad510 = ad512 := (by injection e512)
      replace p512 := eq_true p512
      replace q512 := eq_true q512
      have hnb104 := NB475_493.out
      have hnc104 := NB493_475.out
      have hcz105_0 := bc wr BK475 0 (.int .i64 t471) rfl
      have hcz105_1 := bc wr BK475 1 (.int .i64 t472) rfl
      have hcz105_2 := bc wr BK475 2 (.int .i64 t473) rfl
      have hfz105_0 := fz BK475 0
      have hfz105_1 := fz BK475 1
      have hfz105_2 := fz BK475 2
      go_wp2
      repeat (go_quiet (fail); try go_wp2)
      go_roundg k4
      case measure => have := HJ5.out; have := HK2.out; have := HJ67.out; have := HK4.out; omega
      case rel => exact ⟨(wrap64 (x10_4 + 1)), (wrap64 (x12_4 + 1)), (by rfl), (by rfl), H', ⟨by have := HJ5.out; have := HK2.out; have := HJ67.out; have := HK4.out; omega⟩, ⟨rk HO_475001⟩, ⟨rk HO_475002⟩, ⟨rk HO_485001⟩, ⟨rk HO_485002⟩, ⟨rk HO_494001⟩, ⟨rk HO_494002⟩, ⟨bk BK474⟩, ⟨bk BK475⟩, ⟨bk BK484⟩, ⟨bk BK493⟩, ⟨bl4 HB GE474 GE475 GE484 GE493⟩⟩
   rw [if_neg c67] at H
   have c67b0 : decide (x11_2 < (t480.length : Int)) = false := decide_eq_false c67
   clear c67
   replace H := Option.bind_eq_some_iff.mp H
   obtain ⟨⟨t498, t499, t502, t505⟩, A1170, H⟩ := H
   have A117 := ak A1170
   clear A1170
   replace H := Option.bind_eq_some_iff.mp H
   obtain ⟨t507, A1180, H⟩ := H
   have A118 := ak A1180
   clear A1180
   by_cases c119 : t507 = true
   rotate_left
   ·replace c119 := Bool.eq_false_iff.mpr c119
    subst c119
    rw [if_neg (show ¬ (false = true) by decide)] at H
    exact absurd ((Option.some.inj H).trans hr_) Bool.false_ne_true
   subst c119
   rw [if_pos rfl] at H
   by_cases c120 : x9_2 = true
   rotate_left
   ·replace c120 := Bool.eq_false_iff.mpr c120
    subst c120
    rw [if_neg (show ¬ (false = true) by decide)] at H
    exact absurd ((Option.some.inj H).trans hr_) Bool.false_ne_true
   subst c120
   rw [if_pos rfl] at H
   by_cases c121 : x10_2 = (wrap64 ((t480.length : Int) - 1))
   rotate_left
   ·rw [if_neg c121] at H
    have c121b0 : (x10_2 == (wrap64 ((t480.length : Int) - 1))) = false := beq_eq_false_iff_ne.mpr c121
    have c121b1 : (x10_2 != (wrap64 ((t480.length : Int) - 1))) = true := bne_iff_ne.mpr c121
    exact absurd ((Option.some.inj H).trans hr_) Bool.false_ne_true
   rw [if_pos c121] at H
   have c121b0 : (x10_2 == (wrap64 ((t480.length : Int) - 1))) = true := beq_iff_eq.mpr c121
   have c121b1 : (x10_2 != (wrap64 ((t480.length : Int) - 1))) = false := bne_eq_false_iff_eq.mpr c121
   clear c121
   by_cases c122 : t505 = true
   rotate_left
   ·replace c122 := Bool.eq_false_iff.mpr c122
    subst c122
    rw [if_neg (show ¬ (false = true) by decide)] at H
    exact absurd ((Option.some.inj H).trans hr_) Bool.false_ne_true
   subst c122
   rw [if_pos rfl] at H
   replace H := Option.bind_eq_some_iff.mp H
   obtain ⟨t508, A1230, H⟩ := H
   have A123 := ak A1230
   clear A1230
   obtain rfl := Option.some.inj H
   have hnb124 := NB484_474.out
   have hnc124 := NB474_484.out
   have hnb125 := NB484_475.out
   have hnc125 := NB475_484.out
   have hnb126 := NB484_493.out
   have hnc126 := NB493_484.out
   have hcz127_0 := bc wr BK484 0 (.int .i64 t476) rfl
   have hcz127_1 := bc wr BK484 1 (.slice Ao20 t477.length co20) rfl
   have hcz127_2 := bc wr BK484 2 (.slice Ao21 t480.length co21) rfl
   have hfz127_0 := fz BK484 0
   have hfz127_1 := fz BK484 1
   have hfz127_2 := fz BK484 2
   have hnb128 := NB475_474.out
   have hnc128 := NB474_475.out
   have hnb129 := NB475_493.out
   have hnc129 := NB493_475.out
   have hcz130_0 := bc wr BK475 0 (.int .i64 t471) rfl
   have hcz130_1 := bc wr BK475 1 (.int .i64 t472) rfl
   have hcz130_2 := bc wr BK475 2 (.int .i64 t473) rfl
   have hfz130_0 := fz BK475 0
   have hfz130_1 := fz BK475 1
   have hfz130_2 := fz BK475 2
   go_wp2_with (first | (go_at_call 7; (with_reducible refine (impl_LiveTell.calls k2 t476 _ _ t477 _ _ t480 t471 t472 t473 t498 t499 t502 true _ ?side1 ?side2 ?side3 ?side4 A117.out).mono ?_); (case side1 => repeat (exact (Kd.R_reads' HO_485001.out).2.2)); (case side2 => exact (Kd.R_reads' HO_485001.out).2.1); (case side3 => repeat (exact (Kd.R_reads' HO_485002.out).2.2)); (case side4 => exact (Kd.R_reads' HO_485002.out).2.1); rintro e w131 ⟨v500, v503, rfl, ho0, ho1, hb⟩; have n0_ := ak (Kd.R_elder' (rk HO_475001) (Kd.R_base ho0) hb); have n1_ := ak (Kd.R_elder' (rk HO_475002) (Kd.R_base ho1) hb); have n2_ := ak (Kd.R_elder' (rk HO_485001) (Kd.R_base ho0) hb); have n3_ := ak (Kd.R_elder' (rk HO_485002) (Kd.R_base ho1) hb); have n4_ := ak (Kd.R_elder' (rk HO_494001) (Kd.R_base ho0) hb); have n5_ := ak (Kd.R_elder' (rk HO_494002) (Kd.R_base ho1) hb); have n6_ := ak (Kd.R_lower (Kd.R_new' (Kd.R_new' (Kd.R_new' ho0 (Kd.R_lt (rk HO_475001))) (Kd.R_lt (rk HO_485001))) (Kd.R_lt (rk HO_494001))) (below_size (bl4 HB GE474 GE475 GE484 GE493))); have n7_ := ak (Kd.R_lower (Kd.R_newB (Kd.R_new' (Kd.R_new' (Kd.R_new' ho1 (Kd.R_lt (rk HO_475002))) (Kd.R_lt (rk HO_485002))) (Kd.R_lt (rk HO_494002))) (bk BK475)) (below_size (bl4 HB GE474 GE475 GE484 GE493))); have n8_ := ak (blk_below (bk BK474) hb); have n9_ := ak (blk_below (bk BK475) hb); have n10_ := ak (blk_below (bk BK484) hb); have n11_ := ak (blk_below (bk BK493) hb); have n12_ := ak (below_step (bl4 HB GE474 GE475 GE484 GE493) hb); clear HO_475001; clear HO_475002; clear HO_485001; clear HO_485002; clear HO_494001; clear HO_494002; clear BK474; clear BK475; clear BK484; clear BK493; clear HB; have HO_475001 := n0_; have HO_475002 := n1_; have HO_485001 := n2_; have HO_485002 := n3_; have HO_494001 := n4_; have HO_494002 := n5_; have HO501 := n6_; have HO504 := n7_; have BK474 := n8_; have BK475 := n9_; have BK484 := n10_; have BK493 := n11_; have HB := n12_; clear n0_ n1_ n2_ n3_ n4_ n5_ n6_ n7_ n8_ n9_ n10_ n11_ n12_; (try clear hb); (try clear hb2); (try clear hk); (try clear hi); (try clear ho0); (try clear ho1)) | ((with_reducible refine gate_dst (N := 13) rfl ?_); refine box_event ?hg (N := 13) ?hd (cs := #[.int .i64 0, .slice none 0 0, .slice none 0 0]) (t := 28) ?hr ?_; (case hd => rfl); (case hg => rfl); (case hr => (go_simp; done)); intro gb506 hg w132 hbox hb; replace HO_475001 := ak (Kd.R_below (rk HO_475001) hb); replace HO_475002 := ak (Kd.R_below (rk HO_475002) hb); replace HO_485001 := ak (Kd.R_below (rk HO_485001) hb); replace HO_485002 := ak (Kd.R_below (rk HO_485002) hb); replace HO_494001 := ak (Kd.R_below (rk HO_494001) hb); replace HO_494002 := ak (Kd.R_below (rk HO_494002) hb); replace HO501 := ak (Kd.R_below (rk HO501) hb); replace HO504 := ak (Kd.R_below (rk HO504) hb); have BK506 := ak (hbox); have GW506 := ak ((by rw [hg]; exact (below_size (bl4 HB GE474 GE475 GE484 GE493)) : w.heap.size ≤ gb506)); have GE506 := ak ((by rw [hg]; exact (below_size (bl4 HB GE474 GE475 GE484 GE493)) : w.heap.size ≤ gb506)); replace HB := ak (below_step (bl4 HB GE474 GE475 GE484 GE493) hb); have NB474_506 := ak ((by rw [hg]; exact Nat.ne_of_lt (blk_lt (bk BK474)) : gb474 ≠ gb506)); have NB506_474 := ak ((by rw [hg]; exact Nat.ne_of_gt (blk_lt (bk BK474)) : gb506 ≠ gb474)); replace BK474 := ak (blk_below (bk BK474) hb); have NB475_506 := ak ((by rw [hg]; exact Nat.ne_of_lt (blk_lt (bk BK475)) : gb475 ≠ gb506)); have NB506_475 := ak ((by rw [hg]; exact Nat.ne_of_gt (blk_lt (bk BK475)) : gb506 ≠ gb475)); replace BK475 := ak (blk_below (bk BK475) hb); have NB484_506 := ak ((by rw [hg]; exact Nat.ne_of_lt (blk_lt (bk BK484)) : gb484 ≠ gb506)); have NB506_484 := ak ((by rw [hg]; exact Nat.ne_of_gt (blk_lt (bk BK484)) : gb506 ≠ gb484)); replace BK484 := ak (blk_below (bk BK484) hb); have NB493_506 := ak ((by rw [hg]; exact Nat.ne_of_lt (blk_lt (bk BK493)) : gb493 ≠ gb506)); have NB506_493 := ak ((by rw [hg]; exact Nat.ne_of_gt (blk_lt (bk BK493)) : gb506 ≠ gb493)); replace BK493 := ak (blk_below (bk BK493) hb); clear hb hbox hg; have hnb133 := NB506_474.out; have hnc133 := NB474_506.out; have hnb134 := NB506_475.out; have hnc134 := NB475_506.out; have hnb135 := NB506_484.out; have hnc135 := NB484_506.out; have hnb136 := NB506_493.out; have hnc136 := NB493_506.out; have hcz137_0 := bc w132 BK506 0 (.int .i64 0) rfl; have hcz137_1 := bc w132 BK506 1 (.slice none 0 0) rfl; have hcz137_2 := bc w132 BK506 2 (.slice none 0 0) rfl; have hfz137_0 := fz BK506 0; have hfz137_1 := fz BK506 1; have hfz137_2 := fz BK506 2; obtain ⟨Ao138, co138, eo138⟩ := Kd.R_slice HO501.out; subst eo138; obtain ⟨Ao139, co139, eo139⟩ := Kd.R_slice HO504.out; subst eo139; have hcz140_0 := bc w132 BK484 0 (.int .i64 t476) rfl; have hcz140_1 := bc w132 BK484 1 (.slice Ao20 t477.length co20) rfl; have hcz140_2 := bc w132 BK484 2 (.slice Ao21 t480.length co21) rfl; have hfz140_0 := fz BK484 0; have hfz140_1 := fz BK484 1; have hfz140_2 := fz BK484 2) | (go_at_call 10; (with_reducible refine (impl_LiveOk.calls k2 t476 _ _ t477 _ _ t480 true _ ?side1 ?side2 ?side3 ?side4 A118.out).mono ?_); (case side1 => refine (Kd.R_reads' (e := 65) (base := w.heap.size) (ok := fun k_ => ((some k_ ≠ (.slice Ao12 t465.length co12 : Value).ownBlock ∧ some k_ ≠ (.slice Ao30 t486.length co30 : Value).ownBlock) ∧ some k_ ≠ (.slice Ao138 t499.length co138 : Value).ownBlock)) (n := t477.length) (c := co20) ?_).2.2; exact (by exact (Kd.R_mono (Kd.R_far (p := ⟨gb506, 2, none⟩) (Kd.R_far (p := ⟨gb506, 1, none⟩) (Kd.R_far (p := ⟨gb506, 0, none⟩) (Kd.R_types HO_485001.out BK506.out (by decide)) (fun _ hk => hk.2) (.int .i64 t498)) (fun _ hk => hk.2) (.slice Ao138 t499.length co138)) (fun _ hk => hk.2) (.slice Ao139 t502.length co139)) (fun _ h_ => h_.1)))); (case side2 => exact (Kd.R_reads' HO_485001.out).2.1); (case side3 => refine (Kd.R_reads' (e := 30) (base := w.heap.size) (ok := fun k_ => ((some k_ ≠ (.slice Ao13 t468.length co13 : Value).ownBlock ∧ (some k_ ≠ (.slice Ao31 t489.length co31 : Value).ownBlock ∧ k_ ≠ gb475)) ∧ some k_ ≠ (.slice Ao139 t502.length co139 : Value).ownBlock)) (n := t480.length) (c := co21) ?_).2.2; exact (by exact (Kd.R_mono (Kd.R_far (p := ⟨gb506, 2, none⟩) (Kd.R_far (p := ⟨gb506, 1, none⟩) (Kd.R_far (p := ⟨gb506, 0, none⟩) (Kd.R_types HO_485002.out BK506.out (by decide)) (fun _ hk => hk.2) (.int .i64 t498)) (fun _ hk => hk.2) (.slice Ao138 t499.length co138)) (fun _ hk => hk.2) (.slice Ao139 t502.length co139)) (fun _ h_ => h_.1)))); (case side4 => exact (Kd.R_reads' HO_485002.out).2.1); rintro e w141 ⟨rfl, hb⟩; have n0_ := ak (Kd.R_below (by exact (Kd.R_mono (Kd.R_far (p := ⟨gb506, 2, none⟩) (Kd.R_far (p := ⟨gb506, 1, none⟩) (Kd.R_far (p := ⟨gb506, 0, none⟩) (Kd.R_types HO_475001.out BK506.out (by decide)) (fun _ hk => hk.2) (.int .i64 t498)) (fun _ hk => hk.2) (.slice Ao138 t499.length co138)) (fun _ hk => hk.2) (.slice Ao139 t502.length co139)) (fun _ h_ => h_.1))) hb); have n1_ := ak (Kd.R_below (by exact (Kd.R_mono (Kd.R_far (p := ⟨gb506, 2, none⟩) (Kd.R_far (p := ⟨gb506, 1, none⟩) (Kd.R_far (p := ⟨gb506, 0, none⟩) (Kd.R_types HO_475002.out BK506.out (by decide)) (fun _ hk => hk.2) (.int .i64 t498)) (fun _ hk => hk.2) (.slice Ao138 t499.length co138)) (fun _ hk => hk.2) (.slice Ao139 t502.length co139)) (fun _ h_ => h_.1))) hb); have n2_ := ak (Kd.R_below (by exact (Kd.R_mono (Kd.R_far (p := ⟨gb506, 2, none⟩) (Kd.R_far (p := ⟨gb506, 1, none⟩) (Kd.R_far (p := ⟨gb506, 0, none⟩) (Kd.R_types HO_485001.out BK506.out (by decide)) (fun _ hk => hk.2) (.int .i64 t498)) (fun _ hk => hk.2) (.slice Ao138 t499.length co138)) (fun _ hk => hk.2) (.slice Ao139 t502.length co139)) (fun _ h_ => h_.1))) hb); have n3_ := ak (Kd.R_below (by exact (Kd.R_mono (Kd.R_far (p := ⟨gb506, 2, none⟩) (Kd.R_far (p := ⟨gb506, 1, none⟩) (Kd.R_far (p := ⟨gb506, 0, none⟩) (Kd.R_types HO_485002.out BK506.out (by decide)) (fun _ hk => hk.2) (.int .i64 t498)) (fun _ hk => hk.2) (.slice Ao138 t499.length co138)) (fun _ hk => hk.2) (.slice Ao139 t502.length co139)) (fun _ h_ => h_.1))) hb); have n4_ := ak (Kd.R_below (by exact (Kd.R_mono (Kd.R_far (p := ⟨gb506, 2, none⟩) (Kd.R_far (p := ⟨gb506, 1, none⟩) (Kd.R_far (p := ⟨gb506, 0, none⟩) (Kd.R_types HO_494001.out BK506.out (by decide)) (fun _ hk => hk.2) (.int .i64 t498)) (fun _ hk => hk.2) (.slice Ao138 t499.length co138)) (fun _ hk => hk.2) (.slice Ao139 t502.length co139)) (fun _ h_ => h_.1))) hb); have n5_ := ak (Kd.R_below (by exact (Kd.R_mono (Kd.R_far (p := ⟨gb506, 2, none⟩) (Kd.R_far (p := ⟨gb506, 1, none⟩) (Kd.R_far (p := ⟨gb506, 0, none⟩) (Kd.R_types HO_494002.out BK506.out (by decide)) (fun _ hk => hk.2) (.int .i64 t498)) (fun _ hk => hk.2) (.slice Ao138 t499.length co138)) (fun _ hk => hk.2) (.slice Ao139 t502.length co139)) (fun _ h_ => h_.1))) hb); have n6_ := ak (Kd.R_below (by exact (Kd.R_mono (Kd.R_far (p := ⟨gb506, 2, none⟩) (Kd.R_far (p := ⟨gb506, 1, none⟩) (Kd.R_far (p := ⟨gb506, 0, none⟩) (Kd.R_types HO501.out BK506.out (by decide)) (fun _ hk => hk.2) (.int .i64 t498)) (fun _ hk => hk.2) (.slice Ao138 t499.length co138)) (fun _ hk => hk.2) (.slice Ao139 t502.length co139)) (fun _ h_ => h_.1))) hb); have n7_ := ak (Kd.R_below (by exact (Kd.R_mono (Kd.R_far (p := ⟨gb506, 2, none⟩) (Kd.R_far (p := ⟨gb506, 1, none⟩) (Kd.R_far (p := ⟨gb506, 0, none⟩) (Kd.R_types HO504.out BK506.out (by decide)) (fun _ hk => hk.2) (.int .i64 t498)) (fun _ hk => hk.2) (.slice Ao138 t499.length co138)) (fun _ hk => hk.2) (.slice Ao139 t502.length co139)) (fun _ h_ => h_.1))) hb); have n8_ := ak (blk_below (g := gb474) (o := .cells #[.int .i64 t464, .slice Ao12 t465.length co12, .slice Ao13 t468.length co13] 28 (0, 0)) (by refine blk_far ?_ NB474_506.out _; refine blk_far ?_ NB474_506.out _; refine blk_far ?_ NB474_506.out _; exact BK474.out) hb); have n9_ := ak (blk_below (g := gb475) (o := .cells #[.int .i64 t471, .int .i64 t472, .int .i64 t473] 30 (0, 0)) (by refine blk_far ?_ NB475_506.out _; refine blk_far ?_ NB475_506.out _; refine blk_far ?_ NB475_506.out _; exact BK475.out) hb); have n10_ := ak (blk_below (g := gb484) (o := .cells #[.int .i64 t476, .slice Ao20 t477.length co20, .slice Ao21 t480.length co21] 28 (0, 0)) (by refine blk_far ?_ NB484_506.out _; refine blk_far ?_ NB484_506.out _; refine blk_far ?_ NB484_506.out _; exact BK484.out) hb); have n11_ := ak (blk_below (g := gb493) (o := .cells #[.int .i64 t485, .slice Ao30 t486.length co30, .slice Ao31 t489.length co31] 28 (0, 0)) (by refine blk_far ?_ NB493_506.out _; refine blk_far ?_ NB493_506.out _; refine blk_far ?_ NB493_506.out _; exact BK493.out) hb); have n12_ := ak (blk_below (g := gb506) (o := .cells #[.int .i64 t498, .slice Ao138 t499.length co138, .slice Ao139 t502.length co139] 28 (0, 0)) (by refine blk_put (cs := #[.int .i64 t498, .slice Ao138 t499.length co138, .slice none 0 0]) ?_ 2 _ rfl; refine blk_put (cs := #[.int .i64 t498, .slice none 0 0, .slice none 0 0]) ?_ 1 _ rfl; refine blk_put (cs := #[.int .i64 0, .slice none 0 0, .slice none 0 0]) ?_ 0 _ rfl; exact BK506.out) hb); have n13_ := ak (below_step (by repeat ((with_reducible first | exact HB.out | refine below_set ?_ GE506.out))) hb); clear HO_475001; clear HO_475002; clear HO_485001; clear HO_485002; clear HO_494001; clear HO_494002; clear HO501; clear HO504; clear BK474; clear BK475; clear BK484; clear BK493; clear BK506; clear HB; have HO_475001 := n0_; have HO_475002 := n1_; have HO_485001 := n2_; have HO_485002 := n3_; have HO_494001 := n4_; have HO_494002 := n5_; have HO501 := n6_; have HO504 := n7_; have BK474 := n8_; have BK475 := n9_; have BK484 := n10_; have BK493 := n11_; have BK506 := n12_; have HB := n13_; clear n0_ n1_ n2_ n3_ n4_ n5_ n6_ n7_ n8_ n9_ n10_ n11_ n12_ n13_; (try clear hb); (try clear hb2); (try clear hk); (try clear hi); have hcz142_0 := bc w141 BK484 0 (.int .i64 t476) rfl; have hcz142_1 := bc w141 BK484 1 (.slice Ao20 t477.length co20) rfl; have hcz142_2 := bc w141 BK484 2 (.slice Ao21 t480.length co21) rfl; have hfz142_0 := fz BK484 0; have hfz142_1 := fz BK484 1; have hfz142_2 := fz BK484 2; have hcz143_0 := bc w141 BK506 0 (.int .i64 t498) rfl; have hcz143_1 := bc w141 BK506 1 (.slice Ao138 t499.length co138) rfl; have hcz143_2 := bc w141 BK506 2 (.slice Ao139 t502.length co139) rfl; have hfz143_0 := fz BK506 0; have hfz143_1 := fz BK506 1; have hfz143_2 := fz BK506 2) | (go_at_call 9; (with_reducible refine (laws_wkLive.calls k2 t498 _ _ t499 _ _ t502 t476 _ _ t477 _ _ t480 t508 _ ?side1 ?side2 ?side3 ?side4 ?side5 ?side6 ?side7 ?side8 A123.out).mono ?_); (case side1 => repeat (exact (Kd.R_reads' HO501.out).2.2)); (case side2 => exact (Kd.R_reads' HO501.out).2.1); (case side3 => repeat (exact (Kd.R_reads' HO504.out).2.2)); (case side4 => exact (Kd.R_reads' HO504.out).2.1); (case side5 => repeat (exact (Kd.R_reads' HO_485001.out).2.2)); (case side6 => exact (Kd.R_reads' HO_485001.out).2.1); (case side7 => repeat (exact (Kd.R_reads' HO_485002.out).2.2)); (case side8 => exact (Kd.R_reads' HO_485002.out).2.1); rintro e w144 ⟨rfl, hb⟩; have n0_ := ak (Kd.R_below (rk HO_475001) hb); have n1_ := ak (Kd.R_below (rk HO_475002) hb); have n2_ := ak (Kd.R_below (rk HO_485001) hb); have n3_ := ak (Kd.R_below (rk HO_485002) hb); have n4_ := ak (Kd.R_below (rk HO_494001) hb); have n5_ := ak (Kd.R_below (rk HO_494002) hb); have n6_ := ak (Kd.R_below (rk HO501) hb); have n7_ := ak (Kd.R_below (rk HO504) hb); have n8_ := ak (blk_below (bk BK474) hb); have n9_ := ak (blk_below (bk BK475) hb); have n10_ := ak (blk_below (bk BK484) hb); have n11_ := ak (blk_below (bk BK493) hb); have n12_ := ak (blk_below (bk BK506) hb); have n13_ := ak (below_step (by repeat ((with_reducible exact HB.out))) hb); clear HO_475001; clear HO_475002; clear HO_485001; clear HO_485002; clear HO_494001; clear HO_494002; clear HO501; clear HO504; clear BK474; clear BK475; clear BK484; clear BK493; clear BK506; clear HB; have HO_475001 := n0_; have HO_475002 := n1_; have HO_485001 := n2_; have HO_485002 := n3_; have HO_494001 := n4_; have HO_494002 := n5_; have HO501 := n6_; have HO504 := n7_; have BK474 := n8_; have BK475 := n9_; have BK484 := n10_; have BK493 := n11_; have BK506 := n12_; have HB := n13_; clear n0_ n1_ n2_ n3_ n4_ n5_ n6_ n7_ n8_ n9_ n10_ n11_ n12_ n13_; (try clear hb); (try clear hb2); (try clear hk); (try clear hi)))
   repeat (go_quiet (fail); try go_wp2_with (fail))
   go_ret
   exact ⟨by (simp [*, errW_none, errW_some] <;> rfl), by repeat ((with_reducible exact HB.out))⟩

/-- THE ONE PURE STATEMENT of laws_FnLiveTell: yours. -/
def laws_FnLiveTell.Pure : Prop := ∀ (l0 : List Int), l0.length ≤ maxLen → l0.length * 1 ≤ 140737488351232 → (∀ x ∈ l0, (Lit.int .u8 x).wf = true) → ∃ k, laws_FnLiveTell.f k l0 = some true
theorem laws_FnLiveTell.walk (P : laws_FnLiveTell.Pure) (a0 : Option Addr) (len0 cap0 : Nat) (z0 : List Int) (w : World) (w0 : (a0 = none ∧ len0 = 0 ∧ cap0 = 0 ∧ z0 = []) ∨ ∃ x, a0 = some x ∧ len0 ≤ cap0 ∧ cap0 ≤ maxLen ∧ z0.length = cap0 ∧ (∀ i, i < z0.length → w.cell? (x.add i) = some (.int .u8 (z0.getD i 0))) ∧ ∀ n ∈ z0, (Lit.int .u8 n).wf = true) (y0 : len0 * 1 ≤ 140737488351232) :
  Calls Try.prog 4 #[.slice a0 len0 cap0] w fun e w' => e = .returned (.bool true) ∧ Below w.heap.size w w' := by
 obtain ⟨l0, rfl, hr0, hm0, hw0, hc0⟩ := ReadsInt.ofRowC w0
 obtain ⟨k, h⟩ := P l0 hm0 y0 hw0
 refine (laws_FnLiveTell.calls k _ _ l0 true w (Kd.C_of_reads (d := (0 : Int)) (h1 := fun _ => rfl) hr0) hc0 h rfl).mono ?_
 rintro e w' ⟨rfl, hd⟩
 exact ⟨rfl, hd⟩

end Go.Proofs.Ytbcedkcjodokkaa.F
