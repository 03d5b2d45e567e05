-- Printed by wip/px/px.py of this claim's repository (the kit's printer, extended there). Lean checks it.
import Derived.Test.YtbcedkcjodokkaaFKinds
import Derived.Test.YtbcedkcjodokkaaFimplLiveOk
import Derived.Test.YtbcedkcjodokkaaFimplLiveTell
import Derived.Test.YtbcedkcjodokkaaFlawswkLive
import Derived.Test.YtbcedkcjodokkaaFspecDrawLiveOver
import Derived.Test.YtbcedkcjodokkaaFimplLiveOver
import Derived.Test.YtbcedkcjodokkaaFspecLiveOver
namespace Go.Proofs.Ytbcedkcjodokkaa.F
open Go.RowKit Go.Proofs.YtbcedkcjodokkaaW.PrintWords Go.Proofs.YtbcedkcjodokkaaW.PrintLast Go.Proofs.YtbcedkcjodokkaaW.PrintMore
attribute [local go_sem] max2_int min2_int max_two min_two max_three min_three max_four min_four   -- for this text's walks alone
set_option linter.unusedVariables false
set_option linter.unusedSimpArgs false

/-! ### laws_FnLiveOver: function 5 -/
mutual
def laws_FnLiveOver.j0 : Nat → Int → Bool → Bool → Bool → Int → List (S65) → List (S30) → Int → List (S65) → List (S30) → Int → List (S65) → List (S30) → Option (Bool)
 | 0, _, _, _, _, _, _, _, _, _, _, _, _, _ => none
 | k + 1, x4, x6, x8, x45, x569000, x569001, x569002, x578000, x578001, x578002, x587000, x587001, x587002 => if x45 = true then (if (x6 == x8) = true then ((laws_wkLive.f k x578000 x578001 x578002 x587000 x587001 x587002).bind fun t589 => (some t589)) else (some false)) else (laws_FnLiveOver.l0 k x4 x6 0 x569000 x569001 x569002 x578000 x578001 x578002)
def laws_FnLiveOver.l0 : Nat → Int → Bool → Int → Int → List (S65) → List (S30) → Int → List (S65) → List (S30) → Option (Bool)
 | 0, _, _, _, _, _, _, _, _, _ => none
 | k + 1, x4, x6, x9, x569000, x569001, x569002, x578000, x578001, x578002 => if x9 < (x569002.length : Int) then (if 0 ≤ x9 then (if ((rd_T30 x569002 x9).f0) = x4 then ((impl_LiveTell.f k x578000 x578001 x578002 ((rd_T30 x569002 x9).f0) ((rd_T30 x569002 x9).f1) ((rd_T30 x569002 x9).f2)).bind fun bt593 => (if x6 = true then (if (x578002.length : Int) = (wrap64 ((x569002.length : Int) - 1)) then (if bt593.2.2.2 = true then ((laws_wkLive.f k bt593.1 bt593.2.1 bt593.2.2.1 x569000 x569001 x569002).bind fun t602 => (if t602 = true then ((impl_LiveOk.f k x578000 x578001 x578002).bind fun t603 => (some t603)) else (some false))) else (some false)) else (some false)) else (some false))) else (laws_FnLiveOver.l0 k x4 x6 (wrap64 (x9 + 1)) x569000 x569001 x569002 x578000 x578001 x578002)) else (none)) else (if x6 = true then (some false) else ((laws_wkLive.f k x578000 x578001 x578002 x569000 x569001 x569002).bind fun t590 => (some t590)))
end
def laws_FnLiveOver.f (k : Nat) (l0 : List Int) : Option (Bool) := if (l0.length : Int) > 1048576 then (some true) else ((spec_DrawLiveOver.f k l0).bind fun bt560 => ((impl_LiveOver.f k bt560.1 bt560.2.1 bt560.2.2.1 bt560.2.2.2).bind fun bt569 => ((spec_LiveOver.f k bt560.1 bt560.2.1 bt560.2.2.1 bt560.2.2.2).bind fun bt578 => (if (bt569.2.2.2 != bt578.2.2.2) = true then (laws_FnLiveOver.j0 k bt560.2.2.2 bt569.2.2.2 bt578.2.2.2 true bt560.1 bt560.2.1 bt560.2.2.1 bt569.1 bt569.2.1 bt569.2.2.1 bt578.1 bt578.2.1 bt578.2.2.1) else ((laws_wkLive.f k bt569.1 bt569.2.1 bt569.2.2.1 bt578.1 bt578.2.1 bt578.2.2.1).bind fun t587 => (if t587 = true then ((impl_LiveOk.f k bt560.1 bt560.2.1 bt560.2.2.1).bind fun t588 => (laws_FnLiveOver.j0 k bt560.2.2.2 bt569.2.2.2 bt578.2.2.2 (!t588) bt560.1 bt560.2.1 bt560.2.2.1 bt569.1 bt569.2.1 bt569.2.2.1 bt578.1 bt578.2.1 bt578.2.2.1)) else (laws_FnLiveOver.j0 k bt560.2.2.2 bt569.2.2.2 bt578.2.2.2 true bt560.1 bt560.2.1 bt560.2.2.1 bt569.1 bt569.2.1 bt569.2.2.1 bt578.1 bt578.2.1 bt578.2.2.1)))))))
theorem laws_FnLiveOver.mono_l : ∀ k, (∀ y0 y1 y2 y3 y4 y5 y6 y7 y8 y9 y10 y11 y12, LeO (laws_FnLiveOver.j0 k y0 y1 y2 y3 y4 y5 y6 y7 y8 y9 y10 y11 y12) (laws_FnLiveOver.j0 (k + 1) y0 y1 y2 y3 y4 y5 y6 y7 y8 y9 y10 y11 y12)) ∧ (∀ y0 y1 y2 y3 y4 y5 y6 y7 y8, LeO (laws_FnLiveOver.l0 k y0 y1 y2 y3 y4 y5 y6 y7 y8) (laws_FnLiveOver.l0 (k + 1) y0 y1 y2 y3 y4 y5 y6 y7 y8))
 | 0 => ⟨fun _ _ _ _ _ _ _ _ _ _ _ _ _ r h => by simp [laws_FnLiveOver.j0] at h, fun _ _ _ _ _ _ _ _ _ r h => by simp [laws_FnLiveOver.l0] at h⟩
 | k + 1 => by
  obtain ⟨ih0, ih1⟩ := laws_FnLiveOver.mono_l k
  refine ⟨?_, ?_⟩
  ·intro y0 y1 y2 y3 y4 y5 y6 y7 y8 y9 y10 y11 y12
   unfold laws_FnLiveOver.j0
   repeat' first | (with_reducible exact ih1 _ _ _ _ _ _ _ _ _) | (with_reducible exact laws_wkLive.mono _ _ _ _ _ _ _) | (with_reducible exact LeO.refl _) | (with_reducible refine LeO.ite ?_ ?_) | (with_reducible refine LeO.bind ?_ (fun _ => ?_))
  ·intro y0 y1 y2 y3 y4 y5 y6 y7 y8
   unfold laws_FnLiveOver.l0
   repeat' first | (with_reducible exact ih1 _ _ _ _ _ _ _ _ _) | (with_reducible exact impl_LiveOk.mono _ _ _ _) | (with_reducible exact impl_LiveTell.mono _ _ _ _ _ _ _) | (with_reducible exact laws_wkLive.mono _ _ _ _ _ _ _) | (with_reducible exact LeO.refl _) | (with_reducible refine LeO.ite ?_ ?_) | (with_reducible refine LeO.bind ?_ (fun _ => ?_))
theorem laws_FnLiveOver.mono : ∀ a0 k, LeO (laws_FnLiveOver.f k a0) (laws_FnLiveOver.f (k + 1) a0) := by
 intro a0 k
 obtain ⟨ih0, ih1⟩ := laws_FnLiveOver.mono_l k
 unfold laws_FnLiveOver.f
 repeat' first | (with_reducible exact ih0 _ _ _ _ _ _ _ _ _ _ _ _ _) | (with_reducible exact impl_LiveOk.mono _ _ _ _) | (with_reducible exact impl_LiveOver.mono _ _ _ _ _) | (with_reducible exact laws_wkLive.mono _ _ _ _ _ _ _) | (with_reducible exact spec_DrawLiveOver.mono _ _) | (with_reducible exact spec_LiveOver.mono _ _ _ _ _) | (with_reducible exact LeO.refl _) | (with_reducible refine LeO.ite ?_ ?_) | (with_reducible refine LeO.bind ?_ (fun _ => ?_))
def laws_FnLiveOver.T12 : Bool × List (List Nat × List Nat) := (true, [([], []), ([], []), ([1], [1]), ([], []), ([2, 3], [2, 3]), ([4], [4]), ([0, 5], [0, 5]), ([6], [6]), ([7], [7]), ([7], [7]), ([], []), ([10, 8, 6, 0, 1, 2, 3, 4, 5, 6, 7, 8, 10], [8, 10]), ([9, 11, 0, 1, 2, 3, 4, 5, 6, 7, 8, 9, 10, 11], [9])])
def laws_FnLiveOver.B12 : List Nat := [0, 0, 2, 0, 14, 30, 63, 127, 255, 255, 0, 1535, 4095]
theorem laws_FnLiveOver.tab12 : rtab .any (opsOf Try.f5 12) = laws_FnLiveOver.T12 := by kernel_rfl
theorem laws_FnLiveOver.bits12 : waitsOk laws_FnLiveOver.T12.2 laws_FnLiveOver.B12 = true := by kernel_rfl
set_option maxHeartbeats 8000000 in
set_option maxRecDepth 100000 in
theorem laws_FnLiveOver.calls (k : Nat) (A0 : Option Addr) (c0 : Nat) (l0 : List Int) (r : Bool) (w : World) (hr0 : Kd.C (Kd.int .u8) w A0 l0.length l0) (hc0 : l0.length ≤ c0) (h : laws_FnLiveOver.f k l0 = some r) (hr_ : r = true) :
  Calls Try.prog 5 #[.slice A0 l0.length c0] w fun e w' => e = .returned (.bool r) ∧ Below w.heap.size w w' := by
 have hu28 := Try.underlying28
 have hu30 := Try.underlying30
 have HR0 := ak hr0
 have HC0 := ak hc0
 clear hr0 hc0
 have HB := ak (Below.refl w.heap.size w)
 have H : (if (l0.length : Int) > 1048576 then (some true) else ((spec_DrawLiveOver.f k l0).bind fun bt560 => ((impl_LiveOver.f k bt560.1 bt560.2.1 bt560.2.2.1 bt560.2.2.2).bind fun bt569 => ((spec_LiveOver.f k bt560.1 bt560.2.1 bt560.2.2.1 bt560.2.2.2).bind fun bt578 => (if (bt569.2.2.2 != bt578.2.2.2) = true then (laws_FnLiveOver.j0 k bt560.2.2.2 bt569.2.2.2 bt578.2.2.2 true bt560.1 bt560.2.1 bt560.2.2.1 bt569.1 bt569.2.1 bt569.2.2.1 bt578.1 bt578.2.1 bt578.2.2.1) else ((laws_wkLive.f k bt569.1 bt569.2.1 bt569.2.2.1 bt578.1 bt578.2.1 bt578.2.2.1).bind fun t587 => (if t587 = true then ((impl_LiveOk.f k bt560.1 bt560.2.1 bt560.2.2.1).bind fun t588 => (laws_FnLiveOver.j0 k bt560.2.2.2 bt569.2.2.2 bt578.2.2.2 (!t588) bt560.1 bt560.2.1 bt560.2.2.1 bt569.1 bt569.2.1 bt569.2.2.1 bt578.1 bt578.2.1 bt578.2.2.1)) else (laws_FnLiveOver.j0 k bt560.2.2.2 bt569.2.2.2 bt578.2.2.2 true bt560.1 bt560.2.1 bt560.2.2.1 bt569.1 bt569.2.1 bt569.2.2.1 bt578.1 bt578.2.1 bt578.2.2.1)))))))) = some r := h
 clear h
 by_cases c2 : (l0.length : Int) > 1048576
 ·rw [if_pos c2] at H
  have c2b0 : decide (1048576 < (l0.length : Int)) = true := decide_eq_true c2
  have c2b1 : decide (1048576 < l0.length) = true := decide_eq_true (by omega)
  clear c2
  obtain rfl := Option.some.inj H
  go_enter Try.func5, Try.ntmps5
  go_wp2
  go_ret
  exact ⟨by rfl, bl HB⟩
 rw [if_neg c2] at H
 have c2b0 : decide (1048576 < (l0.length : Int)) = false := decide_eq_false c2
 have c2b1 : decide (1048576 < l0.length) = false := decide_eq_false (by omega)
 clear c2
 replace H := Option.bind_eq_some_iff.mp H
 obtain ⟨⟨t560, t561, t564, t567⟩, A30, H⟩ := H
 have A3 := ak A30
 clear A30
 replace H := Option.bind_eq_some_iff.mp H
 obtain ⟨⟨t569, t570, t573, t576⟩, A40, H⟩ := H
 have A4 := ak A40
 clear A40
 replace H := Option.bind_eq_some_iff.mp H
 obtain ⟨⟨t578, t579, t582, t585⟩, A50, H⟩ := H
 have A5 := ak A50
 clear A50
 have HC6 := ak H
 clear H
 go_enter Try.func5, Try.ntmps5
 go_upto_region 6 with (first | ((with_reducible refine gate_callee (f := 11) rfl ?_); refine goesL_ (some 17) rfl rfl Try.func11 (by kernel_rfl) rfl #[.slice A0 l0.length c0] rfl (by (try simp only [List.map_toArray, List.map_cons, List.map_nil]); rfl) ?_; (with_reducible refine (spec_DrawLiveOver.calls k _ _ l0 t560 t561 t564 t567 _ ?side1 ?side2 A3.out).mono ?_); (case side1 => repeat (exact HR0.out)); (case side2 => exact HC0.out); rintro e w7 ⟨v562, v565, rfl, ho0, ho1, hb⟩; refine ⟨_, rfl, ?_⟩; have HO563 := ak (Kd.R_lower ho0 (below_size (bl HB))); have HO566 := ak (Kd.R_lower ho1 (below_size (bl HB))); replace HB := ak (below_step (bl HB) hb); (try clear hb); (try clear hb2); (try clear hk); (try clear hi); (try clear ho0); (try clear ho1)) | ((with_reducible refine gate_dst (N := 3) rfl ?_); refine box_event ?hg (N := 3) ?hd (cs := #[.int .i64 0, .slice none 0 0, .slice none 0 0]) (t := 28) ?hr ?_; (case hd => rfl); (case hg => rfl); (case hr => (go_simp; done)); intro gb568 hg w8 hbox hb; replace HO563 := ak (Kd.R_below (rk HO563) hb); replace HO566 := ak (Kd.R_below (rk HO566) hb); have BK568 := ak (hbox); have GW568 := ak ((by rw [hg]; exact (below_size (bl HB)) : w.heap.size ≤ gb568)); have GE568 := ak ((by rw [hg]; exact (below_size (bl HB)) : w.heap.size ≤ gb568)); replace HB := ak (below_step (bl HB) hb); clear hb hbox hg; have hcz9_0 := bc w8 BK568 0 (.int .i64 0) rfl; have hcz9_1 := bc w8 BK568 1 (.slice none 0 0) rfl; have hcz9_2 := bc w8 BK568 2 (.slice none 0 0) rfl; have hfz9_0 := fz BK568 0; have hfz9_1 := fz BK568 1; have hfz9_2 := fz BK568 2; obtain ⟨Ao10, co10, eo10⟩ := Kd.R_slice HO563.out; subst eo10; obtain ⟨Ao11, co11, eo11⟩ := Kd.R_slice HO566.out; subst eo11) | ((with_reducible refine gate_callee (f := 12) rfl ?_); refine goesL_ (some 23) rfl rfl Try.func12 (by kernel_rfl) rfl #[.agg #[.int .i64 t560, .slice Ao10 t561.length co10, .slice Ao11 t564.length co11], .int .i64 t567] rfl (by (try simp only [List.map_toArray, List.map_cons, List.map_nil]); rfl) ?_; (with_reducible refine (impl_LiveOver.calls k t560 _ _ t561 _ _ t564 t567 t569 t570 t573 t576 _ ?side1 ?side2 ?side3 ?side4 A4.out).mono ?_); (case side1 => refine (Kd.R_reads' (e := 65) (base := w.heap.size) (ok := fun k_ => True) (n := t561.length) (c := co10) ?_).2.2; exact (by exact (Kd.R_mono (Kd.R_far (p := ⟨gb568, 2, none⟩) (Kd.R_far (p := ⟨gb568, 1, none⟩) (Kd.R_far (p := ⟨gb568, 0, none⟩) (Kd.R_types HO563.out BK568.out (by decide)) (fun _ hk => hk.2) (.int .i64 t560)) (fun _ hk => hk.2) (.slice Ao10 t561.length co10)) (fun _ hk => hk.2) (.slice Ao11 t564.length co11)) (fun _ h_ => h_.1)))); (case side2 => exact (Kd.R_reads' HO563.out).2.1); (case side3 => refine (Kd.R_reads' (e := 30) (base := w.heap.size) (ok := fun k_ => True) (n := t564.length) (c := co11) ?_).2.2; exact (by exact (Kd.R_mono (Kd.R_far (p := ⟨gb568, 2, none⟩) (Kd.R_far (p := ⟨gb568, 1, none⟩) (Kd.R_far (p := ⟨gb568, 0, none⟩) (Kd.R_types HO566.out BK568.out (by decide)) (fun _ hk => hk.2) (.int .i64 t560)) (fun _ hk => hk.2) (.slice Ao10 t561.length co10)) (fun _ hk => hk.2) (.slice Ao11 t564.length co11)) (fun _ h_ => h_.1)))); (case side4 => exact (Kd.R_reads' HO566.out).2.1); rintro e w12 ⟨v571, v574, rfl, ho0, ho1, hb⟩; refine ⟨_, rfl, ?_⟩; have HO572 := ak (Kd.R_lower (Kd.R_new' ho0 (Kd.R_lt (by exact (Kd.R_mono (Kd.R_far (p := ⟨gb568, 2, none⟩) (Kd.R_far (p := ⟨gb568, 1, none⟩) (Kd.R_far (p := ⟨gb568, 0, none⟩) (Kd.R_types HO563.out BK568.out (by decide)) (fun _ hk => hk.2) (.int .i64 t560)) (fun _ hk => hk.2) (.slice Ao10 t561.length co10)) (fun _ hk => hk.2) (.slice Ao11 t564.length co11)) (fun _ h_ => h_.1))))) (below_size (bl1 HB GE568))); replace HO563 := ak (Kd.R_elder' (by exact (Kd.R_mono (Kd.R_far (p := ⟨gb568, 2, none⟩) (Kd.R_far (p := ⟨gb568, 1, none⟩) (Kd.R_far (p := ⟨gb568, 0, none⟩) (Kd.R_types HO563.out BK568.out (by decide)) (fun _ hk => hk.2) (.int .i64 t560)) (fun _ hk => hk.2) (.slice Ao10 t561.length co10)) (fun _ hk => hk.2) (.slice Ao11 t564.length co11)) (fun _ h_ => h_.1))) (Kd.R_base ho0) hb); have HO575 := ak (Kd.R_lower (Kd.R_new' ho1 (Kd.R_lt (by exact (Kd.R_mono (Kd.R_far (p := ⟨gb568, 2, none⟩) (Kd.R_far (p := ⟨gb568, 1, none⟩) (Kd.R_far (p := ⟨gb568, 0, none⟩) (Kd.R_types HO566.out BK568.out (by decide)) (fun _ hk => hk.2) (.int .i64 t560)) (fun _ hk => hk.2) (.slice Ao10 t561.length co10)) (fun _ hk => hk.2) (.slice Ao11 t564.length co11)) (fun _ h_ => h_.1))))) (below_size (bl1 HB GE568))); replace HO566 := ak (Kd.R_elder' (by exact (Kd.R_mono (Kd.R_far (p := ⟨gb568, 2, none⟩) (Kd.R_far (p := ⟨gb568, 1, none⟩) (Kd.R_far (p := ⟨gb568, 0, none⟩) (Kd.R_types HO566.out BK568.out (by decide)) (fun _ hk => hk.2) (.int .i64 t560)) (fun _ hk => hk.2) (.slice Ao10 t561.length co10)) (fun _ hk => hk.2) (.slice Ao11 t564.length co11)) (fun _ h_ => h_.1))) (Kd.R_base ho1) hb); replace BK568 := ak (blk_below (g := gb568) (o := .cells #[.int .i64 t560, .slice Ao10 t561.length co10, .slice Ao11 t564.length co11] 28 (0, 0)) (by refine blk_put (cs := #[.int .i64 t560, .slice Ao10 t561.length co10, .slice none 0 0]) ?_ 2 _ rfl; refine blk_put (cs := #[.int .i64 t560, .slice none 0 0, .slice none 0 0]) ?_ 1 _ rfl; refine blk_put (cs := #[.int .i64 0, .slice none 0 0, .slice none 0 0]) ?_ 0 _ rfl; exact BK568.out) hb); replace HB := ak (below_step (bl1 HB GE568) hb); (try clear hb); (try clear hb2); (try clear hk); (try clear hi); (try clear ho0); (try clear ho1)) | ((with_reducible refine gate_dst (N := 5) rfl ?_); refine box_event ?hg (N := 5) ?hd (cs := #[.int .i64 0, .slice none 0 0, .slice none 0 0]) (t := 28) ?hr ?_; (case hd => rfl); (case hg => rfl); (case hr => (go_simp; done)); intro gb577 hg w13 hbox hb; replace HO563 := ak (Kd.R_below (rk HO563) hb); replace HO566 := ak (Kd.R_below (rk HO566) hb); replace HO572 := ak (Kd.R_below (rk HO572) hb); replace HO575 := ak (Kd.R_below (rk HO575) hb); have BK577 := ak (hbox); have GW577 := ak ((by rw [hg]; exact (below_size (bl1 HB GE568)) : w.heap.size ≤ gb577)); have GE577 := ak ((by rw [hg]; exact (below_size (bl1 HB GE568)) : w.heap.size ≤ gb577)); replace HB := ak (below_step (bl1 HB GE568) hb); have NB568_577 := ak ((by rw [hg]; exact Nat.ne_of_lt (blk_lt (bk BK568)) : gb568 ≠ gb577)); have NB577_568 := ak ((by rw [hg]; exact Nat.ne_of_gt (blk_lt (bk BK568)) : gb577 ≠ gb568)); replace BK568 := ak (blk_below (bk BK568) hb); clear hb hbox hg; have hnb14 := NB577_568.out; have hnc14 := NB568_577.out; have hcz15_0 := bc w13 BK577 0 (.int .i64 0) rfl; have hcz15_1 := bc w13 BK577 1 (.slice none 0 0) rfl; have hcz15_2 := bc w13 BK577 2 (.slice none 0 0) rfl; have hfz15_0 := fz BK577 0; have hfz15_1 := fz BK577 1; have hfz15_2 := fz BK577 2; obtain ⟨Ao16, co16, eo16⟩ := Kd.R_slice HO572.out; subst eo16; obtain ⟨Ao17, co17, eo17⟩ := Kd.R_slice HO575.out; subst eo17; have hcz18_0 := bc w13 BK568 0 (.int .i64 t560) rfl; have hcz18_1 := bc w13 BK568 1 (.slice Ao10 t561.length co10) rfl; have hcz18_2 := bc w13 BK568 2 (.slice Ao11 t564.length co11) rfl; have hfz18_0 := fz BK568 0; have hfz18_1 := fz BK568 1; have hfz18_2 := fz BK568 2) | ((with_reducible refine gate_callee (f := 13) rfl ?_); refine goesL_ (some 29) rfl rfl Try.func13 (by kernel_rfl) rfl #[.agg #[.int .i64 t560, .slice Ao10 t561.length co10, .slice Ao11 t564.length co11], .int .i64 t567] rfl (by (try simp only [List.map_toArray, List.map_cons, List.map_nil]); rfl) ?_; (with_reducible refine (spec_LiveOver.calls k t560 _ _ t561 _ _ t564 t567 t578 t579 t582 t585 _ ?side1 ?side2 ?side3 ?side4 A5.out).mono ?_); (case side1 => refine (Kd.R_reads' (e := 65) (base := w.heap.size) (ok := fun k_ => (True ∧ some k_ ≠ (.slice Ao16 t570.length co16 : Value).ownBlock)) (n := t561.length) (c := co10) ?_).2.2; exact (by exact (Kd.R_mono (Kd.R_far (p := ⟨gb577, 2, none⟩) (Kd.R_far (p := ⟨gb577, 1, none⟩) (Kd.R_far (p := ⟨gb577, 0, none⟩) (Kd.R_types HO563.out BK577.out (by decide)) (fun _ hk => hk.2) (.int .i64 t569)) (fun _ hk => hk.2) (.slice Ao16 t570.length co16)) (fun _ hk => hk.2) (.slice Ao17 t573.length co17)) (fun _ h_ => h_.1)))); (case side2 => exact (Kd.R_reads' HO563.out).2.1); (case side3 => refine (Kd.R_reads' (e := 30) (base := w.heap.size) (ok := fun k_ => (True ∧ some k_ ≠ (.slice Ao17 t573.length co17 : Value).ownBlock)) (n := t564.length) (c := co11) ?_).2.2; exact (by exact (Kd.R_mono (Kd.R_far (p := ⟨gb577, 2, none⟩) (Kd.R_far (p := ⟨gb577, 1, none⟩) (Kd.R_far (p := ⟨gb577, 0, none⟩) (Kd.R_types HO566.out BK577.out (by decide)) (fun _ hk => hk.2) (.int .i64 t569)) (fun _ hk => hk.2) (.slice Ao16 t570.length co16)) (fun _ hk => hk.2) (.slice Ao17 t573.length co17)) (fun _ h_ => h_.1)))); (case side4 => exact (Kd.R_reads' HO566.out).2.1); rintro e w19 ⟨v580, v583, rfl, ho0, ho1, hb⟩; refine ⟨_, rfl, ?_⟩; have HO581 := ak (Kd.R_lower (Kd.R_new' (Kd.R_new' ho0 (Kd.R_lt (by exact (Kd.R_mono (Kd.R_far (p := ⟨gb577, 2, none⟩) (Kd.R_far (p := ⟨gb577, 1, none⟩) (Kd.R_far (p := ⟨gb577, 0, none⟩) (Kd.R_types HO563.out BK577.out (by decide)) (fun _ hk => hk.2) (.int .i64 t569)) (fun _ hk => hk.2) (.slice Ao16 t570.length co16)) (fun _ hk => hk.2) (.slice Ao17 t573.length co17)) (fun _ h_ => h_.1))))) (Kd.R_lt (by exact (Kd.R_mono (Kd.R_far (p := ⟨gb577, 2, none⟩) (Kd.R_far (p := ⟨gb577, 1, none⟩) (Kd.R_far (p := ⟨gb577, 0, none⟩) (Kd.R_types HO572.out BK577.out (by decide)) (fun _ hk => hk.2) (.int .i64 t569)) (fun _ hk => hk.2) (.slice Ao16 t570.length co16)) (fun _ hk => hk.2) (.slice Ao17 t573.length co17)) (fun _ h_ => h_.1))))) (below_size (bl2 HB GE568 GE577))); replace HO563 := ak (Kd.R_elder' (by exact (Kd.R_mono (Kd.R_far (p := ⟨gb577, 2, none⟩) (Kd.R_far (p := ⟨gb577, 1, none⟩) (Kd.R_far (p := ⟨gb577, 0, none⟩) (Kd.R_types HO563.out BK577.out (by decide)) (fun _ hk => hk.2) (.int .i64 t569)) (fun _ hk => hk.2) (.slice Ao16 t570.length co16)) (fun _ hk => hk.2) (.slice Ao17 t573.length co17)) (fun _ h_ => h_.1))) (Kd.R_base ho0) hb); replace HO572 := ak (Kd.R_elder' (by exact (Kd.R_mono (Kd.R_far (p := ⟨gb577, 2, none⟩) (Kd.R_far (p := ⟨gb577, 1, none⟩) (Kd.R_far (p := ⟨gb577, 0, none⟩) (Kd.R_types HO572.out BK577.out (by decide)) (fun _ hk => hk.2) (.int .i64 t569)) (fun _ hk => hk.2) (.slice Ao16 t570.length co16)) (fun _ hk => hk.2) (.slice Ao17 t573.length co17)) (fun _ h_ => h_.1))) (Kd.R_base ho0) hb); have HO584 := ak (Kd.R_lower (Kd.R_new' (Kd.R_new' ho1 (Kd.R_lt (by exact (Kd.R_mono (Kd.R_far (p := ⟨gb577, 2, none⟩) (Kd.R_far (p := ⟨gb577, 1, none⟩) (Kd.R_far (p := ⟨gb577, 0, none⟩) (Kd.R_types HO566.out BK577.out (by decide)) (fun _ hk => hk.2) (.int .i64 t569)) (fun _ hk => hk.2) (.slice Ao16 t570.length co16)) (fun _ hk => hk.2) (.slice Ao17 t573.length co17)) (fun _ h_ => h_.1))))) (Kd.R_lt (by exact (Kd.R_mono (Kd.R_far (p := ⟨gb577, 2, none⟩) (Kd.R_far (p := ⟨gb577, 1, none⟩) (Kd.R_far (p := ⟨gb577, 0, none⟩) (Kd.R_types HO575.out BK577.out (by decide)) (fun _ hk => hk.2) (.int .i64 t569)) (fun _ hk => hk.2) (.slice Ao16 t570.length co16)) (fun _ hk => hk.2) (.slice Ao17 t573.length co17)) (fun _ h_ => h_.1))))) (below_size (bl2 HB GE568 GE577))); replace HO566 := ak (Kd.R_elder' (by exact (Kd.R_mono (Kd.R_far (p := ⟨gb577, 2, none⟩) (Kd.R_far (p := ⟨gb577, 1, none⟩) (Kd.R_far (p := ⟨gb577, 0, none⟩) (Kd.R_types HO566.out BK577.out (by decide)) (fun _ hk => hk.2) (.int .i64 t569)) (fun _ hk => hk.2) (.slice Ao16 t570.length co16)) (fun _ hk => hk.2) (.slice Ao17 t573.length co17)) (fun _ h_ => h_.1))) (Kd.R_base ho1) hb); replace HO575 := ak (Kd.R_elder' (by exact (Kd.R_mono (Kd.R_far (p := ⟨gb577, 2, none⟩) (Kd.R_far (p := ⟨gb577, 1, none⟩) (Kd.R_far (p := ⟨gb577, 0, none⟩) (Kd.R_types HO575.out BK577.out (by decide)) (fun _ hk => hk.2) (.int .i64 t569)) (fun _ hk => hk.2) (.slice Ao16 t570.length co16)) (fun _ hk => hk.2) (.slice Ao17 t573.length co17)) (fun _ h_ => h_.1))) (Kd.R_base ho1) hb); replace BK568 := ak (blk_below (g := gb568) (o := .cells #[.int .i64 t560, .slice Ao10 t561.length co10, .slice Ao11 t564.length co11] 28 (0, 0)) (by refine blk_far ?_ NB568_577.out _; refine blk_far ?_ NB568_577.out _; refine blk_far ?_ NB568_577.out _; exact BK568.out) hb); replace BK577 := ak (blk_below (g := gb577) (o := .cells #[.int .i64 t569, .slice Ao16 t570.length co16, .slice Ao17 t573.length co17] 28 (0, 0)) (by refine blk_put (cs := #[.int .i64 t569, .slice Ao16 t570.length co16, .slice none 0 0]) ?_ 2 _ rfl; refine blk_put (cs := #[.int .i64 t569, .slice none 0 0, .slice none 0 0]) ?_ 1 _ rfl; refine blk_put (cs := #[.int .i64 0, .slice none 0 0, .slice none 0 0]) ?_ 0 _ rfl; exact BK577.out) hb); replace HB := ak (below_step (bl2 HB GE568 GE577) hb); (try clear hb); (try clear hb2); (try clear hk); (try clear hi); (try clear ho0); (try clear ho1)) | ((with_reducible refine gate_dst (N := 7) rfl ?_); refine box_event ?hg (N := 7) ?hd (cs := #[.int .i64 0, .slice none 0 0, .slice none 0 0]) (t := 28) ?hr ?_; (case hd => rfl); (case hg => rfl); (case hr => (go_simp; done)); intro gb586 hg w20 hbox hb; replace HO563 := ak (Kd.R_below (rk HO563) hb); replace HO566 := ak (Kd.R_below (rk HO566) hb); replace HO572 := ak (Kd.R_below (rk HO572) hb); replace HO575 := ak (Kd.R_below (rk HO575) hb); replace HO581 := ak (Kd.R_below (rk HO581) hb); replace HO584 := ak (Kd.R_below (rk HO584) hb); have BK586 := ak (hbox); have GW586 := ak ((by rw [hg]; exact (below_size (bl2 HB GE568 GE577)) : w.heap.size ≤ gb586)); have GE586 := ak ((by rw [hg]; exact (below_size (bl2 HB GE568 GE577)) : w.heap.size ≤ gb586)); replace HB := ak (below_step (bl2 HB GE568 GE577) hb); have NB568_586 := ak ((by rw [hg]; exact Nat.ne_of_lt (blk_lt (bk BK568)) : gb568 ≠ gb586)); have NB586_568 := ak ((by rw [hg]; exact Nat.ne_of_gt (blk_lt (bk BK568)) : gb586 ≠ gb568)); replace BK568 := ak (blk_below (bk BK568) hb); have NB577_586 := ak ((by rw [hg]; exact Nat.ne_of_lt (blk_lt (bk BK577)) : gb577 ≠ gb586)); have NB586_577 := ak ((by rw [hg]; exact Nat.ne_of_gt (blk_lt (bk BK577)) : gb586 ≠ gb577)); replace BK577 := ak (blk_below (bk BK577) hb); clear hb hbox hg; have hnb21 := NB586_568.out; have hnc21 := NB568_586.out; have hnb22 := NB586_577.out; have hnc22 := NB577_586.out; have hcz23_0 := bc w20 BK586 0 (.int .i64 0) rfl; have hcz23_1 := bc w20 BK586 1 (.slice none 0 0) rfl; have hcz23_2 := bc w20 BK586 2 (.slice none 0 0) rfl; have hfz23_0 := fz BK586 0; have hfz23_1 := fz BK586 1; have hfz23_2 := fz BK586 2; obtain ⟨Ao24, co24, eo24⟩ := Kd.R_slice HO581.out; subst eo24; obtain ⟨Ao25, co25, eo25⟩ := Kd.R_slice HO584.out; subst eo25))
 (try simp only [Act.put, List.setIfInBounds_toArray, List.set_cons_zero, List.set_cons_succ])
 go_cut [45] (fun v45 wc => ∃ (kq : Nat) (x45_5 : Bool), v45 = .bool x45_5 ∧ Aside0 (laws_FnLiveOver.j0 kq t567 t576 t585 x45_5 t560 t561 t564 t569 t570 t573 t578 t579 t582 = some r) ∧ Aside0 (kq ≤ k) ∧ Aside0 (Kd.R k65 65 wc w.heap.size (fun k_ => some k_ ≠ ((.slice Ao16 t570.length co16) : Value).ownBlock ∧ some k_ ≠ ((.slice Ao24 t579.length co24) : Value).ownBlock) (.slice Ao10 t561.length co10) t561) ∧ Aside0 (Kd.R k30 30 wc w.heap.size (fun k_ => some k_ ≠ ((.slice Ao17 t573.length co17) : Value).ownBlock ∧ some k_ ≠ ((.slice Ao25 t582.length co25) : Value).ownBlock) (.slice Ao11 t564.length co11) t564) ∧ Aside0 (Kd.R k65 65 wc w.heap.size (fun k_ => some k_ ≠ ((.slice Ao10 t561.length co10) : Value).ownBlock ∧ some k_ ≠ ((.slice Ao24 t579.length co24) : Value).ownBlock) (.slice Ao16 t570.length co16) t570) ∧ Aside0 (Kd.R k30 30 wc w.heap.size (fun k_ => some k_ ≠ ((.slice Ao11 t564.length co11) : Value).ownBlock ∧ some k_ ≠ ((.slice Ao25 t582.length co25) : Value).ownBlock) (.slice Ao17 t573.length co17) t573) ∧ Aside0 (Kd.R k65 65 wc w.heap.size (fun k_ => some k_ ≠ ((.slice Ao10 t561.length co10) : Value).ownBlock ∧ some k_ ≠ ((.slice Ao16 t570.length co16) : Value).ownBlock) (.slice Ao24 t579.length co24) t579) ∧ Aside0 (Kd.R k30 30 wc w.heap.size (fun k_ => some k_ ≠ ((.slice Ao11 t564.length co11) : Value).ownBlock ∧ some k_ ≠ ((.slice Ao17 t573.length co17) : Value).ownBlock) (.slice Ao25 t582.length co25) t582) ∧ Aside0 (wc.heap[gb568]? = some (.cells #[.int .i64 t560, (.slice Ao10 t561.length co10), (.slice Ao11 t564.length co11)] 28 (0, 0))) ∧ Aside0 (wc.heap[gb577]? = some (.cells #[.int .i64 t569, (.slice Ao16 t570.length co16), (.slice Ao17 t573.length co17)] 28 (0, 0))) ∧ Aside0 (wc.heap[gb586]? = some (.cells #[.int .i64 t578, (.slice Ao24 t579.length co24), (.slice Ao25 t582.length co25)] 28 (0, 0))) ∧ Aside0 (Below w.heap.size w wc))
 case first =>
  have H := HC6.out
  clear HC6
  by_cases c26 : (t576 != t585) = true
  ·rw [if_pos c26] at H
   have c26b0 : (t576 != t585) = true := c26
   (try (have c26b1 : decide (t576 = t585) = false := by simpa using c26))
   (try (have c26b2 : (t576 == t585) = false := by simpa using c26))
   (try (have c26b3 : ¬ (t576 = t585) := by simpa using c26))
   clear c26
   (skip)
   have H' := ak H
   clear H
   go_wp2
   go_meet
   case rel => exact ⟨_, (true), (by rfl), H', ⟨by omega⟩, ⟨by exact Kd.R_mono (Kd.R_far (p := ⟨gb586, 2, none⟩) (Kd.R_far (p := ⟨gb586, 1, none⟩) (Kd.R_far (p := ⟨gb586, 0, none⟩) (Kd.R_types HO563.out BK586.out (by decide)) (fun _ hk => hk.2) (.int .i64 t578)) (fun _ hk => hk.2) (.slice Ao24 t579.length co24)) (fun _ hk => hk.2) (.slice Ao25 t582.length co25)) (fun _ hk => ⟨hk.1.1.2, hk.1.2⟩)⟩, ⟨by exact Kd.R_mono (Kd.R_far (p := ⟨gb586, 2, none⟩) (Kd.R_far (p := ⟨gb586, 1, none⟩) (Kd.R_far (p := ⟨gb586, 0, none⟩) (Kd.R_types HO566.out BK586.out (by decide)) (fun _ hk => hk.2) (.int .i64 t578)) (fun _ hk => hk.2) (.slice Ao24 t579.length co24)) (fun _ hk => hk.2) (.slice Ao25 t582.length co25)) (fun _ hk => ⟨hk.1.1.2, hk.1.2⟩)⟩, ⟨by exact Kd.R_mono (Kd.R_far (p := ⟨gb586, 2, none⟩) (Kd.R_far (p := ⟨gb586, 1, none⟩) (Kd.R_far (p := ⟨gb586, 0, none⟩) (Kd.R_types HO572.out BK586.out (by decide)) (fun _ hk => hk.2) (.int .i64 t578)) (fun _ hk => hk.2) (.slice Ao24 t579.length co24)) (fun _ hk => hk.2) (.slice Ao25 t582.length co25)) (fun _ hk => ⟨hk.1.1.2, hk.1.2⟩)⟩, ⟨by exact Kd.R_mono (Kd.R_far (p := ⟨gb586, 2, none⟩) (Kd.R_far (p := ⟨gb586, 1, none⟩) (Kd.R_far (p := ⟨gb586, 0, none⟩) (Kd.R_types HO575.out BK586.out (by decide)) (fun _ hk => hk.2) (.int .i64 t578)) (fun _ hk => hk.2) (.slice Ao24 t579.length co24)) (fun _ hk => hk.2) (.slice Ao25 t582.length co25)) (fun _ hk => ⟨hk.1.1.2, hk.1.2⟩)⟩, ⟨by exact Kd.R_mono (Kd.R_far (p := ⟨gb586, 2, none⟩) (Kd.R_far (p := ⟨gb586, 1, none⟩) (Kd.R_far (p := ⟨gb586, 0, none⟩) (Kd.R_types HO581.out BK586.out (by decide)) (fun _ hk => hk.2) (.int .i64 t578)) (fun _ hk => hk.2) (.slice Ao24 t579.length co24)) (fun _ hk => hk.2) (.slice Ao25 t582.length co25)) (fun _ hk => ⟨hk.1.1.2, hk.1.2⟩)⟩, ⟨by exact Kd.R_mono (Kd.R_far (p := ⟨gb586, 2, none⟩) (Kd.R_far (p := ⟨gb586, 1, none⟩) (Kd.R_far (p := ⟨gb586, 0, none⟩) (Kd.R_types HO584.out BK586.out (by decide)) (fun _ hk => hk.2) (.int .i64 t578)) (fun _ hk => hk.2) (.slice Ao24 t579.length co24)) (fun _ hk => hk.2) (.slice Ao25 t582.length co25)) (fun _ hk => ⟨hk.1.1.2, hk.1.2⟩)⟩, ⟨by refine blk_far ?_ NB568_586.out _; refine blk_far ?_ NB568_586.out _; refine blk_far ?_ NB568_586.out _; exact BK568.out⟩, ⟨by refine blk_far ?_ NB577_586.out _; refine blk_far ?_ NB577_586.out _; refine blk_far ?_ NB577_586.out _; exact BK577.out⟩, ⟨by refine blk_put (cs := #[.int .i64 t578, .slice Ao24 t579.length co24, .slice none 0 0]) ?_ 2 _ rfl; refine blk_put (cs := #[.int .i64 t578, .slice none 0 0, .slice none 0 0]) ?_ 1 _ rfl; refine blk_put (cs := #[.int .i64 0, .slice none 0 0, .slice none 0 0]) ?_ 0 _ rfl; exact BK586.out⟩, ⟨bl3 HB GE568 GE577 GE586⟩⟩
  rw [if_neg c26] at H
  have c26b0 : (t576 != t585) = false := by simpa using c26
  (try (have c26b1 : decide (t576 = t585) = true := by simpa using c26))
  (try (have c26b2 : (t576 == t585) = true := by simpa using c26))
  clear c26
  (skip)
  replace H := Option.bind_eq_some_iff.mp H
  obtain ⟨t587, A270, H⟩ := H
  have A27 := ak A270
  clear A270
  by_cases c28 : t587 = true
  rotate_left
  ·replace c28 := Bool.eq_false_iff.mpr c28
   subst c28
   rw [if_neg (show ¬ (false = true) by decide)] at H
   have H' := ak H
   clear H
   have hnb38 := NB577_568.out
   have hnc38 := NB568_577.out
   have hnb39 := NB577_586.out
   have hnc39 := NB586_577.out
   have hcz40_0 := bc w20 BK577 0 (.int .i64 t569) rfl
   have hcz40_1 := bc w20 BK577 1 (.slice Ao16 t570.length co16) rfl
   have hcz40_2 := bc w20 BK577 2 (.slice Ao17 t573.length co17) rfl
   have hfz40_0 := fz BK577 0
   have hfz40_1 := fz BK577 1
   have hfz40_2 := fz BK577 2
   have hnb41 := NB586_568.out
   have hnc41 := NB568_586.out
   have hcz42_0 := bc w20 BK586 0 (.int .i64 0) rfl
   have hcz42_1 := bc w20 BK586 1 (.slice none 0 0) rfl
   have hcz42_2 := bc w20 BK586 2 (.slice none 0 0) rfl
   have hfz42_0 := fz BK586 0
   have hfz42_1 := fz BK586 1
   have hfz42_2 := fz BK586 2
   go_wp2_with ((go_at_call 9; (with_reducible refine (laws_wkLive.calls k t569 _ _ t570 _ _ t573 t578 _ _ t579 _ _ t582 false _ ?side1 ?side2 ?side3 ?side4 ?side5 ?side6 ?side7 ?side8 A27.out).mono ?_); (case side1 => refine (Kd.R_reads' (e := 65) (base := w.heap.size) (ok := fun k_ => ((True ∧ some k_ ≠ (.slice Ao10 t561.length co10 : Value).ownBlock) ∧ some k_ ≠ (.slice Ao24 t579.length co24 : Value).ownBlock)) (n := t570.length) (c := co16) ?_).2.2; exact (by exact (Kd.R_mono (Kd.R_far (p := ⟨gb586, 2, none⟩) (Kd.R_far (p := ⟨gb586, 1, none⟩) (Kd.R_far (p := ⟨gb586, 0, none⟩) (Kd.R_types HO572.out BK586.out (by decide)) (fun _ hk => hk.2) (.int .i64 t578)) (fun _ hk => hk.2) (.slice Ao24 t579.length co24)) (fun _ hk => hk.2) (.slice Ao25 t582.length co25)) (fun _ h_ => h_.1)))); (case side2 => exact (Kd.R_reads' HO572.out).2.1); (case side3 => refine (Kd.R_reads' (e := 30) (base := w.heap.size) (ok := fun k_ => ((True ∧ some k_ ≠ (.slice Ao11 t564.length co11 : Value).ownBlock) ∧ some k_ ≠ (.slice Ao25 t582.length co25 : Value).ownBlock)) (n := t573.length) (c := co17) ?_).2.2; exact (by exact (Kd.R_mono (Kd.R_far (p := ⟨gb586, 2, none⟩) (Kd.R_far (p := ⟨gb586, 1, none⟩) (Kd.R_far (p := ⟨gb586, 0, none⟩) (Kd.R_types HO575.out BK586.out (by decide)) (fun _ hk => hk.2) (.int .i64 t578)) (fun _ hk => hk.2) (.slice Ao24 t579.length co24)) (fun _ hk => hk.2) (.slice Ao25 t582.length co25)) (fun _ h_ => h_.1)))); (case side4 => exact (Kd.R_reads' HO575.out).2.1); (case side5 => refine (Kd.R_reads' (e := 65) (base := w.heap.size) (ok := fun k_ => ((True ∧ some k_ ≠ (.slice Ao10 t561.length co10 : Value).ownBlock) ∧ some k_ ≠ (.slice Ao16 t570.length co16 : Value).ownBlock)) (n := t579.length) (c := co24) ?_).2.2; exact (by exact (Kd.R_mono (Kd.R_far (p := ⟨gb586, 2, none⟩) (Kd.R_far (p := ⟨gb586, 1, none⟩) (Kd.R_far (p := ⟨gb586, 0, none⟩) (Kd.R_types HO581.out BK586.out (by decide)) (fun _ hk => hk.2) (.int .i64 t578)) (fun _ hk => hk.2) (.slice Ao24 t579.length co24)) (fun _ hk => hk.2) (.slice Ao25 t582.length co25)) (fun _ h_ => h_.1)))); (case side6 => exact (Kd.R_reads' HO581.out).2.1); (case side7 => refine (Kd.R_reads' (e := 30) (base := w.heap.size) (ok := fun k_ => ((True ∧ some k_ ≠ (.slice Ao11 t564.length co11 : Value).ownBlock) ∧ some k_ ≠ (.slice Ao17 t573.length co17 : Value).ownBlock)) (n := t582.length) (c := co25) ?_).2.2; exact (by exact (Kd.R_mono (Kd.R_far (p := ⟨gb586, 2, none⟩) (Kd.R_far (p := ⟨gb586, 1, none⟩) (Kd.R_far (p := ⟨gb586, 0, none⟩) (Kd.R_types HO584.out BK586.out (by decide)) (fun _ hk => hk.2) (.int .i64 t578)) (fun _ hk => hk.2) (.slice Ao24 t579.length co24)) (fun _ hk => hk.2) (.slice Ao25 t582.length co25)) (fun _ h_ => h_.1)))); (case side8 => exact (Kd.R_reads' HO584.out).2.1); rintro e w43 ⟨rfl, hb⟩; have n0_ := ak (Kd.R_below (by exact (Kd.R_mono (Kd.R_far (p := ⟨gb586, 2, none⟩) (Kd.R_far (p := ⟨gb586, 1, none⟩) (Kd.R_far (p := ⟨gb586, 0, none⟩) (Kd.R_types HO563.out BK586.out (by decide)) (fun _ hk => hk.2) (.int .i64 t578)) (fun _ hk => hk.2) (.slice Ao24 t579.length co24)) (fun _ hk => hk.2) (.slice Ao25 t582.length co25)) (fun _ h_ => h_.1))) hb); have n1_ := ak (Kd.R_below (by exact (Kd.R_mono (Kd.R_far (p := ⟨gb586, 2, none⟩) (Kd.R_far (p := ⟨gb586, 1, none⟩) (Kd.R_far (p := ⟨gb586, 0, none⟩) (Kd.R_types HO566.out BK586.out (by decide)) (fun _ hk => hk.2) (.int .i64 t578)) (fun _ hk => hk.2) (.slice Ao24 t579.length co24)) (fun _ hk => hk.2) (.slice Ao25 t582.length co25)) (fun _ h_ => h_.1))) hb); have n2_ := ak (Kd.R_below (by exact (Kd.R_mono (Kd.R_far (p := ⟨gb586, 2, none⟩) (Kd.R_far (p := ⟨gb586, 1, none⟩) (Kd.R_far (p := ⟨gb586, 0, none⟩) (Kd.R_types HO572.out BK586.out (by decide)) (fun _ hk => hk.2) (.int .i64 t578)) (fun _ hk => hk.2) (.slice Ao24 t579.length co24)) (fun _ hk => hk.2) (.slice Ao25 t582.length co25)) (fun _ h_ => h_.1))) hb); have n3_ := ak (Kd.R_below (by exact (Kd.R_mono (Kd.R_far (p := ⟨gb586, 2, none⟩) (Kd.R_far (p := ⟨gb586, 1, none⟩) (Kd.R_far (p := ⟨gb586, 0, none⟩) (Kd.R_types HO575.out BK586.out (by decide)) (fun _ hk => hk.2) (.int .i64 t578)) (fun _ hk => hk.2) (.slice Ao24 t579.length co24)) (fun _ hk => hk.2) (.slice Ao25 t582.length co25)) (fun _ h_ => h_.1))) hb); have n4_ := ak (Kd.R_below (by exact (Kd.R_mono (Kd.R_far (p := ⟨gb586, 2, none⟩) (Kd.R_far (p := ⟨gb586, 1, none⟩) (Kd.R_far (p := ⟨gb586, 0, none⟩) (Kd.R_types HO581.out BK586.out (by decide)) (fun _ hk => hk.2) (.int .i64 t578)) (fun _ hk => hk.2) (.slice Ao24 t579.length co24)) (fun _ hk => hk.2) (.slice Ao25 t582.length co25)) (fun _ h_ => h_.1))) hb); have n5_ := ak (Kd.R_below (by exact (Kd.R_mono (Kd.R_far (p := ⟨gb586, 2, none⟩) (Kd.R_far (p := ⟨gb586, 1, none⟩) (Kd.R_far (p := ⟨gb586, 0, none⟩) (Kd.R_types HO584.out BK586.out (by decide)) (fun _ hk => hk.2) (.int .i64 t578)) (fun _ hk => hk.2) (.slice Ao24 t579.length co24)) (fun _ hk => hk.2) (.slice Ao25 t582.length co25)) (fun _ h_ => h_.1))) hb); have n6_ := ak (blk_below (g := gb568) (o := .cells #[.int .i64 t560, .slice Ao10 t561.length co10, .slice Ao11 t564.length co11] 28 (0, 0)) (by refine blk_far ?_ NB568_586.out _; refine blk_far ?_ NB568_586.out _; refine blk_far ?_ NB568_586.out _; exact BK568.out) hb); have n7_ := ak (blk_below (g := gb577) (o := .cells #[.int .i64 t569, .slice Ao16 t570.length co16, .slice Ao17 t573.length co17] 28 (0, 0)) (by refine blk_far ?_ NB577_586.out _; refine blk_far ?_ NB577_586.out _; refine blk_far ?_ NB577_586.out _; exact BK577.out) hb); have n8_ := ak (blk_below (g := gb586) (o := .cells #[.int .i64 t578, .slice Ao24 t579.length co24, .slice Ao25 t582.length co25] 28 (0, 0)) (by refine blk_put (cs := #[.int .i64 t578, .slice Ao24 t579.length co24, .slice none 0 0]) ?_ 2 _ rfl; refine blk_put (cs := #[.int .i64 t578, .slice none 0 0, .slice none 0 0]) ?_ 1 _ rfl; refine blk_put (cs := #[.int .i64 0, .slice none 0 0, .slice none 0 0]) ?_ 0 _ rfl; exact BK586.out) hb); have n9_ := ak (below_step (bl3 HB GE568 GE577 GE586) hb); clear HO563; clear HO566; clear HO572; clear HO575; clear HO581; clear HO584; clear BK568; clear BK577; clear BK586; clear HB; have HO563 := n0_; have HO566 := n1_; have HO572 := n2_; have HO575 := n3_; have HO581 := n4_; have HO584 := n5_; have BK568 := n6_; have BK577 := n7_; have BK586 := n8_; have HB := n9_; clear n0_ n1_ n2_ n3_ n4_ n5_ n6_ n7_ n8_ n9_; (try clear hb); (try clear hb2); (try clear hk); (try clear hi)))
   go_meet
   case rel => exact ⟨_, (true), (by rfl), H', ⟨by omega⟩, ⟨by exact Kd.R_mono HO563.out (fun _ hk => ⟨hk.1.2, hk.2⟩)⟩, ⟨by exact Kd.R_mono HO566.out (fun _ hk => ⟨hk.1.2, hk.2⟩)⟩, ⟨by exact Kd.R_mono HO572.out (fun _ hk => ⟨hk.1.2, hk.2⟩)⟩, ⟨by exact Kd.R_mono HO575.out (fun _ hk => ⟨hk.1.2, hk.2⟩)⟩, ⟨by exact Kd.R_mono HO581.out (fun _ hk => ⟨hk.1.2, hk.2⟩)⟩, ⟨by exact Kd.R_mono HO584.out (fun _ hk => ⟨hk.1.2, hk.2⟩)⟩, ⟨bk BK568⟩, ⟨bk BK577⟩, ⟨bk BK586⟩, ⟨bl3 HB GE568 GE577 GE586⟩⟩
  subst c28
  rw [if_pos rfl] at H
  replace H := Option.bind_eq_some_iff.mp H
  obtain ⟨t588, A290, H⟩ := H
  have A29 := ak A290
  clear A290
  have H' := ak H
  clear H
  have hnb30 := NB577_568.out
  have hnc30 := NB568_577.out
  have hnb31 := NB577_586.out
  have hnc31 := NB586_577.out
  have hcz32_0 := bc w20 BK577 0 (.int .i64 t569) rfl
  have hcz32_1 := bc w20 BK577 1 (.slice Ao16 t570.length co16) rfl
  have hcz32_2 := bc w20 BK577 2 (.slice Ao17 t573.length co17) rfl
  have hfz32_0 := fz BK577 0
  have hfz32_1 := fz BK577 1
  have hfz32_2 := fz BK577 2
  have hnb33 := NB586_568.out
  have hnc33 := NB568_586.out
  have hcz34_0 := bc w20 BK586 0 (.int .i64 0) rfl
  have hcz34_1 := bc w20 BK586 1 (.slice none 0 0) rfl
  have hcz34_2 := bc w20 BK586 2 (.slice none 0 0) rfl
  have hfz34_0 := fz BK586 0
  have hfz34_1 := fz BK586 1
  have hfz34_2 := fz BK586 2
  go_wp2_with (first | (go_at_call 9; (with_reducible refine (laws_wkLive.calls k t569 _ _ t570 _ _ t573 t578 _ _ t579 _ _ t582 true _ ?side1 ?side2 ?side3 ?side4 ?side5 ?side6 ?side7 ?side8 A27.out).mono ?_); (case side1 => refine (Kd.R_reads' (e := 65) (base := w.heap.size) (ok := fun k_ => ((True ∧ some k_ ≠ (.slice Ao10 t561.length co10 : Value).ownBlock) ∧ some k_ ≠ (.slice Ao24 t579.length co24 : Value).ownBlock)) (n := t570.length) (c := co16) ?_).2.2; exact (by exact (Kd.R_mono (Kd.R_far (p := ⟨gb586, 2, none⟩) (Kd.R_far (p := ⟨gb586, 1, none⟩) (Kd.R_far (p := ⟨gb586, 0, none⟩) (Kd.R_types HO572.out BK586.out (by decide)) (fun _ hk => hk.2) (.int .i64 t578)) (fun _ hk => hk.2) (.slice Ao24 t579.length co24)) (fun _ hk => hk.2) (.slice Ao25 t582.length co25)) (fun _ h_ => h_.1)))); (case side2 => exact (Kd.R_reads' HO572.out).2.1); (case side3 => refine (Kd.R_reads' (e := 30) (base := w.heap.size) (ok := fun k_ => ((True ∧ some k_ ≠ (.slice Ao11 t564.length co11 : Value).ownBlock) ∧ some k_ ≠ (.slice Ao25 t582.length co25 : Value).ownBlock)) (n := t573.length) (c := co17) ?_).2.2; exact (by exact (Kd.R_mono (Kd.R_far (p := ⟨gb586, 2, none⟩) (Kd.R_far (p := ⟨gb586, 1, none⟩) (Kd.R_far (p := ⟨gb586, 0, none⟩) (Kd.R_types HO575.out BK586.out (by decide)) (fun _ hk => hk.2) (.int .i64 t578)) (fun _ hk => hk.2) (.slice Ao24 t579.length co24)) (fun _ hk => hk.2) (.slice Ao25 t582.length co25)) (fun _ h_ => h_.1)))); (case side4 => exact (Kd.R_reads' HO575.out).2.1); (case side5 => refine (Kd.R_reads' (e := 65) (base := w.heap.size) (ok := fun k_ => ((True ∧ some k_ ≠ (.slice Ao10 t561.length co10 : Value).ownBlock) ∧ some k_ ≠ (.slice Ao16 t570.length co16 : Value).ownBlock)) (n := t579.length) (c := co24) ?_).2.2; exact (by exact (Kd.R_mono (Kd.R_far (p := ⟨gb586, 2, none⟩) (Kd.R_far (p := ⟨gb586, 1, none⟩) (Kd.R_far (p := ⟨gb586, 0, none⟩) (Kd.R_types HO581.out BK586.out (by decide)) (fun _ hk => hk.2) (.int .i64 t578)) (fun _ hk => hk.2) (.slice Ao24 t579.length co24)) (fun _ hk => hk.2) (.slice Ao25 t582.length co25)) (fun _ h_ => h_.1)))); (case side6 => exact (Kd.R_reads' HO581.out).2.1); (case side7 => refine (Kd.R_reads' (e := 30) (base := w.heap.size) (ok := fun k_ => ((True ∧ some k_ ≠ (.slice Ao11 t564.length co11 : Value).ownBlock) ∧ some k_ ≠ (.slice Ao17 t573.length co17 : Value).ownBlock)) (n := t582.length) (c := co25) ?_).2.2; exact (by exact (Kd.R_mono (Kd.R_far (p := ⟨gb586, 2, none⟩) (Kd.R_far (p := ⟨gb586, 1, none⟩) (Kd.R_far (p := ⟨gb586, 0, none⟩) (Kd.R_types HO584.out BK586.out (by decide)) (fun _ hk => hk.2) (.int .i64 t578)) (fun _ hk => hk.2) (.slice Ao24 t579.length co24)) (fun _ hk => hk.2) (.slice Ao25 t582.length co25)) (fun _ h_ => h_.1)))); (case side8 => exact (Kd.R_reads' HO584.out).2.1); rintro e w35 ⟨rfl, hb⟩; have n0_ := ak (Kd.R_below (by exact (Kd.R_mono (Kd.R_far (p := ⟨gb586, 2, none⟩) (Kd.R_far (p := ⟨gb586, 1, none⟩) (Kd.R_far (p := ⟨gb586, 0, none⟩) (Kd.R_types HO563.out BK586.out (by decide)) (fun _ hk => hk.2) (.int .i64 t578)) (fun _ hk => hk.2) (.slice Ao24 t579.length co24)) (fun _ hk => hk.2) (.slice Ao25 t582.length co25)) (fun _ h_ => h_.1))) hb); have n1_ := ak (Kd.R_below (by exact (Kd.R_mono (Kd.R_far (p := ⟨gb586, 2, none⟩) (Kd.R_far (p := ⟨gb586, 1, none⟩) (Kd.R_far (p := ⟨gb586, 0, none⟩) (Kd.R_types HO566.out BK586.out (by decide)) (fun _ hk => hk.2) (.int .i64 t578)) (fun _ hk => hk.2) (.slice Ao24 t579.length co24)) (fun _ hk => hk.2) (.slice Ao25 t582.length co25)) (fun _ h_ => h_.1))) hb); have n2_ := ak (Kd.R_below (by exact (Kd.R_mono (Kd.R_far (p := ⟨gb586, 2, none⟩) (Kd.R_far (p := ⟨gb586, 1, none⟩) (Kd.R_far (p := ⟨gb586, 0, none⟩) (Kd.R_types HO572.out BK586.out (by decide)) (fun _ hk => hk.2) (.int .i64 t578)) (fun _ hk => hk.2) (.slice Ao24 t579.length co24)) (fun _ hk => hk.2) (.slice Ao25 t582.length co25)) (fun _ h_ => h_.1))) hb); have n3_ := ak (Kd.R_below (by exact (Kd.R_mono (Kd.R_far (p := ⟨gb586, 2, none⟩) (Kd.R_far (p := ⟨gb586, 1, none⟩) (Kd.R_far (p := ⟨gb586, 0, none⟩) (Kd.R_types HO575.out BK586.out (by decide)) (fun _ hk => hk.2) (.int .i64 t578)) (fun _ hk => hk.2) (.slice Ao24 t579.length co24)) (fun _ hk => hk.2) (.slice Ao25 t582.length co25)) (fun _ h_ => h_.1))) hb); have n4_ := ak (Kd.R_below (by exact (Kd.R_mono (Kd.R_far (p := ⟨gb586, 2, none⟩) (Kd.R_far (p := ⟨gb586, 1, none⟩) (Kd.R_far (p := ⟨gb586, 0, none⟩) (Kd.R_types HO581.out BK586.out (by decide)) (fun _ hk => hk.2) (.int .i64 t578)) (fun _ hk => hk.2) (.slice Ao24 t579.length co24)) (fun _ hk => hk.2) (.slice Ao25 t582.length co25)) (fun _ h_ => h_.1))) hb); have n5_ := ak (Kd.R_below (by exact (Kd.R_mono (Kd.R_far (p := ⟨gb586, 2, none⟩) (Kd.R_far (p := ⟨gb586, 1, none⟩) (Kd.R_far (p := ⟨gb586, 0, none⟩) (Kd.R_types HO584.out BK586.out (by decide)) (fun _ hk => hk.2) (.int .i64 t578)) (fun _ hk => hk.2) (.slice Ao24 t579.length co24)) (fun _ hk => hk.2) (.slice Ao25 t582.length co25)) (fun _ h_ => h_.1))) hb); have n6_ := ak (blk_below (g := gb568) (o := .cells #[.int .i64 t560, .slice Ao10 t561.length co10, .slice Ao11 t564.length co11] 28 (0, 0)) (by refine blk_far ?_ NB568_586.out _; refine blk_far ?_ NB568_586.out _; refine blk_far ?_ NB568_586.out _; exact BK568.out) hb); have n7_ := ak (blk_below (g := gb577) (o := .cells #[.int .i64 t569, .slice Ao16 t570.length co16, .slice Ao17 t573.length co17] 28 (0, 0)) (by refine blk_far ?_ NB577_586.out _; refine blk_far ?_ NB577_586.out _; refine blk_far ?_ NB577_586.out _; exact BK577.out) hb); have n8_ := ak (blk_below (g := gb586) (o := .cells #[.int .i64 t578, .slice Ao24 t579.length co24, .slice Ao25 t582.length co25] 28 (0, 0)) (by refine blk_put (cs := #[.int .i64 t578, .slice Ao24 t579.length co24, .slice none 0 0]) ?_ 2 _ rfl; refine blk_put (cs := #[.int .i64 t578, .slice none 0 0, .slice none 0 0]) ?_ 1 _ rfl; refine blk_put (cs := #[.int .i64 0, .slice none 0 0, .slice none 0 0]) ?_ 0 _ rfl; exact BK586.out) hb); have n9_ := ak (below_step (bl3 HB GE568 GE577 GE586) hb); clear HO563; clear HO566; clear HO572; clear HO575; clear HO581; clear HO584; clear BK568; clear BK577; clear BK586; clear HB; have HO563 := n0_; have HO566 := n1_; have HO572 := n2_; have HO575 := n3_; have HO581 := n4_; have HO584 := n5_; have BK568 := n6_; have BK577 := n7_; have BK586 := n8_; have HB := n9_; clear n0_ n1_ n2_ n3_ n4_ n5_ n6_ n7_ n8_ n9_; (try clear hb); (try clear hb2); (try clear hk); (try clear hi); have hcz36_0 := bc w35 BK568 0 (.int .i64 t560) rfl; have hcz36_1 := bc w35 BK568 1 (.slice Ao10 t561.length co10) rfl; have hcz36_2 := bc w35 BK568 2 (.slice Ao11 t564.length co11) rfl; have hfz36_0 := fz BK568 0; have hfz36_1 := fz BK568 1; have hfz36_2 := fz BK568 2) | (go_at_call 10; (with_reducible refine (impl_LiveOk.calls k t560 _ _ t561 _ _ t564 t588 _ ?side1 ?side2 ?side3 ?side4 A29.out).mono ?_); (case side1 => repeat (exact (Kd.R_reads' HO563.out).2.2)); (case side2 => exact (Kd.R_reads' HO563.out).2.1); (case side3 => repeat (exact (Kd.R_reads' HO566.out).2.2)); (case side4 => exact (Kd.R_reads' HO566.out).2.1); rintro e w37 ⟨rfl, hb⟩; have n0_ := ak (Kd.R_below (rk HO563) hb); have n1_ := ak (Kd.R_below (rk HO566) hb); have n2_ := ak (Kd.R_below (rk HO572) hb); have n3_ := ak (Kd.R_below (rk HO575) hb); have n4_ := ak (Kd.R_below (rk HO581) hb); have n5_ := ak (Kd.R_below (rk HO584) hb); have n6_ := ak (blk_below (bk BK568) hb); have n7_ := ak (blk_below (bk BK577) hb); have n8_ := ak (blk_below (bk BK586) hb); have n9_ := ak (below_step (bl3 HB GE568 GE577 GE586) hb); clear HO563; clear HO566; clear HO572; clear HO575; clear HO581; clear HO584; clear BK568; clear BK577; clear BK586; clear HB; have HO563 := n0_; have HO566 := n1_; have HO572 := n2_; have HO575 := n3_; have HO581 := n4_; have HO584 := n5_; have BK568 := n6_; have BK577 := n7_; have BK586 := n8_; have HB := n9_; clear n0_ n1_ n2_ n3_ n4_ n5_ n6_ n7_ n8_ n9_; (try clear hb); (try clear hb2); (try clear hk); (try clear hi)))
  go_meet
  case rel => exact ⟨_, (!t588), (by rfl), H', ⟨by omega⟩, ⟨by exact Kd.R_mono HO563.out (fun _ hk => ⟨hk.1.2, hk.2⟩)⟩, ⟨by exact Kd.R_mono HO566.out (fun _ hk => ⟨hk.1.2, hk.2⟩)⟩, ⟨by exact Kd.R_mono HO572.out (fun _ hk => ⟨hk.1.2, hk.2⟩)⟩, ⟨by exact Kd.R_mono HO575.out (fun _ hk => ⟨hk.1.2, hk.2⟩)⟩, ⟨by exact Kd.R_mono HO581.out (fun _ hk => ⟨hk.1.2, hk.2⟩)⟩, ⟨by exact Kd.R_mono HO584.out (fun _ hk => ⟨hk.1.2, hk.2⟩)⟩, ⟨bk BK568⟩, ⟨bk BK577⟩, ⟨bk BK586⟩, ⟨bl3 HB GE568 GE577 GE586⟩⟩
 clear HC6
 try clear c1
 try clear c2
 try clear c2b0
 try clear c2b1
 try clear p2
 try clear c3
 try clear c4
 try clear c5
 try clear c11
 try clear c12
 try clear c13
 try clear c14
 try clear c21
 try clear c22
 try clear c26
 try clear c26b0
 try clear c26b1
 try clear c26b2
 try clear c28
 try clear c30
 try clear c31
 try clear c33
 try clear c38
 try clear c39
 try clear c41
 try clear hcz15_0
 try clear hcz15_1
 try clear hcz15_2
 try clear hcz18_0
 try clear hcz18_1
 try clear hcz18_2
 try clear hcz23_0
 try clear hcz23_1
 try clear hcz23_2
 try clear hcz32_0
 try clear hcz32_1
 try clear hcz32_2
 try clear hcz34_0
 try clear hcz34_1
 try clear hcz34_2
 try clear hcz36_0
 try clear hcz36_1
 try clear hcz36_2
 try clear hcz40_0
 try clear hcz40_1
 try clear hcz40_2
 try clear hcz42_0
 try clear hcz42_1
 try clear hcz42_2
 try clear hcz9_0
 try clear hcz9_1
 try clear hcz9_2
 try clear hfz15_0
 try clear hfz15_1
 try clear hfz15_2
 try clear hfz18_0
 try clear hfz18_1
 try clear hfz18_2
 try clear hfz23_0
 try clear hfz23_1
 try clear hfz23_2
 try clear hfz32_0
 try clear hfz32_1
 try clear hfz32_2
 try clear hfz34_0
 try clear hfz34_1
 try clear hfz34_2
 try clear hfz36_0
 try clear hfz36_1
 try clear hfz36_2
 try clear hfz40_0
 try clear hfz40_1
 try clear hfz40_2
 try clear hfz42_0
 try clear hfz42_1
 try clear hfz42_2
 try clear hfz9_0
 try clear hfz9_1
 try clear hfz9_2
 obtain ⟨kq, x45_5, rfl, HA, HJ5, HO_569001, HO_569002, HO_578001, HO_578002, HO_587001, HO_587002, BK568, BK577, BK586, HB⟩ := hcut
 cases kq with
 | zero => exact absurd HA.out (by simp [laws_FnLiveOver.j0])
 | succ kj5 =>
  have H := HA.out
  clear HA
  simp only [laws_FnLiveOver.j0] at H
  by_cases c44 : x45_5 = true
  ·subst c44
   rw [if_pos rfl] at H
   by_cases c45 : (t576 == t585) = true
   rotate_left
   ·rw [if_neg c45] at H
    have c45b0 : (t576 == t585) = false := by simpa using c45
    (try (have c45b1 : decide (t576 = t585) = false := by simpa using c45))
    (try (have c45b2 : (t576 == t585) = false := by simpa using c45))
    (try (have c45b3 : ¬ (t576 = t585) := by simpa using c45))
    clear c45
    exact absurd ((Option.some.inj H).trans hr_) Bool.false_ne_true
   rw [if_pos c45] at H
   have c45b0 : (t576 == t585) = true := c45
   (try (have c45b1 : decide (t576 = t585) = true := by simpa using c45))
   (try (have c45b2 : (t576 == t585) = true := by simpa using c45))
   clear c45
   replace H := Option.bind_eq_some_iff.mp H
   obtain ⟨t589, A460, H⟩ := H
   have A46 := ak A460
   clear A460
   obtain rfl := Option.some.inj H
   have hnb47 := NB577_568.out
   have hnc47 := NB568_577.out
   have hnb48 := NB577_586.out
   have hnc48 := NB586_577.out
   have hcz49_0 := bc wc BK577 0 (.int .i64 t569) rfl
   have hcz49_1 := bc wc BK577 1 (.slice Ao16 t570.length co16) rfl
   have hcz49_2 := bc wc BK577 2 (.slice Ao17 t573.length co17) rfl
   have hfz49_0 := fz BK577 0
   have hfz49_1 := fz BK577 1
   have hfz49_2 := fz BK577 2
   have hnb50 := NB586_568.out
   have hnc50 := NB568_586.out
   have hcz51_0 := bc wc BK586 0 (.int .i64 t578) rfl
   have hcz51_1 := bc wc BK586 1 (.slice Ao24 t579.length co24) rfl
   have hcz51_2 := bc wc BK586 2 (.slice Ao25 t582.length co25) rfl
   have hfz51_0 := fz BK586 0
   have hfz51_1 := fz BK586 1
   have hfz51_2 := fz BK586 2
   go_wp2_with ((go_at_call 9; (with_reducible refine (laws_wkLive.calls kj5 t569 _ _ t570 _ _ t573 t578 _ _ t579 _ _ t582 t589 _ ?side1 ?side2 ?side3 ?side4 ?side5 ?side6 ?side7 ?side8 A46.out).mono ?_); (case side1 => repeat (exact (Kd.R_reads' HO_578001.out).2.2)); (case side2 => exact (Kd.R_reads' HO_578001.out).2.1); (case side3 => repeat (exact (Kd.R_reads' HO_578002.out).2.2)); (case side4 => exact (Kd.R_reads' HO_578002.out).2.1); (case side5 => repeat (exact (Kd.R_reads' HO_587001.out).2.2)); (case side6 => exact (Kd.R_reads' HO_587001.out).2.1); (case side7 => repeat (exact (Kd.R_reads' HO_587002.out).2.2)); (case side8 => exact (Kd.R_reads' HO_587002.out).2.1); rintro e w52 ⟨rfl, hb⟩; have n0_ := ak (Kd.R_below (rk HO_569001) hb); have n1_ := ak (Kd.R_below (rk HO_569002) hb); have n2_ := ak (Kd.R_below (rk HO_578001) hb); have n3_ := ak (Kd.R_below (rk HO_578002) hb); have n4_ := ak (Kd.R_below (rk HO_587001) hb); have n5_ := ak (Kd.R_below (rk HO_587002) hb); have n6_ := ak (blk_below (bk BK568) hb); have n7_ := ak (blk_below (bk BK577) hb); have n8_ := ak (blk_below (bk BK586) hb); have n9_ := ak (below_step (bl3 HB GE568 GE577 GE586) hb); clear HO_569001; clear HO_569002; clear HO_578001; clear HO_578002; clear HO_587001; clear HO_587002; clear BK568; clear BK577; clear BK586; clear HB; have HO_569001 := n0_; have HO_569002 := n1_; have HO_578001 := n2_; have HO_578002 := n3_; have HO_587001 := n4_; have HO_587002 := n5_; have BK568 := n6_; have BK577 := n7_; have BK586 := n8_; have HB := n9_; clear n0_ n1_ n2_ n3_ n4_ n5_ n6_ n7_ n8_ n9_; (try clear hb); (try clear hb2); (try clear hk); (try clear hi)))
   go_ret
   exact ⟨by (simp [*, errW_none, errW_some] <;> rfl), bl3 HB GE568 GE577 GE586⟩
  replace c44 := Bool.eq_false_iff.mpr c44
  subst c44
  rw [if_neg (show ¬ (false = true) by decide)] at H
  have H' := ak H
  clear H
  go_wp2
  go_loopg [9] kj5 (fun kq v9 w' => ∃ (x9_2 : Int), v9 = .int .i64 x9_2 ∧ Aside0 (laws_FnLiveOver.l0 kq t567 t576 x9_2 t560 t561 t564 t569 t570 t573 = some r) ∧ Aside0 (kq ≤ kj5) ∧ Aside0 (Kd.R k65 65 w' w.heap.size (fun k_ => some k_ ≠ ((.slice Ao16 t570.length co16) : Value).ownBlock ∧ some k_ ≠ ((.slice Ao24 t579.length co24) : Value).ownBlock) (.slice Ao10 t561.length co10) t561) ∧ Aside0 (Kd.R k30 30 w' w.heap.size (fun k_ => some k_ ≠ ((.slice Ao17 t573.length co17) : Value).ownBlock ∧ some k_ ≠ ((.slice Ao25 t582.length co25) : Value).ownBlock) (.slice Ao11 t564.length co11) t564) ∧ Aside0 (Kd.R k65 65 w' w.heap.size (fun k_ => some k_ ≠ ((.slice Ao10 t561.length co10) : Value).ownBlock ∧ some k_ ≠ ((.slice Ao24 t579.length co24) : Value).ownBlock) (.slice Ao16 t570.length co16) t570) ∧ Aside0 (Kd.R k30 30 w' w.heap.size (fun k_ => some k_ ≠ ((.slice Ao11 t564.length co11) : Value).ownBlock ∧ some k_ ≠ ((.slice Ao25 t582.length co25) : Value).ownBlock) (.slice Ao17 t573.length co17) t573) ∧ Aside0 (Kd.R k65 65 w' w.heap.size (fun k_ => some k_ ≠ ((.slice Ao10 t561.length co10) : Value).ownBlock ∧ some k_ ≠ ((.slice Ao16 t570.length co16) : Value).ownBlock) (.slice Ao24 t579.length co24) t579) ∧ Aside0 (Kd.R k30 30 w' w.heap.size (fun k_ => some k_ ≠ ((.slice Ao11 t564.length co11) : Value).ownBlock ∧ some k_ ≠ ((.slice Ao17 t573.length co17) : Value).ownBlock) (.slice Ao25 t582.length co25) t582) ∧ Aside0 (w'.heap[gb568]? = some (.cells #[.int .i64 t560, (.slice Ao10 t561.length co10), (.slice Ao11 t564.length co11)] 28 (0, 0))) ∧ Aside0 (w'.heap[gb577]? = some (.cells #[.int .i64 t569, (.slice Ao16 t570.length co16), (.slice Ao17 t573.length co17)] 28 (0, 0))) ∧ Aside0 (w'.heap[gb586]? = some (.cells #[.int .i64 t578, (.slice Ao24 t579.length co24), (.slice Ao25 t582.length co25)] 28 (0, 0))) ∧ Aside0 (Below w.heap.size w w'))
  case atStart => exact ⟨(0), (by rfl), H', ⟨Nat.le_refl _⟩, ⟨rk HO_569001⟩, ⟨rk HO_569002⟩, ⟨rk HO_578001⟩, ⟨rk HO_578002⟩, ⟨rk HO_587001⟩, ⟨rk HO_587002⟩, ⟨bk BK568⟩, ⟨bk BK577⟩, ⟨bk BK586⟩, ⟨bl3 HB GE568 GE577 GE586⟩⟩
  clear H'
  try clear c1
  try clear c2
  try clear c2b0
  try clear c2b1
  try clear p2
  try clear c3
  try clear c4
  try clear c5
  try clear c11
  try clear c12
  try clear c13
  try clear c14
  try clear c21
  try clear c22
  try clear c26
  try clear c26b0
  try clear c26b1
  try clear c26b2
  try clear c28
  try clear c30
  try clear c31
  try clear c33
  try clear c38
  try clear c39
  try clear c41
  try clear c44
  try clear c45
  try clear c45b0
  try clear c45b1
  try clear c45b2
  try clear c47
  try clear c48
  try clear c50
  try clear hcz15_0
  try clear hcz15_1
  try clear hcz15_2
  try clear hcz18_0
  try clear hcz18_1
  try clear hcz18_2
  try clear hcz23_0
  try clear hcz23_1
  try clear hcz23_2
  try clear hcz32_0
  try clear hcz32_1
  try clear hcz32_2
  try clear hcz34_0
  try clear hcz34_1
  try clear hcz34_2
  try clear hcz36_0
  try clear hcz36_1
  try clear hcz36_2
  try clear hcz40_0
  try clear hcz40_1
  try clear hcz40_2
  try clear hcz42_0
  try clear hcz42_1
  try clear hcz42_2
  try clear hcz49_0
  try clear hcz49_1
  try clear hcz49_2
  try clear hcz51_0
  try clear hcz51_1
  try clear hcz51_2
  try clear hcz9_0
  try clear hcz9_1
  try clear hcz9_2
  try clear hfz15_0
  try clear hfz15_1
  try clear hfz15_2
  try clear hfz18_0
  try clear hfz18_1
  try clear hfz18_2
  try clear hfz23_0
  try clear hfz23_1
  try clear hfz23_2
  try clear hfz32_0
  try clear hfz32_1
  try clear hfz32_2
  try clear hfz34_0
  try clear hfz34_1
  try clear hfz34_2
  try clear hfz36_0
  try clear hfz36_1
  try clear hfz36_2
  try clear hfz40_0
  try clear hfz40_1
  try clear hfz40_2
  try clear hfz42_0
  try clear hfz42_1
  try clear hfz42_2
  try clear hfz49_0
  try clear hfz49_1
  try clear hfz49_2
  try clear hfz51_0
  try clear hfz51_1
  try clear hfz51_2
  try clear hfz9_0
  try clear hfz9_1
  try clear hfz9_2
  try clear p2
  obtain ⟨x9_2, rfl, HA, HK2, HO_569001, HO_569002, HO_578001, HO_578002, HO_587001, HO_587002, BK568, BK577, BK586, HB⟩ := hrel
  cases gk with
  | zero => exact absurd HA.out (by simp [laws_FnLiveOver.l0])
  | succ k2 =>
   have H := HA.out
   clear HA
   simp only [laws_FnLiveOver.l0] at H
   by_cases c53 : x9_2 < (t564.length : Int)
   rotate_left
   ·rw [if_neg c53] at H
    have c53b0 : decide (x9_2 < (t564.length : Int)) = false := decide_eq_false c53
    clear c53
    by_cases c88 : t576 = true
    ·subst c88
     rw [if_pos rfl] at H
     exact absurd ((Option.some.inj H).trans hr_) Bool.false_ne_true
    replace c88 := Bool.eq_false_iff.mpr c88
    subst c88
    rw [if_neg (show ¬ (false = true) by decide)] at H
    replace H := Option.bind_eq_some_iff.mp H
    obtain ⟨t590, A890, H⟩ := H
    have A89 := ak A890
    clear A890
    obtain rfl := Option.some.inj H
    have hnb90 := NB568_577.out
    have hnc90 := NB577_568.out
    have hnb91 := NB568_586.out
    have hnc91 := NB586_568.out
    have hcz92_0 := bc wr BK568 0 (.int .i64 t560) rfl
    have hcz92_1 := bc wr BK568 1 (.slice Ao10 t561.length co10) rfl
    have hcz92_2 := bc wr BK568 2 (.slice Ao11 t564.length co11) rfl
    have hfz92_0 := fz BK568 0
    have hfz92_1 := fz BK568 1
    have hfz92_2 := fz BK568 2
    have hnb93 := NB577_586.out
    have hnc93 := NB586_577.out
    have hcz94_0 := bc wr BK577 0 (.int .i64 t569) rfl
    have hcz94_1 := bc wr BK577 1 (.slice Ao16 t570.length co16) rfl
    have hcz94_2 := bc wr BK577 2 (.slice Ao17 t573.length co17) rfl
    have hfz94_0 := fz BK577 0
    have hfz94_1 := fz BK577 1
    have hfz94_2 := fz BK577 2
    go_wp2_with ((go_at_call 9; (with_reducible refine (laws_wkLive.calls k2 t569 _ _ t570 _ _ t573 t560 _ _ t561 _ _ t564 t590 _ ?side1 ?side2 ?side3 ?side4 ?side5 ?side6 ?side7 ?side8 A89.out).mono ?_); (case side1 => repeat (exact (Kd.R_reads' HO_578001.out).2.2)); (case side2 => exact (Kd.R_reads' HO_578001.out).2.1); (case side3 => repeat (exact (Kd.R_reads' HO_578002.out).2.2)); (case side4 => exact (Kd.R_reads' HO_578002.out).2.1); (case side5 => repeat (exact (Kd.R_reads' HO_569001.out).2.2)); (case side6 => exact (Kd.R_reads' HO_569001.out).2.1); (case side7 => repeat (exact (Kd.R_reads' HO_569002.out).2.2)); (case side8 => exact (Kd.R_reads' HO_569002.out).2.1); rintro e w95 ⟨rfl, hb⟩; have n0_ := ak (Kd.R_below (rk HO_569001) hb); have n1_ := ak (Kd.R_below (rk HO_569002) hb); have n2_ := ak (Kd.R_below (rk HO_578001) hb); have n3_ := ak (Kd.R_below (rk HO_578002) hb); have n4_ := ak (Kd.R_below (rk HO_587001) hb); have n5_ := ak (Kd.R_below (rk HO_587002) hb); have n6_ := ak (blk_below (bk BK568) hb); have n7_ := ak (blk_below (bk BK577) hb); have n8_ := ak (blk_below (bk BK586) hb); have n9_ := ak (below_step (bl3 HB GE568 GE577 GE586) hb); clear HO_569001; clear HO_569002; clear HO_578001; clear HO_578002; clear HO_587001; clear HO_587002; clear BK568; clear BK577; clear BK586; clear HB; have HO_569001 := n0_; have HO_569002 := n1_; have HO_578001 := n2_; have HO_578002 := n3_; have HO_587001 := n4_; have HO_587002 := n5_; have BK568 := n6_; have BK577 := n7_; have BK586 := n8_; have HB := n9_; clear n0_ n1_ n2_ n3_ n4_ n5_ n6_ n7_ n8_ n9_; (try clear hb); (try clear hb2); (try clear hk); (try clear hi)))
    go_ret
    exact ⟨by (simp [*, errW_none, errW_some] <;> rfl), bl3 HB GE568 GE577 GE586⟩
   rw [if_pos c53] at H
   have c53b0 : decide (x9_2 < (t564.length : Int)) = true := decide_eq_true c53
   clear c53
   by_cases c54 : 0 ≤ x9_2
   rotate_left
   ·rw [if_neg c54] at H
    exact absurd H (by simp)
   rw [if_pos c54] at H
   have c54b0 : decide (0 ≤ x9_2) = true := decide_eq_true c54
   clear c54
   by_cases c55 : ((rd_T30 t564 x9_2).f0) = t567
   rotate_left
   ·rw [if_neg c55] at H
    have c55b0 : (((rd_T30 t564 x9_2).f0) == t567) = false := beq_eq_false_iff_ne.mpr c55
    have c55b1 : (((rd_T30 t564 x9_2).f0) != t567) = true := bne_iff_ne.mpr c55
    have H' := ak H
    clear H
    have hnb85 := NB568_577.out
    have hnc85 := NB577_568.out
    have hnb86 := NB568_586.out
    have hnc86 := NB586_568.out
    have hcz87_0 := bc wr BK568 0 (.int .i64 t560) rfl
    have hcz87_1 := bc wr BK568 1 (.slice Ao10 t561.length co10) rfl
    have hcz87_2 := bc wr BK568 2 (.slice Ao11 t564.length co11) rfl
    have hfz87_0 := fz BK568 0
    have hfz87_1 := fz BK568 1
    have hfz87_2 := fz BK568 2
    have p591 : 0 ≤ (x9_2 : Int) := oT (by (with_reducible assumption))
    have q591 : x9_2 < (t564.length : Int) := oT (by (with_reducible assumption))
    obtain ⟨ad591, e591, hx591_0, hx591_1, hx591_2⟩ := at_T30 (Kd.R_reads' HO_569002.out).2.2 x9_2 p591 q591
    cases e591
    replace p591 := eq_true p591
    replace q591 := eq_true q591
    go_wp2
    go_roundg k2
    case measure => have := HJ5.out; have := HK2.out; omega
    case rel => exact ⟨(wrap64 (x9_2 + 1)), (by rfl), H', ⟨by have := HJ5.out; have := HK2.out; omega⟩, ⟨rk HO_569001⟩, ⟨rk HO_569002⟩, ⟨rk HO_578001⟩, ⟨rk HO_578002⟩, ⟨rk HO_587001⟩, ⟨rk HO_587002⟩, ⟨bk BK568⟩, ⟨bk BK577⟩, ⟨bk BK586⟩, ⟨bl3 HB GE568 GE577 GE586⟩⟩
   rw [if_pos c55] at H
   have c55b0 : (((rd_T30 t564 x9_2).f0) == t567) = true := beq_iff_eq.mpr c55
   have c55b1 : (((rd_T30 t564 x9_2).f0) != t567) = false := bne_eq_false_iff_eq.mpr c55
   clear c55
   replace H := Option.bind_eq_some_iff.mp H
   obtain ⟨⟨t593, t594, t597, t600⟩, A560, H⟩ := H
   have A56 := ak A560
   clear A560
   by_cases c57 : t576 = true
   rotate_left
   ·replace c57 := Bool.eq_false_iff.mpr c57
    subst c57
    rw [if_neg (show ¬ (false = true) by decide)] at H
    exact absurd ((Option.some.inj H).trans hr_) Bool.false_ne_true
   subst c57
   rw [if_pos rfl] at H
   by_cases c58 : (t573.length : Int) = (wrap64 ((t564.length : Int) - 1))
   rotate_left
   ·rw [if_neg c58] at H
    have c58b0 : ((t573.length : Int) == (wrap64 ((t564.length : Int) - 1))) = false := beq_eq_false_iff_ne.mpr c58
    have c58b1 : ((t573.length : Int) != (wrap64 ((t564.length : Int) - 1))) = true := bne_iff_ne.mpr c58
    exact absurd ((Option.some.inj H).trans hr_) Bool.false_ne_true
   rw [if_pos c58] at H
   have c58b0 : ((t573.length : Int) == (wrap64 ((t564.length : Int) - 1))) = true := beq_iff_eq.mpr c58
   have c58b1 : ((t573.length : Int) != (wrap64 ((t564.length : Int) - 1))) = false := bne_eq_false_iff_eq.mpr c58
   clear c58
   by_cases c59 : t600 = true
   rotate_left
   ·replace c59 := Bool.eq_false_iff.mpr c59
    subst c59
    rw [if_neg (show ¬ (false = true) by decide)] at H
    exact absurd ((Option.some.inj H).trans hr_) Bool.false_ne_true
   subst c59
   rw [if_pos rfl] at H
   replace H := Option.bind_eq_some_iff.mp H
   obtain ⟨t602, A600, H⟩ := H
   have A60 := ak A600
   clear A600
   by_cases c61 : t602 = true
   rotate_left
   ·replace c61 := Bool.eq_false_iff.mpr c61
    subst c61
    rw [if_neg (show ¬ (false = true) by decide)] at H
    exact absurd ((Option.some.inj H).trans hr_) Bool.false_ne_true
   subst c61
   rw [if_pos rfl] at H
   replace H := Option.bind_eq_some_iff.mp H
   obtain ⟨t603, A620, H⟩ := H
   have A62 := ak A620
   clear A620
   obtain rfl := Option.some.inj H
   have hnb63 := NB568_577.out
   have hnc63 := NB577_568.out
   have hnb64 := NB568_586.out
   have hnc64 := NB586_568.out
   have hcz65_0 := bc wr BK568 0 (.int .i64 t560) rfl
   have hcz65_1 := bc wr BK568 1 (.slice Ao10 t561.length co10) rfl
   have hcz65_2 := bc wr BK568 2 (.slice Ao11 t564.length co11) rfl
   have hfz65_0 := fz BK568 0
   have hfz65_1 := fz BK568 1
   have hfz65_2 := fz BK568 2
   have p591 : 0 ≤ (x9_2 : Int) := oT (by (with_reducible assumption))
   have q591 : x9_2 < (t564.length : Int) := oT (by (with_reducible assumption))
   obtain ⟨ad591, e591, hx591_0, hx591_1, hx591_2⟩ := at_T30 (Kd.R_reads' HO_569002.out).2.2 x9_2 p591 q591
   cases e591
   replace p591 := eq_true p591
   replace q591 := eq_true q591
   try go_wp2
   replace HO_569001 := ak (Kd.R_drew HO_569001.out)
   replace HO_569002 := ak (Kd.R_drew HO_569002.out)
   replace HO_578001 := ak (Kd.R_drew HO_578001.out)
   replace HO_578002 := ak (Kd.R_drew HO_578002.out)
   replace HO_587001 := ak (Kd.R_drew HO_587001.out)
   replace HO_587002 := ak (Kd.R_drew HO_587002.out)
   replace BK568 := ak (blk_drew BK568.out)
   replace BK577 := ak (blk_drew BK577.out)
   replace BK586 := ak (blk_drew BK586.out)
   replace HB := ak (below_drew1 HB.out)
   have p592 : 0 ≤ (x9_2 : Int) := oT (by (with_reducible assumption))
   have q592 : x9_2 < (t564.length : Int) := oT (by (with_reducible assumption))
   obtain ⟨ad592, e592, hx592_0, hx592_1, hx592_2⟩ := at_T30 (Kd.R_reads' HO_569002.out).2.2 x9_2 p592 q592
   obtain rfl : ad591 = ad592 := (by injection e592)
   replace p592 := eq_true p592
   replace q592 := eq_true q592
   refine start_ (n := 13) (S := fun w' => w'.cell? ⟨gb577, 0, none⟩ = some (.int .i64 t569) ∧ w'.cell? ⟨gb577, 1, none⟩ = some (.slice Ao16 t570.length co16) ∧ w'.cell? ⟨gb577, 2, none⟩ = some (.slice Ao17 t573.length co17) ∧ w'.cell? ⟨gb568, 0, none⟩ = some (.int .i64 t560) ∧ w'.cell? ⟨gb568, 1, none⟩ = some (.slice Ao10 t561.length co10) ∧ w'.cell? ⟨gb568, 2, none⟩ = some (.slice (some ad591) t564.length co11) ∧ w'.cell? (ad591.add ((x9_2).toNat * 3)) = some (.int .i64 ((rd_T30 t564 x9_2).f0)) ∧ w'.cell? ⟨(ad591.add ((x9_2).toNat * 3)).block, (ad591.add ((x9_2).toNat * 3)).off + 1, none⟩ = some (.int .i64 ((rd_T30 t564 x9_2).f1)) ∧ w'.cell? ⟨(ad591.add ((x9_2).toNat * 3)).block, (ad591.add ((x9_2).toNat * 3)).off + 2, none⟩ = some (.int .i64 ((rd_T30 t564 x9_2).f2))) (ds := []) (ms 13 0) (by kernel_rfl) rfl (by kernel_rfl) ⟨(blk_cell BK577.out 0).trans rfl, (blk_cell BK577.out 1).trans rfl, (blk_cell BK577.out 2).trans rfl, (blk_cell BK568.out 0).trans rfl, (blk_cell BK568.out 1).trans rfl, (blk_cell BK568.out 2).trans rfl, hx592_0, hx592_1, hx592_2⟩ (fun hHeld => ?_); refine with_tabW laws_FnLiveOver.tab12 laws_FnLiveOver.bits12 (fun HT_ HW_ => ?_)
   generalize wr.drew = w66 at HO_569001 HO_569002 HO_578001 HO_578002 HO_587001 HO_587002 BK568 BK577 BK586 HB hx592_0 hx592_1 hx592_2 hHeld ⊢
   refine pu 1 71 ?_ (ms 13 2) rfl rfl HT_ (by kernel_rfl) (fun _ _ _ h => h) (by rfl) ?_ ?_ ?_ ?_
   rotate_left
   ·intro w'
    go_simp
    with_reducible rfl
   rotate_left
   ·simp only [SX]
    rfl
   refine pu 3 73 ?_ (ms 13 10) rfl rfl HT_ (by kernel_rfl) (fun _ _ _ h => h) (by rfl) ?_ ?_ ?_ ?_
   rotate_left
   ·intro w'
    go_simp
    with_reducible rfl
   rotate_left
   ·simp only [SX]
    rfl
   refine tk 0 70 ?_ (ms 13 11) rfl rfl HT_ HW_ (by kernel_rfl) (fun _ _ _ h => h) (by rfl) ?_ hHeld ?_ ?_ ?_
   rotate_left
   ·rintro w' ⟨s0, s1, s2, s3, s4, s5, s6, s7, s8⟩
    go_simp
    with_reducible rfl
   rotate_left
   ·simp only [SX]
    rfl
   refine tk 2 72 ?_ (ms 13 15) rfl rfl HT_ HW_ (by kernel_rfl) (fun _ _ _ h => h) (by rfl) ?_ hHeld ?_ ?_ ?_
   rotate_left
   ·rintro w' ⟨s0, s1, s2, s3, s4, s5, s6, s7, s8⟩
    go_simp
    with_reducible rfl
   rotate_left
   ·simp only [SX]
    rfl
   refine pu 4 74 ?_ (ms 13 31) rfl rfl HT_ (by kernel_rfl) (fun _ _ _ h => h) (by rfl) ?_ ?_ ?_ ?_
   rotate_left
   ·intro w'
    go_simp
    with_reducible rfl
   rotate_left
   ·simp only [SX]
    rfl
   refine tk 5 75 ?_ (ms 13 63) rfl rfl HT_ HW_ (by kernel_rfl) (fun _ _ _ h => h) (by rfl) ?_ hHeld ?_ ?_ ?_
   rotate_left
   ·rintro w' ⟨s0, s1, s2, s3, s4, s5, s6, s7, s8⟩
    go_simp
    with_reducible rfl
   rotate_left
   ·simp only [SX]
    rfl
   refine join_ (σ := Value × Value × Nat) 2 (ms 13 2047) (fun s_ => [(76, .tuple #[.agg #[.int .i64 t593, s_.1, s_.2.1], .bool true]), (10, .pointer (some ⟨s_.2.2, 0, none⟩)), (69, .tuple #[.agg #[.int .i64 t593, s_.1, s_.2.1], .bool true]), (77, .agg #[.int .i64 t593, s_.1, s_.2.1]), (78, .bool true)]) (fun s_ w' => (w'.cell? ⟨gb577, 0, none⟩ = some (.int .i64 t569) ∧ w'.cell? ⟨gb577, 1, none⟩ = some (.slice Ao16 t570.length co16) ∧ w'.cell? ⟨gb577, 2, none⟩ = some (.slice Ao17 t573.length co17) ∧ w'.cell? ⟨gb568, 0, none⟩ = some (.int .i64 t560) ∧ w'.cell? ⟨gb568, 1, none⟩ = some (.slice Ao10 t561.length co10) ∧ w'.cell? ⟨gb568, 2, none⟩ = some (.slice (some ad591) t564.length co11) ∧ w'.cell? (ad591.add ((x9_2).toNat * 3)) = some (.int .i64 ((rd_T30 t564 x9_2).f0)) ∧ w'.cell? ⟨(ad591.add ((x9_2).toNat * 3)).block, (ad591.add ((x9_2).toNat * 3)).off + 1, none⟩ = some (.int .i64 ((rd_T30 t564 x9_2).f1)) ∧ w'.cell? ⟨(ad591.add ((x9_2).toNat * 3)).block, (ad591.add ((x9_2).toNat * 3)).off + 2, none⟩ = some (.int .i64 ((rd_T30 t564 x9_2).f2))) ∧ (Kd.R k65 65 w' w.heap.size (fun k_ => some k_ ≠ (.slice Ao10 t561.length co10 : Value).ownBlock ∧ some k_ ≠ (.slice Ao16 t570.length co16 : Value).ownBlock ∧ some k_ ≠ (.slice Ao24 t579.length co24 : Value).ownBlock) s_.1 t594) ∧ (Kd.R k30 30 w' w.heap.size (fun k_ => some k_ ≠ (.slice (some ad591) t564.length co11 : Value).ownBlock ∧ some k_ ≠ (.slice Ao17 t573.length co17 : Value).ownBlock ∧ some k_ ≠ (.slice Ao25 t582.length co25 : Value).ownBlock) s_.2.1 t597) ∧ (Kd.R k65 65 w' w.heap.size (fun k_ => some k_ ≠ (s_.1 : Value).ownBlock ∧ some k_ ≠ (.slice Ao16 t570.length co16 : Value).ownBlock ∧ some k_ ≠ (.slice Ao24 t579.length co24 : Value).ownBlock) (.slice Ao10 t561.length co10) t561) ∧ (Kd.R k30 30 w' w.heap.size (fun k_ => some k_ ≠ (s_.2.1 : Value).ownBlock ∧ some k_ ≠ (.slice Ao17 t573.length co17 : Value).ownBlock ∧ some k_ ≠ (.slice Ao25 t582.length co25 : Value).ownBlock) (.slice (some ad591) t564.length co11) t564) ∧ (Kd.R k65 65 w' w.heap.size (fun k_ => some k_ ≠ (s_.1 : Value).ownBlock ∧ some k_ ≠ (.slice Ao10 t561.length co10 : Value).ownBlock ∧ some k_ ≠ (.slice Ao24 t579.length co24 : Value).ownBlock) (.slice Ao16 t570.length co16) t570) ∧ (Kd.R k30 30 w' w.heap.size (fun k_ => some k_ ≠ (s_.2.1 : Value).ownBlock ∧ some k_ ≠ (.slice (some ad591) t564.length co11 : Value).ownBlock ∧ some k_ ≠ (.slice Ao25 t582.length co25 : Value).ownBlock) (.slice Ao17 t573.length co17) t573) ∧ (Kd.R k65 65 w' w.heap.size (fun k_ => some k_ ≠ (s_.1 : Value).ownBlock ∧ some k_ ≠ (.slice Ao10 t561.length co10 : Value).ownBlock ∧ some k_ ≠ (.slice Ao16 t570.length co16 : Value).ownBlock) (.slice Ao24 t579.length co24) t579) ∧ (Kd.R k30 30 w' w.heap.size (fun k_ => some k_ ≠ (s_.2.1 : Value).ownBlock ∧ some k_ ≠ (.slice (some ad591) t564.length co11 : Value).ownBlock ∧ some k_ ≠ (.slice Ao17 t573.length co17 : Value).ownBlock) (.slice Ao25 t582.length co25) t582) ∧ (w'.heap[gb568]? = some (.cells #[.int .i64 t560, .slice Ao10 t561.length co10, .slice (some ad591) t564.length co11] 28 (0, 0))) ∧ (w'.heap[gb577]? = some (.cells #[.int .i64 t569, .slice Ao16 t570.length co16, .slice Ao17 t573.length co17] 28 (0, 0))) ∧ (w'.heap[gb586]? = some (.cells #[.int .i64 t578, .slice Ao24 t579.length co24, .slice Ao25 t582.length co25] 28 (0, 0))) ∧ (w'.heap[s_.2.2]? = some (.cells #[.int .i64 0, .slice none 0 0, .slice none 0 0] 28 (0, 0))) ∧ (w.heap.size ≤ s_.2.2) ∧ (w.heap.size ≤ s_.2.2) ∧ (gb568 ≠ s_.2.2) ∧ (s_.2.2 ≠ gb568) ∧ (gb577 ≠ s_.2.2) ∧ (s_.2.2 ≠ gb577) ∧ (gb586 ≠ s_.2.2) ∧ (s_.2.2 ≠ gb586) ∧ (Below w.heap.size w w')) ?_ ?_
   rotate_left
   ·intro hCont
    refine two_ (i := 6) (j := 10) (Ni := some 76) (Nj := some 10) (ms 13 127) (ms 13 1087) rfl rfl rfl rfl (two_of HT_.out (by kernel_rfl)) (by decide) (by decide) (fun K hK => ?_) (fun K hK => ?_)
    rotate_left
    ·skip
     refine box_step ?hg (N := 10) ?hd (cs := #[.int .i64 0, .slice none 0 0, .slice none 0 0]) (t := 28) ?hr ?_; (case hd => rfl); (case hg => rfl); (case hr => (go_simp; done))
     intro gb601 hg w67 hbox hb
     have HS6_ := (hb.cell (World.block_lt_of_cell? _ _ (hHeld.2.2.2.2.2.2.1))).trans (hHeld.2.2.2.2.2.2.1)
     have HS7_ := (hb.cell (World.block_lt_of_cell? _ _ (hHeld.2.2.2.2.2.2.2.1))).trans (hHeld.2.2.2.2.2.2.2.1)
     have HS8_ := (hb.cell (World.block_lt_of_cell? _ _ (hHeld.2.2.2.2.2.2.2.2))).trans (hHeld.2.2.2.2.2.2.2.2)
     replace HO_569001 := ak (Kd.R_below (rk HO_569001) hb)
     replace HO_569002 := ak (Kd.R_below (rk HO_569002) hb)
     replace HO_578001 := ak (Kd.R_below (rk HO_578001) hb)
     replace HO_578002 := ak (Kd.R_below (rk HO_578002) hb)
     replace HO_587001 := ak (Kd.R_below (rk HO_587001) hb)
     replace HO_587002 := ak (Kd.R_below (rk HO_587002) hb)
     have BK601 := ak (hbox)
     have GW601 := ak ((by rw [hg]; exact (below_size (bl3 HB GE568 GE577 GE586)) : w.heap.size ≤ gb601))
     have GE601 := ak ((by rw [hg]; exact (below_size (bl3 HB GE568 GE577 GE586)) : w.heap.size ≤ gb601))
     replace HB := ak (below_step (bl3 HB GE568 GE577 GE586) hb)
     have NB568_601 := ak ((by rw [hg]; exact Nat.ne_of_lt (blk_lt (bk BK568)) : gb568 ≠ gb601))
     have NB601_568 := ak ((by rw [hg]; exact Nat.ne_of_gt (blk_lt (bk BK568)) : gb601 ≠ gb568))
     replace BK568 := ak (blk_below (bk BK568) hb)
     have NB577_601 := ak ((by rw [hg]; exact Nat.ne_of_lt (blk_lt (bk BK577)) : gb577 ≠ gb601))
     have NB601_577 := ak ((by rw [hg]; exact Nat.ne_of_gt (blk_lt (bk BK577)) : gb601 ≠ gb577))
     replace BK577 := ak (blk_below (bk BK577) hb)
     have NB586_601 := ak ((by rw [hg]; exact Nat.ne_of_lt (blk_lt (bk BK586)) : gb586 ≠ gb601))
     have NB601_586 := ak ((by rw [hg]; exact Nat.ne_of_gt (blk_lt (bk BK586)) : gb601 ≠ gb586))
     replace BK586 := ak (blk_below (bk BK586) hb)
     clear hb hbox hg
     refine hK.out _ _ ⟨(blk_cell BK577.out 0).trans rfl, (blk_cell BK577.out 1).trans rfl, (blk_cell BK577.out 2).trans rfl, (blk_cell BK568.out 0).trans rfl, (blk_cell BK568.out 1).trans rfl, (blk_cell BK568.out 2).trans rfl, HS6_, HS7_, HS8_⟩ (fun hHeld => ?_)
     clear hK K
     refine norm_ (a' := ?_) ?_ ?_
     rotate_left
     ·show Act.put _ (some 10) _ = _
      simp only [SX]
      rfl
     refine one_ (i := 6) (N := some 76) (ms 13 1151) rfl rfl (one_of HT_.out (by kernel_rfl)) (by decide) (fun K hK => ?_)
     refine goes_ Try.func7 (by kernel_rfl) rfl #[.agg #[.int .i64 t569, .slice Ao16 t570.length co16, .slice Ao17 t573.length co17], .agg #[.int .i64 ((rd_T30 t564 x9_2).f0), .int .i64 ((rd_T30 t564 x9_2).f1), .int .i64 ((rd_T30 t564 x9_2).f2)]] (by rfl) rfl rfl (by (try simp only [List.map_toArray, List.map_cons, List.map_nil]); rfl) ?_
     with_reducible refine (impl_LiveTell.calls k2 t569 _ _ t570 _ _ t573 ((rd_T30 t564 x9_2).f0) ((rd_T30 t564 x9_2).f1) ((rd_T30 t564 x9_2).f2) t593 t594 t597 true _ ?side1 ?side2 ?side3 ?side4 A56.out).mono ?_
     (case side1 => repeat (exact (Kd.R_reads' HO_578001.out).2.2))
     (case side2 => exact (Kd.R_reads' HO_578001.out).2.1)
     (case side3 => repeat (exact (Kd.R_reads' HO_578002.out).2.2))
     (case side4 => exact (Kd.R_reads' HO_578002.out).2.1)
     rintro e w68 ⟨v595, v598, rfl, ho0, ho1, hb⟩
     have HS6_ := (hb.cell (World.block_lt_of_cell? _ _ (hHeld.2.2.2.2.2.2.1))).trans (hHeld.2.2.2.2.2.2.1)
     have HS7_ := (hb.cell (World.block_lt_of_cell? _ _ (hHeld.2.2.2.2.2.2.2.1))).trans (hHeld.2.2.2.2.2.2.2.1)
     have HS8_ := (hb.cell (World.block_lt_of_cell? _ _ (hHeld.2.2.2.2.2.2.2.2))).trans (hHeld.2.2.2.2.2.2.2.2)
     refine ⟨_, rfl, ?_⟩
     have HO596 := ak (Kd.R_lower (Kd.R_new' (Kd.R_new' (Kd.R_new' ho0 (Kd.R_lt (rk HO_569001))) (Kd.R_lt (rk HO_578001))) (Kd.R_lt (rk HO_587001))) (below_size (bl4 HB GE568 GE577 GE586 GE601)))
     replace HO_569001 := ak (Kd.R_elder' (rk HO_569001) (Kd.R_base ho0) hb)
     replace HO_578001 := ak (Kd.R_elder' (rk HO_578001) (Kd.R_base ho0) hb)
     replace HO_587001 := ak (Kd.R_elder' (rk HO_587001) (Kd.R_base ho0) hb)
     have HO599 := ak (Kd.R_lower (Kd.R_new' (Kd.R_new' (Kd.R_new' ho1 (Kd.R_lt (rk HO_569002))) (Kd.R_lt (rk HO_578002))) (Kd.R_lt (rk HO_587002))) (below_size (bl4 HB GE568 GE577 GE586 GE601)))
     replace HO_569002 := ak (Kd.R_elder' (rk HO_569002) (Kd.R_base ho1) hb)
     replace HO_578002 := ak (Kd.R_elder' (rk HO_578002) (Kd.R_base ho1) hb)
     replace HO_587002 := ak (Kd.R_elder' (rk HO_587002) (Kd.R_base ho1) hb)
     replace BK568 := ak (blk_below (bk BK568) hb)
     replace BK577 := ak (blk_below (bk BK577) hb)
     replace BK586 := ak (blk_below (bk BK586) hb)
     replace BK601 := ak (blk_below (bk BK601) hb)
     replace HB := ak (below_step (bl4 HB GE568 GE577 GE586 GE601) hb)
     (try clear hb)
     (try clear hb2)
     (try clear hk)
     (try clear hi)
     (try clear ho0)
     (try clear ho1)
     refine hK.out _ _ ⟨(blk_cell BK577.out 0).trans rfl, (blk_cell BK577.out 1).trans rfl, (blk_cell BK577.out 2).trans rfl, (blk_cell BK568.out 0).trans rfl, (blk_cell BK568.out 1).trans rfl, (blk_cell BK568.out 2).trans rfl, HS6_, HS7_, HS8_⟩ (fun hHeld => ?_)
     clear hK K
     refine norm_ (a' := ?_) ?_ ?_
     rotate_left
     ·show Act.put _ (some 76) _ = _
      simp only [SX]
      rfl
     refine pu 7 69 ?_ (ms 13 1279) rfl rfl HT_ (by kernel_rfl) (fun _ _ _ h => h) (by rfl) ?_ ?_ ?_ ?_
     rotate_left
     ·intro w'
      go_simp
      with_reducible rfl
     rotate_left
     ·simp only [SX]
      rfl
     refine pu 8 77 ?_ (ms 13 1535) rfl rfl HT_ (by kernel_rfl) (fun _ _ _ h => h) (by rfl) ?_ ?_ ?_ ?_
     rotate_left
     ·intro w'
      go_simp
      with_reducible rfl
     rotate_left
     ·simp only [SX]
      rfl
     refine pu 9 78 ?_ (ms 13 2047) rfl rfl HT_ (by kernel_rfl) (fun _ _ _ h => h) (by rfl) ?_ ?_ ?_ ?_
     rotate_left
     ·intro w'
      go_simp
      with_reducible rfl
     rotate_left
     ·simp only [SX]
      rfl
     exact norm_ (by simp only [putAll, Act.put, List.setIfInBounds_toArray, List.set_cons_zero, List.set_cons_succ]) (hCont (v595, v598, gb601) _ ⟨hHeld, (by exact Kd.R_mono HO596.out (fun _ hk => ⟨hk.1.1.2, ⟨hk.1.2, hk.2⟩⟩)), (by exact Kd.R_mono HO599.out (fun _ hk => ⟨hk.1.1.2, ⟨hk.1.2, hk.2⟩⟩)), (by exact Kd.R_mono HO_569001.out (fun _ hk => ⟨hk.2, ⟨hk.1.1, hk.1.2⟩⟩)), (by exact Kd.R_mono HO_569002.out (fun _ hk => ⟨hk.2, ⟨hk.1.1, hk.1.2⟩⟩)), (by exact Kd.R_mono HO_578001.out (fun _ hk => ⟨hk.2, ⟨hk.1.1, hk.1.2⟩⟩)), (by exact Kd.R_mono HO_578002.out (fun _ hk => ⟨hk.2, ⟨hk.1.1, hk.1.2⟩⟩)), (by exact Kd.R_mono HO_587001.out (fun _ hk => ⟨hk.2, ⟨hk.1.1, hk.1.2⟩⟩)), (by exact Kd.R_mono HO_587002.out (fun _ hk => ⟨hk.2, ⟨hk.1.1, hk.1.2⟩⟩)), (bk BK568), (bk BK577), (bk BK586), (bk BK601), GW601.out, GE601.out, NB568_601.out, NB601_568.out, NB577_601.out, NB601_577.out, NB586_601.out, NB601_586.out, (bl4 HB GE568 GE577 GE586 GE601)⟩)
    skip
    refine goes_ Try.func7 (by kernel_rfl) rfl #[.agg #[.int .i64 t569, .slice Ao16 t570.length co16, .slice Ao17 t573.length co17], .agg #[.int .i64 ((rd_T30 t564 x9_2).f0), .int .i64 ((rd_T30 t564 x9_2).f1), .int .i64 ((rd_T30 t564 x9_2).f2)]] (by rfl) rfl rfl (by (try simp only [List.map_toArray, List.map_cons, List.map_nil]); rfl) ?_
    with_reducible refine (impl_LiveTell.calls k2 t569 _ _ t570 _ _ t573 ((rd_T30 t564 x9_2).f0) ((rd_T30 t564 x9_2).f1) ((rd_T30 t564 x9_2).f2) t593 t594 t597 true _ ?side1 ?side2 ?side3 ?side4 A56.out).mono ?_
    (case side1 => repeat (exact (Kd.R_reads' HO_578001.out).2.2))
    (case side2 => exact (Kd.R_reads' HO_578001.out).2.1)
    (case side3 => repeat (exact (Kd.R_reads' HO_578002.out).2.2))
    (case side4 => exact (Kd.R_reads' HO_578002.out).2.1)
    rintro e w67 ⟨v595, v598, rfl, ho0, ho1, hb⟩
    have HS6_ := (hb.cell (World.block_lt_of_cell? _ _ (hHeld.2.2.2.2.2.2.1))).trans (hHeld.2.2.2.2.2.2.1)
    have HS7_ := (hb.cell (World.block_lt_of_cell? _ _ (hHeld.2.2.2.2.2.2.2.1))).trans (hHeld.2.2.2.2.2.2.2.1)
    have HS8_ := (hb.cell (World.block_lt_of_cell? _ _ (hHeld.2.2.2.2.2.2.2.2))).trans (hHeld.2.2.2.2.2.2.2.2)
    refine ⟨_, rfl, ?_⟩
    have HO596 := ak (Kd.R_lower (Kd.R_new' (Kd.R_new' (Kd.R_new' ho0 (Kd.R_lt (rk HO_569001))) (Kd.R_lt (rk HO_578001))) (Kd.R_lt (rk HO_587001))) (below_size (bl3 HB GE568 GE577 GE586)))
    replace HO_569001 := ak (Kd.R_elder' (rk HO_569001) (Kd.R_base ho0) hb)
    replace HO_578001 := ak (Kd.R_elder' (rk HO_578001) (Kd.R_base ho0) hb)
    replace HO_587001 := ak (Kd.R_elder' (rk HO_587001) (Kd.R_base ho0) hb)
    have HO599 := ak (Kd.R_lower (Kd.R_new' (Kd.R_new' (Kd.R_new' ho1 (Kd.R_lt (rk HO_569002))) (Kd.R_lt (rk HO_578002))) (Kd.R_lt (rk HO_587002))) (below_size (bl3 HB GE568 GE577 GE586)))
    replace HO_569002 := ak (Kd.R_elder' (rk HO_569002) (Kd.R_base ho1) hb)
    replace HO_578002 := ak (Kd.R_elder' (rk HO_578002) (Kd.R_base ho1) hb)
    replace HO_587002 := ak (Kd.R_elder' (rk HO_587002) (Kd.R_base ho1) hb)
    replace BK568 := ak (blk_below (bk BK568) hb)
    replace BK577 := ak (blk_below (bk BK577) hb)
    replace BK586 := ak (blk_below (bk BK586) hb)
    replace HB := ak (below_step (bl3 HB GE568 GE577 GE586) hb)
    (try clear hb)
    (try clear hb2)
    (try clear hk)
    (try clear hi)
    (try clear ho0)
    (try clear ho1)
    refine hK.out _ _ ⟨(blk_cell BK577.out 0).trans rfl, (blk_cell BK577.out 1).trans rfl, (blk_cell BK577.out 2).trans rfl, (blk_cell BK568.out 0).trans rfl, (blk_cell BK568.out 1).trans rfl, (blk_cell BK568.out 2).trans rfl, HS6_, HS7_, HS8_⟩ (fun hHeld => ?_)
    clear hK K
    refine norm_ (a' := ?_) ?_ ?_
    rotate_left
    ·show Act.put _ (some 76) _ = _
     simp only [SX]
     rfl
    refine pu 7 69 ?_ (ms 13 255) rfl rfl HT_ (by kernel_rfl) (fun _ _ _ h => h) (by rfl) ?_ ?_ ?_ ?_
    rotate_left
    ·intro w'
     go_simp
     with_reducible rfl
    rotate_left
    ·simp only [SX]
     rfl
    refine pu 8 77 ?_ (ms 13 511) rfl rfl HT_ (by kernel_rfl) (fun _ _ _ h => h) (by rfl) ?_ ?_ ?_ ?_
    rotate_left
    ·intro w'
     go_simp
     with_reducible rfl
    rotate_left
    ·simp only [SX]
     rfl
    refine pu 9 78 ?_ (ms 13 1023) rfl rfl HT_ (by kernel_rfl) (fun _ _ _ h => h) (by rfl) ?_ ?_ ?_ ?_
    rotate_left
    ·intro w'
     go_simp
     with_reducible rfl
    rotate_left
    ·simp only [SX]
     rfl
    refine one_ (i := 10) (N := some 10) (ms 13 2047) rfl rfl (one_of HT_.out (by kernel_rfl)) (by decide) (fun K hK => ?_)
    refine box_step ?hg (N := 10) ?hd (cs := #[.int .i64 0, .slice none 0 0, .slice none 0 0]) (t := 28) ?hr ?_; (case hd => rfl); (case hg => rfl); (case hr => (go_simp; done))
    intro gb601 hg w68 hbox hb
    have HS6_ := (hb.cell (World.block_lt_of_cell? _ _ (hHeld.2.2.2.2.2.2.1))).trans (hHeld.2.2.2.2.2.2.1)
    have HS7_ := (hb.cell (World.block_lt_of_cell? _ _ (hHeld.2.2.2.2.2.2.2.1))).trans (hHeld.2.2.2.2.2.2.2.1)
    have HS8_ := (hb.cell (World.block_lt_of_cell? _ _ (hHeld.2.2.2.2.2.2.2.2))).trans (hHeld.2.2.2.2.2.2.2.2)
    replace HO_569001 := ak (Kd.R_below (rk HO_569001) hb)
    replace HO_569002 := ak (Kd.R_below (rk HO_569002) hb)
    replace HO_578001 := ak (Kd.R_below (rk HO_578001) hb)
    replace HO_578002 := ak (Kd.R_below (rk HO_578002) hb)
    replace HO_587001 := ak (Kd.R_below (rk HO_587001) hb)
    replace HO_587002 := ak (Kd.R_below (rk HO_587002) hb)
    replace HO596 := ak (Kd.R_below (rk HO596) hb)
    replace HO599 := ak (Kd.R_below (rk HO599) hb)
    have BK601 := ak (hbox)
    have GW601 := ak ((by rw [hg]; exact (below_size (bl3 HB GE568 GE577 GE586)) : w.heap.size ≤ gb601))
    have GE601 := ak ((by rw [hg]; exact (below_size (bl3 HB GE568 GE577 GE586)) : w.heap.size ≤ gb601))
    replace HB := ak (below_step (bl3 HB GE568 GE577 GE586) hb)
    have NB568_601 := ak ((by rw [hg]; exact Nat.ne_of_lt (blk_lt (bk BK568)) : gb568 ≠ gb601))
    have NB601_568 := ak ((by rw [hg]; exact Nat.ne_of_gt (blk_lt (bk BK568)) : gb601 ≠ gb568))
    replace BK568 := ak (blk_below (bk BK568) hb)
    have NB577_601 := ak ((by rw [hg]; exact Nat.ne_of_lt (blk_lt (bk BK577)) : gb577 ≠ gb601))
    have NB601_577 := ak ((by rw [hg]; exact Nat.ne_of_gt (blk_lt (bk BK577)) : gb601 ≠ gb577))
    replace BK577 := ak (blk_below (bk BK577) hb)
    have NB586_601 := ak ((by rw [hg]; exact Nat.ne_of_lt (blk_lt (bk BK586)) : gb586 ≠ gb601))
    have NB601_586 := ak ((by rw [hg]; exact Nat.ne_of_gt (blk_lt (bk BK586)) : gb601 ≠ gb586))
    replace BK586 := ak (blk_below (bk BK586) hb)
    clear hb hbox hg
    refine hK.out _ _ ⟨(blk_cell BK577.out 0).trans rfl, (blk_cell BK577.out 1).trans rfl, (blk_cell BK577.out 2).trans rfl, (blk_cell BK568.out 0).trans rfl, (blk_cell BK568.out 1).trans rfl, (blk_cell BK568.out 2).trans rfl, HS6_, HS7_, HS8_⟩ (fun hHeld => ?_)
    clear hK K
    refine norm_ (a' := ?_) ?_ ?_
    rotate_left
    ·show Act.put _ (some 10) _ = _
     simp only [SX]
     rfl
    exact norm_ (by simp only [putAll, Act.put, List.setIfInBounds_toArray, List.set_cons_zero, List.set_cons_succ]) (hCont (v595, v598, gb601) _ ⟨hHeld, (by exact Kd.R_mono HO596.out (fun _ hk => ⟨hk.1.1.2, ⟨hk.1.2, hk.2⟩⟩)), (by exact Kd.R_mono HO599.out (fun _ hk => ⟨hk.1.1.2, ⟨hk.1.2, hk.2⟩⟩)), (by exact Kd.R_mono HO_569001.out (fun _ hk => ⟨hk.2, ⟨hk.1.1, hk.1.2⟩⟩)), (by exact Kd.R_mono HO_569002.out (fun _ hk => ⟨hk.2, ⟨hk.1.1, hk.1.2⟩⟩)), (by exact Kd.R_mono HO_578001.out (fun _ hk => ⟨hk.2, ⟨hk.1.1, hk.1.2⟩⟩)), (by exact Kd.R_mono HO_578002.out (fun _ hk => ⟨hk.2, ⟨hk.1.1, hk.1.2⟩⟩)), (by exact Kd.R_mono HO_587001.out (fun _ hk => ⟨hk.2, ⟨hk.1.1, hk.1.2⟩⟩)), (by exact Kd.R_mono HO_587002.out (fun _ hk => ⟨hk.2, ⟨hk.1.1, hk.1.2⟩⟩)), (bk BK568), (bk BK577), (bk BK586), (bk BK601), GW601.out, GE601.out, NB568_601.out, NB601_568.out, NB577_601.out, NB601_577.out, NB586_601.out, NB601_586.out, (bl4 HB GE568 GE577 GE586 GE601)⟩)
   rintro ⟨v595, v598, gb601⟩ w69 ⟨hS_, h0_, h1_, h2_, h3_, h4_, h5_, h6_, h7_, h8_, h9_, h10_, h11_, h12_, h13_, h14_, h15_, h16_, h17_, h18_, h19_, h20_⟩
   have HO596 : Aside0 (Kd.R k65 65 w69 w.heap.size (fun k_ => some k_ ≠ (.slice Ao10 t561.length co10 : Value).ownBlock ∧ some k_ ≠ (.slice Ao16 t570.length co16 : Value).ownBlock ∧ some k_ ≠ (.slice Ao24 t579.length co24 : Value).ownBlock) v595 t594) := ⟨h0_⟩
   have HO599 : Aside0 (Kd.R k30 30 w69 w.heap.size (fun k_ => some k_ ≠ (.slice (some ad591) t564.length co11 : Value).ownBlock ∧ some k_ ≠ (.slice Ao17 t573.length co17 : Value).ownBlock ∧ some k_ ≠ (.slice Ao25 t582.length co25 : Value).ownBlock) v598 t597) := ⟨h1_⟩
   replace HO_569001 : Aside0 (Kd.R k65 65 w69 w.heap.size (fun k_ => some k_ ≠ (v595 : Value).ownBlock ∧ some k_ ≠ (.slice Ao16 t570.length co16 : Value).ownBlock ∧ some k_ ≠ (.slice Ao24 t579.length co24 : Value).ownBlock) (.slice Ao10 t561.length co10) t561) := ⟨h2_⟩
   replace HO_569002 : Aside0 (Kd.R k30 30 w69 w.heap.size (fun k_ => some k_ ≠ (v598 : Value).ownBlock ∧ some k_ ≠ (.slice Ao17 t573.length co17 : Value).ownBlock ∧ some k_ ≠ (.slice Ao25 t582.length co25 : Value).ownBlock) (.slice (some ad591) t564.length co11) t564) := ⟨h3_⟩
   replace HO_578001 : Aside0 (Kd.R k65 65 w69 w.heap.size (fun k_ => some k_ ≠ (v595 : Value).ownBlock ∧ some k_ ≠ (.slice Ao10 t561.length co10 : Value).ownBlock ∧ some k_ ≠ (.slice Ao24 t579.length co24 : Value).ownBlock) (.slice Ao16 t570.length co16) t570) := ⟨h4_⟩
   replace HO_578002 : Aside0 (Kd.R k30 30 w69 w.heap.size (fun k_ => some k_ ≠ (v598 : Value).ownBlock ∧ some k_ ≠ (.slice (some ad591) t564.length co11 : Value).ownBlock ∧ some k_ ≠ (.slice Ao25 t582.length co25 : Value).ownBlock) (.slice Ao17 t573.length co17) t573) := ⟨h5_⟩
   replace HO_587001 : Aside0 (Kd.R k65 65 w69 w.heap.size (fun k_ => some k_ ≠ (v595 : Value).ownBlock ∧ some k_ ≠ (.slice Ao10 t561.length co10 : Value).ownBlock ∧ some k_ ≠ (.slice Ao16 t570.length co16 : Value).ownBlock) (.slice Ao24 t579.length co24) t579) := ⟨h6_⟩
   replace HO_587002 : Aside0 (Kd.R k30 30 w69 w.heap.size (fun k_ => some k_ ≠ (v598 : Value).ownBlock ∧ some k_ ≠ (.slice (some ad591) t564.length co11 : Value).ownBlock ∧ some k_ ≠ (.slice Ao17 t573.length co17 : Value).ownBlock) (.slice Ao25 t582.length co25) t582) := ⟨h7_⟩
   replace BK568 : Aside0 (w69.heap[gb568]? = some (.cells #[.int .i64 t560, .slice Ao10 t561.length co10, .slice (some ad591) t564.length co11] 28 (0, 0))) := ⟨h8_⟩
   replace BK577 : Aside0 (w69.heap[gb577]? = some (.cells #[.int .i64 t569, .slice Ao16 t570.length co16, .slice Ao17 t573.length co17] 28 (0, 0))) := ⟨h9_⟩
   replace BK586 : Aside0 (w69.heap[gb586]? = some (.cells #[.int .i64 t578, .slice Ao24 t579.length co24, .slice Ao25 t582.length co25] 28 (0, 0))) := ⟨h10_⟩
   have BK601 : Aside0 (w69.heap[gb601]? = some (.cells #[.int .i64 0, .slice none 0 0, .slice none 0 0] 28 (0, 0))) := ⟨h11_⟩
   have GW601 : Aside0 (w.heap.size ≤ gb601) := ⟨h12_⟩
   have GE601 : Aside0 (w.heap.size ≤ gb601) := ⟨h13_⟩
   have NB568_601 : Aside0 (gb568 ≠ gb601) := ⟨h14_⟩
   have NB601_568 : Aside0 (gb601 ≠ gb568) := ⟨h15_⟩
   have NB577_601 : Aside0 (gb577 ≠ gb601) := ⟨h16_⟩
   have NB601_577 : Aside0 (gb601 ≠ gb577) := ⟨h17_⟩
   have NB586_601 : Aside0 (gb586 ≠ gb601) := ⟨h18_⟩
   have NB601_586 : Aside0 (gb601 ≠ gb586) := ⟨h19_⟩
   replace HB : Aside0 (Below w.heap.size w w69) := ⟨h20_⟩
   clear h0_ h1_ h2_ h3_ h4_ h5_ h6_ h7_ h8_ h9_ h10_ h11_ h12_ h13_ h14_ h15_ h16_ h17_ h18_ h19_ h20_
   have hHeld : w69.cell? ⟨gb577, 0, none⟩ = some (.int .i64 t569) ∧ w69.cell? ⟨gb577, 1, none⟩ = some (.slice Ao16 t570.length co16) ∧ w69.cell? ⟨gb577, 2, none⟩ = some (.slice Ao17 t573.length co17) ∧ w69.cell? ⟨gb568, 0, none⟩ = some (.int .i64 t560) ∧ w69.cell? ⟨gb568, 1, none⟩ = some (.slice Ao10 t561.length co10) ∧ w69.cell? ⟨gb568, 2, none⟩ = some (.slice (some ad591) t564.length co11) ∧ w69.cell? (ad591.add ((x9_2).toNat * 3)) = some (.int .i64 ((rd_T30 t564 x9_2).f0)) ∧ w69.cell? ⟨(ad591.add ((x9_2).toNat * 3)).block, (ad591.add ((x9_2).toNat * 3)).off + 1, none⟩ = some (.int .i64 ((rd_T30 t564 x9_2).f1)) ∧ w69.cell? ⟨(ad591.add ((x9_2).toNat * 3)).block, (ad591.add ((x9_2).toNat * 3)).off + 2, none⟩ = some (.int .i64 ((rd_T30 t564 x9_2).f2)) := hS_
   obtain ⟨Ao71, co71, eo71⟩ := Kd.R_slice HO596.out
   (subst eo71)
   obtain ⟨Ao73, co73, eo73⟩ := Kd.R_slice HO599.out
   (subst eo73)
   refine norm_ (a' := ?_) ?_ ?_
   rotate_left
   ·simp only [putAll, Act.put, List.setIfInBounds_toArray, List.set_cons_zero, List.set_cons_succ]
    rfl
   refine one_ (i := 11) (N := none) (ms 13 4095) rfl rfl (one_of HT_.out (by kernel_rfl)) (by decide) (fun K hK => ?_)
   have hs70 : w69.cell? ⟨gb601, 0, none⟩ = some (.int .i64 0) := (blk_cell BK601.out 0).trans rfl
   have hfs70 := blk_frozen BK601.out 0
   have hns70_0 := NB568_601.out
   have hns70_1 := NB577_601.out
   have hns70_2 := NB586_601.out
   have hms70_0 := NB601_568.out
   have hms70_1 := NB601_577.out
   have hms70_2 := NB601_586.out
   have hs72 : w69.cell? ⟨gb601, 1, none⟩ = some (.slice none 0 0) := (blk_cell BK601.out 1).trans rfl
   have hfs72 := blk_frozen BK601.out 1
   have hns72_0 := NB568_601.out
   have hns72_1 := NB577_601.out
   have hns72_2 := NB586_601.out
   have hms72_0 := NB601_568.out
   have hms72_1 := NB601_577.out
   have hms72_2 := NB601_586.out
   have hs74 : w69.cell? ⟨gb601, 2, none⟩ = some (.slice none 0 0) := (blk_cell BK601.out 2).trans rfl
   have hfs74 := blk_frozen BK601.out 2
   have hns74_0 := NB568_601.out
   have hns74_1 := NB577_601.out
   have hns74_2 := NB586_601.out
   have hms74_0 := NB601_568.out
   have hms74_1 := NB601_577.out
   have hms74_2 := NB601_586.out
   refine skip_ (w1 := ?_) (by rfl) rfl ?_ ?_
   rotate_left
   ·go_simp
    rfl
   refine hK.out _ _ ⟨((cell_far (p := ⟨gb601, _, none⟩) NB577_601.out _).trans (((cell_far (p := ⟨gb601, _, none⟩) NB577_601.out _).trans (((cell_far (p := ⟨gb601, _, none⟩) NB577_601.out _).trans (hHeld.1)))))), ((cell_far (p := ⟨gb601, _, none⟩) NB577_601.out _).trans (((cell_far (p := ⟨gb601, _, none⟩) NB577_601.out _).trans (((cell_far (p := ⟨gb601, _, none⟩) NB577_601.out _).trans (hHeld.2.1)))))), ((cell_far (p := ⟨gb601, _, none⟩) NB577_601.out _).trans (((cell_far (p := ⟨gb601, _, none⟩) NB577_601.out _).trans (((cell_far (p := ⟨gb601, _, none⟩) NB577_601.out _).trans (hHeld.2.2.1)))))), ((cell_far (p := ⟨gb601, _, none⟩) NB568_601.out _).trans (((cell_far (p := ⟨gb601, _, none⟩) NB568_601.out _).trans (((cell_far (p := ⟨gb601, _, none⟩) NB568_601.out _).trans (hHeld.2.2.2.1)))))), ((cell_far (p := ⟨gb601, _, none⟩) NB568_601.out _).trans (((cell_far (p := ⟨gb601, _, none⟩) NB568_601.out _).trans (((cell_far (p := ⟨gb601, _, none⟩) NB568_601.out _).trans (hHeld.2.2.2.2.1)))))), ((cell_far (p := ⟨gb601, _, none⟩) NB568_601.out _).trans (((cell_far (p := ⟨gb601, _, none⟩) NB568_601.out _).trans (((cell_far (p := ⟨gb601, _, none⟩) NB568_601.out _).trans (hHeld.2.2.2.2.2.1)))))), ((cell_far (p := ⟨gb601, _, none⟩) (by (rw [add_block]; exact Kd.own_blk (Kd.R_ne HO_569002.out BK601.out (by decide)))) _).trans (((cell_far (p := ⟨gb601, _, none⟩) (by (rw [add_block]; exact Kd.own_blk (Kd.R_ne HO_569002.out BK601.out (by decide)))) _).trans (((cell_far (p := ⟨gb601, _, none⟩) (by (rw [add_block]; exact Kd.own_blk (Kd.R_ne HO_569002.out BK601.out (by decide)))) _).trans (hHeld.2.2.2.2.2.2.1)))))), ((cell_far (p := ⟨gb601, _, none⟩) (by (rw [add_block]; exact Kd.own_blk (Kd.R_ne HO_569002.out BK601.out (by decide)))) _).trans (((cell_far (p := ⟨gb601, _, none⟩) (by (rw [add_block]; exact Kd.own_blk (Kd.R_ne HO_569002.out BK601.out (by decide)))) _).trans (((cell_far (p := ⟨gb601, _, none⟩) (by (rw [add_block]; exact Kd.own_blk (Kd.R_ne HO_569002.out BK601.out (by decide)))) _).trans (hHeld.2.2.2.2.2.2.2.1)))))), ((cell_far (p := ⟨gb601, _, none⟩) (by (rw [add_block]; exact Kd.own_blk (Kd.R_ne HO_569002.out BK601.out (by decide)))) _).trans (((cell_far (p := ⟨gb601, _, none⟩) (by (rw [add_block]; exact Kd.own_blk (Kd.R_ne HO_569002.out BK601.out (by decide)))) _).trans (((cell_far (p := ⟨gb601, _, none⟩) (by (rw [add_block]; exact Kd.own_blk (Kd.R_ne HO_569002.out BK601.out (by decide)))) _).trans (hHeld.2.2.2.2.2.2.2.2))))))⟩ (fun hHeld => ?_)
   clear hK K
   refine pu 12 11 ?_ (ms 13 8191) rfl rfl HT_ (by kernel_rfl) (fun _ _ _ h => h) (by rfl) ?_ ?_ ?_ ?_
   rotate_left
   ·intro w'
    go_simp
    with_reducible rfl
   rotate_left
   ·simp only [SX]
    rfl
   refine done_ (done_of HT_.out (by kernel_rfl)) ?_
   have hnb75 := NB577_586.out
   have hnc75 := NB586_577.out
   have hnb76 := NB577_601.out
   have hnc76 := NB601_577.out
   have hcz77_0 := bc w69 BK577 0 (.int .i64 t569) rfl
   have hcz77_1 := bc w69 BK577 1 (.slice Ao16 t570.length co16) rfl
   have hcz77_2 := bc w69 BK577 2 (.slice Ao17 t573.length co17) rfl
   have hfz77_0 := fz BK577 0
   have hfz77_1 := fz BK577 1
   have hfz77_2 := fz BK577 2
   have hnb78 := NB568_601.out
   have hnc78 := NB601_568.out
   have hcz79_0 := bc w69 BK568 0 (.int .i64 t560) rfl
   have hcz79_1 := bc w69 BK568 1 (.slice Ao10 t561.length co10) rfl
   have hcz79_2 := bc w69 BK568 2 (.slice (some ad591) t564.length co11) rfl
   have hfz79_0 := fz BK568 0
   have hfz79_1 := fz BK568 1
   have hfz79_2 := fz BK568 2
   have hnb80 := NB601_586.out
   have hnc80 := NB586_601.out
   have hcz81_0 := bc w69 BK601 0 (.int .i64 0) rfl
   have hcz81_1 := bc w69 BK601 1 (.slice none 0 0) rfl
   have hcz81_2 := bc w69 BK601 2 (.slice none 0 0) rfl
   have hfz81_0 := fz BK601 0
   have hfz81_1 := fz BK601 1
   have hfz81_2 := fz BK601 2
   try go_wp2_with (first | (go_at_call 9; (with_reducible refine (laws_wkLive.calls k2 t593 _ _ t594 _ _ t597 t560 _ _ t561 _ _ t564 true _ ?side1 ?side2 ?side3 ?side4 ?side5 ?side6 ?side7 ?side8 A60.out).mono ?_); (case side1 => refine (Kd.R_reads' (e := 65) (base := w.heap.size) (ok := fun k_ => (some k_ ≠ (.slice Ao10 t561.length co10 : Value).ownBlock ∧ (some k_ ≠ (.slice Ao16 t570.length co16 : Value).ownBlock ∧ some k_ ≠ (.slice Ao24 t579.length co24 : Value).ownBlock))) (n := t594.length) (c := co71) ?_).2.2; exact (by exact (Kd.R_mono (Kd.R_far (p := ⟨gb601, 2, none⟩) (Kd.R_far (p := ⟨gb601, 1, none⟩) (Kd.R_far (p := ⟨gb601, 0, none⟩) (Kd.R_types HO596.out BK601.out (by decide)) (fun _ hk => hk.2) (.int .i64 t593)) (fun _ hk => hk.2) (.slice Ao71 t594.length co71)) (fun _ hk => hk.2) (.slice Ao73 t597.length co73)) (fun _ h_ => h_.1)))); (case side2 => exact (Kd.R_reads' HO596.out).2.1); (case side3 => refine (Kd.R_reads' (e := 30) (base := w.heap.size) (ok := fun k_ => (some k_ ≠ (.slice (some ad591) t564.length co11 : Value).ownBlock ∧ (some k_ ≠ (.slice Ao17 t573.length co17 : Value).ownBlock ∧ some k_ ≠ (.slice Ao25 t582.length co25 : Value).ownBlock))) (n := t597.length) (c := co73) ?_).2.2; exact (by exact (Kd.R_mono (Kd.R_far (p := ⟨gb601, 2, none⟩) (Kd.R_far (p := ⟨gb601, 1, none⟩) (Kd.R_far (p := ⟨gb601, 0, none⟩) (Kd.R_types HO599.out BK601.out (by decide)) (fun _ hk => hk.2) (.int .i64 t593)) (fun _ hk => hk.2) (.slice Ao71 t594.length co71)) (fun _ hk => hk.2) (.slice Ao73 t597.length co73)) (fun _ h_ => h_.1)))); (case side4 => exact (Kd.R_reads' HO599.out).2.1); (case side5 => refine (Kd.R_reads' (e := 65) (base := w.heap.size) (ok := fun k_ => (some k_ ≠ (.slice Ao71 t594.length co71 : Value).ownBlock ∧ (some k_ ≠ (.slice Ao16 t570.length co16 : Value).ownBlock ∧ some k_ ≠ (.slice Ao24 t579.length co24 : Value).ownBlock))) (n := t561.length) (c := co10) ?_).2.2; exact (by exact (Kd.R_mono (Kd.R_far (p := ⟨gb601, 2, none⟩) (Kd.R_far (p := ⟨gb601, 1, none⟩) (Kd.R_far (p := ⟨gb601, 0, none⟩) (Kd.R_types HO_569001.out BK601.out (by decide)) (fun _ hk => hk.2) (.int .i64 t593)) (fun _ hk => hk.2) (.slice Ao71 t594.length co71)) (fun _ hk => hk.2) (.slice Ao73 t597.length co73)) (fun _ h_ => h_.1)))); (case side6 => exact (Kd.R_reads' HO_569001.out).2.1); (case side7 => refine (Kd.R_reads' (e := 30) (base := w.heap.size) (ok := fun k_ => (some k_ ≠ (.slice Ao73 t597.length co73 : Value).ownBlock ∧ (some k_ ≠ (.slice Ao17 t573.length co17 : Value).ownBlock ∧ some k_ ≠ (.slice Ao25 t582.length co25 : Value).ownBlock))) (n := t564.length) (c := co11) ?_).2.2; exact (by exact (Kd.R_mono (Kd.R_far (p := ⟨gb601, 2, none⟩) (Kd.R_far (p := ⟨gb601, 1, none⟩) (Kd.R_far (p := ⟨gb601, 0, none⟩) (Kd.R_types HO_569002.out BK601.out (by decide)) (fun _ hk => hk.2) (.int .i64 t593)) (fun _ hk => hk.2) (.slice Ao71 t594.length co71)) (fun _ hk => hk.2) (.slice Ao73 t597.length co73)) (fun _ h_ => h_.1)))); (case side8 => exact (Kd.R_reads' HO_569002.out).2.1); rintro e w82 ⟨rfl, hb⟩; have n0_ := ak (Kd.R_below (by exact (Kd.R_mono (Kd.R_far (p := ⟨gb601, 2, none⟩) (Kd.R_far (p := ⟨gb601, 1, none⟩) (Kd.R_far (p := ⟨gb601, 0, none⟩) (Kd.R_types HO_569001.out BK601.out (by decide)) (fun _ hk => hk.2) (.int .i64 t593)) (fun _ hk => hk.2) (.slice Ao71 t594.length co71)) (fun _ hk => hk.2) (.slice Ao73 t597.length co73)) (fun _ h_ => h_.1))) hb); have n1_ := ak (Kd.R_below (by exact (Kd.R_mono (Kd.R_far (p := ⟨gb601, 2, none⟩) (Kd.R_far (p := ⟨gb601, 1, none⟩) (Kd.R_far (p := ⟨gb601, 0, none⟩) (Kd.R_types HO_569002.out BK601.out (by decide)) (fun _ hk => hk.2) (.int .i64 t593)) (fun _ hk => hk.2) (.slice Ao71 t594.length co71)) (fun _ hk => hk.2) (.slice Ao73 t597.length co73)) (fun _ h_ => h_.1))) hb); have n2_ := ak (Kd.R_below (by exact (Kd.R_mono (Kd.R_far (p := ⟨gb601, 2, none⟩) (Kd.R_far (p := ⟨gb601, 1, none⟩) (Kd.R_far (p := ⟨gb601, 0, none⟩) (Kd.R_types HO_578001.out BK601.out (by decide)) (fun _ hk => hk.2) (.int .i64 t593)) (fun _ hk => hk.2) (.slice Ao71 t594.length co71)) (fun _ hk => hk.2) (.slice Ao73 t597.length co73)) (fun _ h_ => h_.1))) hb); have n3_ := ak (Kd.R_below (by exact (Kd.R_mono (Kd.R_far (p := ⟨gb601, 2, none⟩) (Kd.R_far (p := ⟨gb601, 1, none⟩) (Kd.R_far (p := ⟨gb601, 0, none⟩) (Kd.R_types HO_578002.out BK601.out (by decide)) (fun _ hk => hk.2) (.int .i64 t593)) (fun _ hk => hk.2) (.slice Ao71 t594.length co71)) (fun _ hk => hk.2) (.slice Ao73 t597.length co73)) (fun _ h_ => h_.1))) hb); have n4_ := ak (Kd.R_below (by exact (Kd.R_mono (Kd.R_far (p := ⟨gb601, 2, none⟩) (Kd.R_far (p := ⟨gb601, 1, none⟩) (Kd.R_far (p := ⟨gb601, 0, none⟩) (Kd.R_types HO_587001.out BK601.out (by decide)) (fun _ hk => hk.2) (.int .i64 t593)) (fun _ hk => hk.2) (.slice Ao71 t594.length co71)) (fun _ hk => hk.2) (.slice Ao73 t597.length co73)) (fun _ h_ => h_.1))) hb); have n5_ := ak (Kd.R_below (by exact (Kd.R_mono (Kd.R_far (p := ⟨gb601, 2, none⟩) (Kd.R_far (p := ⟨gb601, 1, none⟩) (Kd.R_far (p := ⟨gb601, 0, none⟩) (Kd.R_types HO_587002.out BK601.out (by decide)) (fun _ hk => hk.2) (.int .i64 t593)) (fun _ hk => hk.2) (.slice Ao71 t594.length co71)) (fun _ hk => hk.2) (.slice Ao73 t597.length co73)) (fun _ h_ => h_.1))) hb); have n6_ := ak (Kd.R_below (by exact (Kd.R_mono (Kd.R_far (p := ⟨gb601, 2, none⟩) (Kd.R_far (p := ⟨gb601, 1, none⟩) (Kd.R_far (p := ⟨gb601, 0, none⟩) (Kd.R_types HO596.out BK601.out (by decide)) (fun _ hk => hk.2) (.int .i64 t593)) (fun _ hk => hk.2) (.slice Ao71 t594.length co71)) (fun _ hk => hk.2) (.slice Ao73 t597.length co73)) (fun _ h_ => h_.1))) hb); have n7_ := ak (Kd.R_below (by exact (Kd.R_mono (Kd.R_far (p := ⟨gb601, 2, none⟩) (Kd.R_far (p := ⟨gb601, 1, none⟩) (Kd.R_far (p := ⟨gb601, 0, none⟩) (Kd.R_types HO599.out BK601.out (by decide)) (fun _ hk => hk.2) (.int .i64 t593)) (fun _ hk => hk.2) (.slice Ao71 t594.length co71)) (fun _ hk => hk.2) (.slice Ao73 t597.length co73)) (fun _ h_ => h_.1))) hb); have n8_ := ak (blk_below (g := gb568) (o := .cells #[.int .i64 t560, .slice Ao10 t561.length co10, .slice (some ad591) t564.length co11] 28 (0, 0)) (by refine blk_far ?_ NB568_601.out _; refine blk_far ?_ NB568_601.out _; refine blk_far ?_ NB568_601.out _; exact BK568.out) hb); have n9_ := ak (blk_below (g := gb577) (o := .cells #[.int .i64 t569, .slice Ao16 t570.length co16, .slice Ao17 t573.length co17] 28 (0, 0)) (by refine blk_far ?_ NB577_601.out _; refine blk_far ?_ NB577_601.out _; refine blk_far ?_ NB577_601.out _; exact BK577.out) hb); have n10_ := ak (blk_below (g := gb586) (o := .cells #[.int .i64 t578, .slice Ao24 t579.length co24, .slice Ao25 t582.length co25] 28 (0, 0)) (by refine blk_far ?_ NB586_601.out _; refine blk_far ?_ NB586_601.out _; refine blk_far ?_ NB586_601.out _; exact BK586.out) hb); have n11_ := ak (blk_below (g := gb601) (o := .cells #[.int .i64 t593, .slice Ao71 t594.length co71, .slice Ao73 t597.length co73] 28 (0, 0)) (by refine blk_put (cs := #[.int .i64 t593, .slice Ao71 t594.length co71, .slice none 0 0]) ?_ 2 _ rfl; refine blk_put (cs := #[.int .i64 t593, .slice none 0 0, .slice none 0 0]) ?_ 1 _ rfl; refine blk_put (cs := #[.int .i64 0, .slice none 0 0, .slice none 0 0]) ?_ 0 _ rfl; exact BK601.out) hb); have n12_ := ak (below_step (bl4 HB GE568 GE577 GE586 GE601) hb); clear HO_569001; clear HO_569002; clear HO_578001; clear HO_578002; clear HO_587001; clear HO_587002; clear HO596; clear HO599; clear BK568; clear BK577; clear BK586; clear BK601; clear HB; have HO_569001 := n0_; have HO_569002 := n1_; have HO_578001 := n2_; have HO_578002 := n3_; have HO_587001 := n4_; have HO_587002 := n5_; have HO596 := n6_; have HO599 := n7_; have BK568 := n8_; have BK577 := n9_; have BK586 := n10_; have BK601 := n11_; have HB := n12_; clear n0_ n1_ n2_ n3_ n4_ n5_ n6_ n7_ n8_ n9_ n10_ n11_ n12_; (try clear hb); (try clear hb2); (try clear hk); (try clear hi); have hcz83_0 := bc w82 BK577 0 (.int .i64 t569) rfl; have hcz83_1 := bc w82 BK577 1 (.slice Ao16 t570.length co16) rfl; have hcz83_2 := bc w82 BK577 2 (.slice Ao17 t573.length co17) rfl; have hfz83_0 := fz BK577 0; have hfz83_1 := fz BK577 1; have hfz83_2 := fz BK577 2) | (go_at_call 10; (with_reducible refine (impl_LiveOk.calls k2 t569 _ _ t570 _ _ t573 t603 _ ?side1 ?side2 ?side3 ?side4 A62.out).mono ?_); (case side1 => repeat (exact (Kd.R_reads' HO_578001.out).2.2)); (case side2 => exact (Kd.R_reads' HO_578001.out).2.1); (case side3 => repeat (exact (Kd.R_reads' HO_578002.out).2.2)); (case side4 => exact (Kd.R_reads' HO_578002.out).2.1); rintro e w84 ⟨rfl, hb⟩; have n0_ := ak (Kd.R_below (rk HO_569001) hb); have n1_ := ak (Kd.R_below (rk HO_569002) hb); have n2_ := ak (Kd.R_below (rk HO_578001) hb); have n3_ := ak (Kd.R_below (rk HO_578002) hb); have n4_ := ak (Kd.R_below (rk HO_587001) hb); have n5_ := ak (Kd.R_below (rk HO_587002) hb); have n6_ := ak (Kd.R_below (rk HO596) hb); have n7_ := ak (Kd.R_below (rk HO599) hb); have n8_ := ak (blk_below (bk BK568) hb); have n9_ := ak (blk_below (bk BK577) hb); have n10_ := ak (blk_below (bk BK586) hb); have n11_ := ak (blk_below (bk BK601) hb); have n12_ := ak (below_step (bl4 HB GE568 GE577 GE586 GE601) hb); clear HO_569001; clear HO_569002; clear HO_578001; clear HO_578002; clear HO_587001; clear HO_587002; clear HO596; clear HO599; clear BK568; clear BK577; clear BK586; clear BK601; clear HB; have HO_569001 := n0_; have HO_569002 := n1_; have HO_578001 := n2_; have HO_578002 := n3_; have HO_587001 := n4_; have HO_587002 := n5_; have HO596 := n6_; have HO599 := n7_; have BK568 := n8_; have BK577 := n9_; have BK586 := n10_; have BK601 := n11_; have HB := n12_; clear n0_ n1_ n2_ n3_ n4_ n5_ n6_ n7_ n8_ n9_ n10_ n11_ n12_; (try clear hb); (try clear hb2); (try clear hk); (try clear hi)))
   go_ret
   exact ⟨by (simp [*, errW_none, errW_some] <;> rfl), bl4 HB GE568 GE577 GE586 GE601⟩

/-- THE ONE PURE STATEMENT of laws_FnLiveOver: yours. -/
def laws_FnLiveOver.Pure : Prop := ∀ (l0 : List Int), l0.length ≤ maxLen → l0.length * 1 ≤ 140737488351232 → (∀ x ∈ l0, (Lit.int .u8 x).wf = true) → ∃ k, laws_FnLiveOver.f k l0 = some true
theorem laws_FnLiveOver.walk (P : laws_FnLiveOver.Pure) (a0 : Option Addr) (len0 cap0 : Nat) (z0 : List Int) (w : World) (w0 : (a0 = none ∧ len0 = 0 ∧ cap0 = 0 ∧ z0 = []) ∨ ∃ x, a0 = some x ∧ len0 ≤ cap0 ∧ cap0 ≤ maxLen ∧ z0.length = cap0 ∧ (∀ i, i < z0.length → w.cell? (x.add i) = some (.int .u8 (z0.getD i 0))) ∧ ∀ n ∈ z0, (Lit.int .u8 n).wf = true) (y0 : len0 * 1 ≤ 140737488351232) :
  Calls Try.prog 5 #[.slice a0 len0 cap0] w fun e w' => e = .returned (.bool true) ∧ Below w.heap.size w w' := by
 obtain ⟨l0, rfl, hr0, hm0, hw0, hc0⟩ := ReadsInt.ofRowC w0
 obtain ⟨k, h⟩ := P l0 hm0 y0 hw0
 refine (laws_FnLiveOver.calls k _ _ l0 true w (Kd.C_of_reads (d := (0 : Int)) (h1 := fun _ => rfl) hr0) hc0 h rfl).mono ?_
 rintro e w' ⟨rfl, hd⟩
 exact ⟨rfl, hd⟩

end Go.Proofs.Ytbcedkcjodokkaa.F
