-- Printed by wip/px/px.py of this claim's repository (the kit's printer, extended there). Lean checks it.
import Derived.Test.YtgickejeakmenaaFKinds
import Derived.Test.YtgickejeakmenaaFwkNet
import Derived.Test.YtgickejeakmenaaFspecDrawSeenBest
import Derived.Test.YtgickejeakmenaaFimplSeenBest
import Derived.Test.YtgickejeakmenaaFspecSeenBest
namespace Go.Proofs.Ytgickejeakmenaa.F
open Go.RowKit Go.Proofs.YtgickejeakmenaaW.PrintWords Go.Proofs.YtgickejeakmenaaW.PrintLast Go.Proofs.YtgickejeakmenaaW.PrintMore
attribute [local go_sem] max2_int min2_int max_two min_two max_three min_three max_four min_four   -- for this text's walks alone
set_option linter.unusedVariables false
set_option linter.unusedSimpArgs false

/-! ### laws_FnSeenMore: function 9 -/
mutual
def laws_FnSeenMore.j0 : Nat → List (List Int) → List Int → Int → List Int → Int → Bool → Int → List (S41) → Option (Bool)
 | 0, _, _, _, _, _, _, _, _ => none
 | k + 1, x4, x5, x6, x7, x8, x46, x419000, x419001 => if x46 = true then (if x6 = x8 then ((laws_wkInts.f k x5 x7).bind fun t428 => (some t428)) else (some false)) else (if 1 ≤ (x4.length : Int) then ((impl_SeenBest.f k x419000 x419001 (x4.take 1)).bind fun bt433 => (laws_FnSeenMore.l0 k x4 x6 bt433.1 bt433.2 0 x419000 x419001)) else (none))
def laws_FnSeenMore.l0 : Nat → List (List Int) → Int → List Int → Int → Int → Int → List (S41) → Option (Bool)
 | 0, _, _, _, _, _, _, _ => none
 | k + 1, x4, x6, x9, x10, x11, x419000, x419001 => if x11 < x419000 then (if 0 < (x4.length : Int) then (if 0 ≤ x11 then (if x11 < ((rd_L3 x4 0).length : Int) then (if (rd (rd_L3 x4 0) x11) < x10 then (some false) else (if 0 < (x9.length : Int) then (if x11 < (rd x9 0) then (if (rd (rd_L3 x4 0) x11) = x10 then (some false) else (laws_FnSeenMore.l0 k x4 x6 x9 x10 (wrap64 (x11 + 1)) x419000 x419001)) else (laws_FnSeenMore.l0 k x4 x6 x9 x10 (wrap64 (x11 + 1)) x419000 x419001)) else (none))) else (none)) else (none)) else (none)) else (if 0 ≤ (wrap64 ((x4.length : Int) - 1)) then (if (wrap64 ((x4.length : Int) - 1)) ≤ (x4.length : Int) then ((impl_SeenBest.f k x419000 x419001 (x4.take ((wrap64 ((x4.length : Int) - 1)) : Int).toNat)).bind fun bt446 => (if 0 < (x4.length : Int) then (if 0 < (x9.length : Int) then (if 0 ≤ (rd x9 0) then (if (rd x9 0) < ((rd_L3 x4 0).length : Int) then (if (rd (rd_L3 x4 0) (rd x9 0)) = x10 then (if (x4.length : Int) = 1 then (some true) else (some (decide (bt446.2 ≤ x6)))) else (some false)) else (none)) else (none)) else (none)) else (none))) else (none)) else (none))
end
def laws_FnSeenMore.f (k : Nat) (l0 : List Int) : Option (Bool) := if (l0.length : Int) > 1048576 then (some true) else ((spec_DrawSeenBest.f k l0).bind fun bt411 => ((impl_SeenBest.f k bt411.1 bt411.2.1 bt411.2.2).bind fun bt419 => ((spec_SeenBest.f k bt411.1 bt411.2.1 bt411.2.2).bind fun bt423 => (if bt419.2 = bt423.2 then ((laws_wkInts.f k bt419.1 bt423.1).bind fun t427 => (if t427 = true then (laws_FnSeenMore.j0 k bt411.2.2 bt419.1 bt419.2 bt423.1 bt423.2 (decide (bt419.2 < 0)) bt411.1 bt411.2.1) else (laws_FnSeenMore.j0 k bt411.2.2 bt419.1 bt419.2 bt423.1 bt423.2 true bt411.1 bt411.2.1))) else (laws_FnSeenMore.j0 k bt411.2.2 bt419.1 bt419.2 bt423.1 bt423.2 true bt411.1 bt411.2.1)))))
theorem laws_FnSeenMore.mono_l : ∀ k, (∀ y0 y1 y2 y3 y4 y5 y6 y7, LeO (laws_FnSeenMore.j0 k y0 y1 y2 y3 y4 y5 y6 y7) (laws_FnSeenMore.j0 (k + 1) y0 y1 y2 y3 y4 y5 y6 y7)) ∧ (∀ y0 y1 y2 y3 y4 y5 y6, LeO (laws_FnSeenMore.l0 k y0 y1 y2 y3 y4 y5 y6) (laws_FnSeenMore.l0 (k + 1) y0 y1 y2 y3 y4 y5 y6))
 | 0 => ⟨fun _ _ _ _ _ _ _ _ r h => by simp [laws_FnSeenMore.j0] at h, fun _ _ _ _ _ _ _ r h => by simp [laws_FnSeenMore.l0] at h⟩
 | k + 1 => by
  obtain ⟨ih0, ih1⟩ := laws_FnSeenMore.mono_l k
  refine ⟨?_, ?_⟩
  ·intro y0 y1 y2 y3 y4 y5 y6 y7
   unfold laws_FnSeenMore.j0
   repeat' first | (with_reducible exact ih1 _ _ _ _ _ _ _) | (with_reducible exact impl_SeenBest.mono _ _ _ _) | (with_reducible exact laws_wkInts.mono _ _ _) | (with_reducible exact LeO.refl _) | (with_reducible refine LeO.ite ?_ ?_) | (with_reducible refine LeO.bind ?_ (fun _ => ?_))
  ·intro y0 y1 y2 y3 y4 y5 y6
   unfold laws_FnSeenMore.l0
   repeat' first | (with_reducible exact ih1 _ _ _ _ _ _ _) | (with_reducible exact impl_SeenBest.mono _ _ _ _) | (with_reducible exact LeO.refl _) | (with_reducible refine LeO.ite ?_ ?_) | (with_reducible refine LeO.bind ?_ (fun _ => ?_))
theorem laws_FnSeenMore.mono : ∀ a0 k, LeO (laws_FnSeenMore.f k a0) (laws_FnSeenMore.f (k + 1) a0) := by
 intro a0 k
 obtain ⟨ih0, ih1⟩ := laws_FnSeenMore.mono_l k
 unfold laws_FnSeenMore.f
 repeat' first | (with_reducible exact ih0 _ _ _ _ _ _ _ _) | (with_reducible exact impl_SeenBest.mono _ _ _ _) | (with_reducible exact laws_wkInts.mono _ _ _) | (with_reducible exact spec_DrawSeenBest.mono _ _) | (with_reducible exact spec_SeenBest.mono _ _ _ _) | (with_reducible exact LeO.refl _) | (with_reducible refine LeO.ite ?_ ?_) | (with_reducible refine LeO.bind ?_ (fun _ => ?_))
def laws_FnSeenMore.T8 : Bool × List (List Nat × List Nat) := (true, [([], []), ([], []), ([1], [1]), ([0, 2], [0, 2]), ([3], [3]), ([4], [4]), ([4], [4]), ([5, 3, 0, 1, 2, 3, 4, 5], [5]), ([6, 7, 0, 1, 2, 3, 4, 5, 6, 7], [6])])
def laws_FnSeenMore.B8 : List Nat := [0, 0, 2, 7, 15, 31, 31, 63, 255]
theorem laws_FnSeenMore.tab8 : rtab .any (opsOf Try.f9 8) = laws_FnSeenMore.T8 := by kernel_rfl
theorem laws_FnSeenMore.bits8 : waitsOk laws_FnSeenMore.T8.2 laws_FnSeenMore.B8 = true := by kernel_rfl
def laws_FnSeenMore.T14 : Bool × List (List Nat × List Nat) := (true, [([], []), ([], []), ([], []), ([2], [2]), ([3], [3]), ([1, 4], [1, 4]), ([0, 5], [0, 5]), ([6], [6]), ([7], [7]), ([7], [7]), ([8, 6, 0, 1, 2, 3, 4, 5, 6, 7, 8], [8]), ([9, 10, 0, 1, 2, 3, 4, 5, 6, 7, 8, 9, 10], [9])])
def laws_FnSeenMore.B14 : List Nat := [0, 0, 0, 4, 12, 30, 63, 127, 255, 255, 511, 2047]
theorem laws_FnSeenMore.tab14 : rtab .any (opsOf Try.f9 14) = laws_FnSeenMore.T14 := by kernel_rfl
theorem laws_FnSeenMore.bits14 : waitsOk laws_FnSeenMore.T14.2 laws_FnSeenMore.B14 = true := by kernel_rfl
def laws_FnSeenMore.T15 : Bool × List (List Nat × List Nat) := (true, [([], []), ([0], [0]), ([1], [1]), ([], []), ([3], [3]), ([4], [4]), ([2, 5], [2, 5]), ([6], [6]), ([], []), ([7, 8], [7, 8]), ([9], [9]), ([10], [10]), ([11, 10], [10, 11]), ([12, 10], [10, 12]), ([13, 10, 10], [10, 13]), ([14], [14]), ([14], [14]), ([15, 16, 14], [14, 15, 16]), ([14, 17, 10], [10, 14, 17]), ([10, 18], [10, 18]), ([19, 14, 0, 1, 2, 3, 4, 5, 6, 7, 8, 9, 10, 11, 12, 13, 14, 15, 16, 17, 18, 19], [19])])
def laws_FnSeenMore.B15 : List Nat := [0, 1, 3, 0, 8, 24, 63, 127, 0, 511, 1023, 2047, 4095, 8191, 16383, 32767, 32767, 131071, 262143, 524287, 1048575]
theorem laws_FnSeenMore.tab15 : rtab .any (opsOf Try.f9 15) = laws_FnSeenMore.T15 := by kernel_rfl
theorem laws_FnSeenMore.bits15 : waitsOk laws_FnSeenMore.T15.2 laws_FnSeenMore.B15 = true := by kernel_rfl
set_option maxHeartbeats 8000000 in
set_option maxRecDepth 100000 in
theorem laws_FnSeenMore.calls (k : Nat) (A0 : Option Addr) (c0 : Nat) (l0 : List Int) (r : Bool) (w : World) (hr0 : Kd.C (Kd.int .u8) w A0 l0.length l0) (hc0 : l0.length ≤ c0) (h : laws_FnSeenMore.f k l0 = some r) (hr_ : r = true) :
  Calls Try.prog 9 #[.slice A0 l0.length c0] w fun e w' => e = .returned (.bool r) ∧ Below w.heap.size w w' := by
 have hu25 := Try.underlying25
 have HR0 := ak hr0
 have HC0 := ak hc0
 clear hr0 hc0
 have HB := ak (Below.refl w.heap.size w)
 have H : (if (l0.length : Int) > 1048576 then (some true) else ((spec_DrawSeenBest.f k l0).bind fun bt411 => ((impl_SeenBest.f k bt411.1 bt411.2.1 bt411.2.2).bind fun bt419 => ((spec_SeenBest.f k bt411.1 bt411.2.1 bt411.2.2).bind fun bt423 => (if bt419.2 = bt423.2 then ((laws_wkInts.f k bt419.1 bt423.1).bind fun t427 => (if t427 = true then (laws_FnSeenMore.j0 k bt411.2.2 bt419.1 bt419.2 bt423.1 bt423.2 (decide (bt419.2 < 0)) bt411.1 bt411.2.1) else (laws_FnSeenMore.j0 k bt411.2.2 bt419.1 bt419.2 bt423.1 bt423.2 true bt411.1 bt411.2.1))) else (laws_FnSeenMore.j0 k bt411.2.2 bt419.1 bt419.2 bt423.1 bt423.2 true bt411.1 bt411.2.1)))))) = some r := h
 clear h
 by_cases c2 : (l0.length : Int) > 1048576
 ·rw [if_pos c2] at H
  have c2b0 : decide (1048576 < (l0.length : Int)) = true := decide_eq_true c2
  have c2b1 : decide (1048576 < l0.length) = true := decide_eq_true (by omega)
  clear c2
  obtain rfl := Option.some.inj H
  go_enter Try.func9, Try.ntmps9
  go_wp2
  go_ret
  exact ⟨by rfl, bl HB⟩
 rw [if_neg c2] at H
 have c2b0 : decide (1048576 < (l0.length : Int)) = false := decide_eq_false c2
 have c2b1 : decide (1048576 < l0.length) = false := decide_eq_false (by omega)
 clear c2
 replace H := Option.bind_eq_some_iff.mp H
 obtain ⟨⟨t411, t412, t415⟩, A30, H⟩ := H
 have A3 := ak A30
 clear A30
 replace H := Option.bind_eq_some_iff.mp H
 obtain ⟨⟨t419, t422⟩, A40, H⟩ := H
 have A4 := ak A40
 clear A40
 replace H := Option.bind_eq_some_iff.mp H
 obtain ⟨⟨t423, t426⟩, A50, H⟩ := H
 have A5 := ak A50
 clear A50
 have HC6 := ak H
 clear H
 go_enter Try.func9, Try.ntmps9
 go_upto_region 6 with (first | ((with_reducible refine gate_callee (f := 36) rfl ?_); refine goesL_ (some 19) rfl rfl Try.func36 (by kernel_rfl) rfl #[.slice A0 l0.length c0] rfl (by (try simp only [List.map_toArray, List.map_cons, List.map_nil]); rfl) ?_; (with_reducible refine (spec_DrawSeenBest.calls k _ _ l0 t411 t412 t415 _ ?side1 ?side2 A3.out).mono ?_); (case side1 => repeat (exact HR0.out)); (case side2 => exact HC0.out); rintro e w7 ⟨v413, v416, rfl, ho0, ho1, hb⟩; refine ⟨_, rfl, ?_⟩; have HO414 := ak (Kd.R_lower ho0 (below_size (bl HB))); have HO417 := ak (Kd.S_lower ho1 (below_size (bl HB))); replace HB := ak (below_step (bl HB) hb); (try clear hb); (try clear hb2); (try clear hk); (try clear hi); (try clear ho0); (try clear ho1)) | ((with_reducible refine gate_dst (N := 3) rfl ?_); refine box_event ?hg (N := 3) ?hd (cs := #[.int .i64 0, .slice none 0 0]) (t := 25) ?hr ?_; (case hd => rfl); (case hg => rfl); (case hr => (go_simp; done)); intro gb418 hg w8 hbox hb; replace HO414 := ak (Kd.R_below (rk HO414) hb); replace HO417 := ak (Kd.S_below (by exact HO417.out) hb); have BK418 := ak (hbox); have GW418 := ak ((by rw [hg]; exact (below_size (bl HB)) : w.heap.size ≤ gb418)); have GE418 := ak ((by rw [hg]; exact (below_size (bl HB)) : w.heap.size ≤ gb418)); replace HB := ak (below_step (bl HB) hb); clear hb hbox hg; have hcz9_0 := bc w8 BK418 0 (.int .i64 0) rfl; have hcz9_1 := bc w8 BK418 1 (.slice none 0 0) rfl; have hfz9_0 := fz BK418 0; have hfz9_1 := fz BK418 1; obtain ⟨Ao10, co10, eo10⟩ := Kd.R_slice HO414.out; subst eo10; obtain ⟨Ao11, co11, eo11⟩ := Kd.S_slice HO417.out; subst eo11) | ((with_reducible refine gate_callee (f := 37) rfl ?_); refine goesL_ (some 25) rfl rfl Try.func37 (by kernel_rfl) rfl #[.agg #[.int .i64 t411, .slice Ao10 t412.length co10], .slice Ao11 t415.length co11] rfl (by (try simp only [List.map_toArray, List.map_cons, List.map_nil]); rfl) ?_; (with_reducible refine (impl_SeenBest.calls k t411 _ _ t412 _ _ t415 t419 t422 _ ?side1 ?side2 ?side3 ?side4 A4.out).mono ?_); (case side1 => refine (Kd.R_reads' (e := 41) (base := w.heap.size) (ok := fun k_ => True) (n := t412.length) (c := co10) ?_).2.2; exact (by exact (Kd.R_mono (Kd.R_far (p := ⟨gb418, 1, none⟩) (Kd.R_far (p := ⟨gb418, 0, none⟩) (Kd.R_types HO414.out BK418.out (by decide)) (fun _ hk => hk.2) (.int .i64 t411)) (fun _ hk => hk.2) (.slice Ao10 t412.length co10)) (fun _ h_ => h_.1)))); (case side2 => exact (Kd.R_reads' HO414.out).2.1); (case side3 => refine (Kd.S_reads' (e := 26) (base := w.heap.size) (ok := fun k_ => True) (n := t415.length) (c := co11) ?_).2.2; exact (by exact (Kd.S_mono (Kd.S_far (p := ⟨gb418, 1, none⟩) (Kd.S_far (p := ⟨gb418, 0, none⟩) (Kd.S_types HO417.out BK418.out (by decide)) (fun _ hk => hk.2) (.int .i64 t411)) (fun _ hk => hk.2) (.slice Ao10 t412.length co10)) (fun _ h_ => h_.1)))); (case side4 => exact (Kd.S_reads' HO417.out).2.1); rintro e w12 ⟨v420, rfl, ho0, hb⟩; refine ⟨_, rfl, ?_⟩; replace HO414 := ak (Kd.R_below (by exact (Kd.R_mono (Kd.R_far (p := ⟨gb418, 1, none⟩) (Kd.R_far (p := ⟨gb418, 0, none⟩) (Kd.R_types HO414.out BK418.out (by decide)) (fun _ hk => hk.2) (.int .i64 t411)) (fun _ hk => hk.2) (.slice Ao10 t412.length co10)) (fun _ h_ => h_.1))) hb); replace HO417 := ak (Kd.S_elder' (by exact (Kd.S_mono (Kd.S_far (p := ⟨gb418, 1, none⟩) (Kd.S_far (p := ⟨gb418, 0, none⟩) (Kd.S_types HO417.out BK418.out (by decide)) (fun _ hk => hk.2) (.int .i64 t411)) (fun _ hk => hk.2) (.slice Ao10 t412.length co10)) (fun _ h_ => h_.1))) (Kd.R_base ho0) hb); have HO421 := ak (Kd.R_lower ho0 (below_size (bl1 HB GE418))); replace BK418 := ak (blk_below (g := gb418) (o := .cells #[.int .i64 t411, .slice Ao10 t412.length co10] 25 (0, 0)) (by refine blk_put (cs := #[.int .i64 t411, .slice none 0 0]) ?_ 1 _ rfl; refine blk_put (cs := #[.int .i64 0, .slice none 0 0]) ?_ 0 _ rfl; exact BK418.out) hb); replace HB := ak (below_step (bl1 HB GE418) hb); (try clear hb); (try clear hb2); (try clear hk); (try clear hi); (try clear ho0); have hcz13_0 := bc w12 BK418 0 (.int .i64 t411) rfl; have hcz13_1 := bc w12 BK418 1 (.slice Ao10 t412.length co10) rfl; have hfz13_0 := fz BK418 0; have hfz13_1 := fz BK418 1) | ((with_reducible refine gate_callee (f := 38) rfl ?_); refine goesL_ (some 31) rfl rfl Try.func38 (by kernel_rfl) rfl #[.agg #[.int .i64 t411, .slice Ao10 t412.length co10], .slice Ao11 t415.length co11] rfl (by (try simp only [List.map_toArray, List.map_cons, List.map_nil]); rfl) ?_; (with_reducible refine (spec_SeenBest.calls k t411 _ _ t412 _ _ t415 t423 t426 _ ?side1 ?side2 ?side3 ?side4 A5.out).mono ?_); (case side1 => repeat (exact (Kd.R_reads' HO414.out).2.2)); (case side2 => exact (Kd.R_reads' HO414.out).2.1); (case side3 => repeat (exact (Kd.S_reads' HO417.out).2.2)); (case side4 => exact (Kd.S_reads' HO417.out).2.1); rintro e w14 ⟨v424, rfl, ho0, hb⟩; refine ⟨_, rfl, ?_⟩; replace HO414 := ak (Kd.R_below (rk HO414) hb); replace HO417 := ak (Kd.S_elder' (by exact HO417.out) (Kd.R_base ho0) hb); have HO425 := ak (Kd.R_lower (Kd.R_new' ho0 (Kd.R_lt (rk HO421))) (below_size (bl1 HB GE418))); replace HO421 := ak (Kd.R_elder' (rk HO421) (Kd.R_base ho0) hb); replace BK418 := ak (blk_below (bk BK418) hb); replace HB := ak (below_step (bl1 HB GE418) hb); (try clear hb); (try clear hb2); (try clear hk); (try clear hi); (try clear ho0)))
 (try simp only [Act.put, List.setIfInBounds_toArray, List.set_cons_zero, List.set_cons_succ])
 go_cut [46] (fun v46 wc => ∃ (kq : Nat) (x46_5 : Bool), v46 = .bool x46_5 ∧ Aside0 (laws_FnSeenMore.j0 kq t415 t419 t422 t423 t426 x46_5 t411 t412 = some r) ∧ Aside0 (kq ≤ k) ∧ Aside0 (Kd.S (Kd.slice 3 (Kd.int .i64)) 26 wc w.heap.size (fun k_ => some k_ ≠ (v420 : Value).ownBlock ∧ some k_ ≠ (v424 : Value).ownBlock) (.slice Ao11 t415.length co11) t415) ∧ Aside0 (Kd.R (Kd.int .i64) 3 wc w.heap.size (fun k_ => some k_ ≠ (v424 : Value).ownBlock) v420 t419) ∧ Aside0 (Kd.R (Kd.int .i64) 3 wc w.heap.size (fun k_ => some k_ ≠ (v420 : Value).ownBlock) v424 t423) ∧ Aside0 (Kd.R k41 41 wc w.heap.size (fun _ => True) (.slice Ao10 t412.length co10) t412) ∧ Aside0 (wc.heap[gb418]? = some (.cells #[.int .i64 t411, (.slice Ao10 t412.length co10)] 25 (0, 0))) ∧ Aside0 (Below w.heap.size w wc))
 case first =>
  have H := HC6.out
  clear HC6
  by_cases c15 : t422 = t426
  rotate_left
  ·rw [if_neg c15] at H
   have c15b0 : (t422 == t426) = false := beq_eq_false_iff_ne.mpr c15
   have c15b1 : (t422 != t426) = true := bne_iff_ne.mpr c15
   (skip)
   have H' := ak H
   clear H
   go_wp2
   go_meet
   case rel => exact ⟨_, (true), (by rfl), H', ⟨by omega⟩, ⟨by exact Kd.S_mono HO417.out (fun _ hk => ⟨hk.1.2, hk.2⟩)⟩, ⟨by exact Kd.R_mono HO421.out (fun _ hk => hk.2)⟩, ⟨by exact Kd.R_mono HO425.out (fun _ hk => hk.2)⟩, ⟨rk HO414⟩, ⟨bk BK418⟩, ⟨bl1 HB GE418⟩⟩
  rw [if_pos c15] at H
  have c15b0 : (t422 == t426) = true := beq_iff_eq.mpr c15
  have c15b1 : (t422 != t426) = false := bne_eq_false_iff_eq.mpr c15
  clear c15
  (skip)
  replace H := Option.bind_eq_some_iff.mp H
  obtain ⟨t427, A160, H⟩ := H
  have A16 := ak A160
  clear A160
  by_cases c17 : t427 = true
  ·subst c17
   rw [if_pos rfl] at H
   have H' := ak H
   clear H
   obtain ⟨Ao18, co18, eo18⟩ := Kd.R_slice HO421.out
   subst eo18
   obtain ⟨Ao19, co19, eo19⟩ := Kd.R_slice HO425.out
   subst eo19
   go_wp2_with ((go_at_call 21; (with_reducible refine (laws_wkInts.calls k _ _ t419 _ _ t423 true _ ?side1 ?side2 ?side3 ?side4 A16.out).mono ?_); (case side1 => repeat (exact (Kd.R_reads' HO421.out).2.2)); (case side2 => exact (Kd.R_reads' HO421.out).2.1); (case side3 => repeat (exact (Kd.R_reads' HO425.out).2.2)); (case side4 => exact (Kd.R_reads' HO425.out).2.1); rintro e w' ⟨rfl, ⟨nd, rfl⟩⟩))
   go_meet
   case rel => exact ⟨_, (decide (t422 < 0)), (by rfl), H', ⟨by omega⟩, ⟨by (with_reducible repeat (apply Kd.S_drewN)); exact Kd.S_mono HO417.out (fun _ hk => ⟨hk.1.2, hk.2⟩)⟩, ⟨by (with_reducible repeat (apply Kd.R_drewN)); exact Kd.R_mono HO421.out (fun _ hk => hk.2)⟩, ⟨by (with_reducible repeat (apply Kd.R_drewN)); exact Kd.R_mono HO425.out (fun _ hk => hk.2)⟩, ⟨rk HO414⟩, ⟨bk BK418⟩, ⟨bl1 HB GE418⟩⟩
  replace c17 := Bool.eq_false_iff.mpr c17
  subst c17
  rw [if_neg (show ¬ (false = true) by decide)] at H
  have H' := ak H
  clear H
  obtain ⟨Ao20, co20, eo20⟩ := Kd.R_slice HO421.out
  subst eo20
  obtain ⟨Ao21, co21, eo21⟩ := Kd.R_slice HO425.out
  subst eo21
  go_wp2_with ((go_at_call 21; (with_reducible refine (laws_wkInts.calls k _ _ t419 _ _ t423 false _ ?side1 ?side2 ?side3 ?side4 A16.out).mono ?_); (case side1 => repeat (exact (Kd.R_reads' HO421.out).2.2)); (case side2 => exact (Kd.R_reads' HO421.out).2.1); (case side3 => repeat (exact (Kd.R_reads' HO425.out).2.2)); (case side4 => exact (Kd.R_reads' HO425.out).2.1); rintro e w' ⟨rfl, ⟨nd, rfl⟩⟩))
  go_meet
  case rel => exact ⟨_, (true), (by rfl), H', ⟨by omega⟩, ⟨by (with_reducible repeat (apply Kd.S_drewN)); exact Kd.S_mono HO417.out (fun _ hk => ⟨hk.1.2, hk.2⟩)⟩, ⟨by (with_reducible repeat (apply Kd.R_drewN)); exact Kd.R_mono HO421.out (fun _ hk => hk.2)⟩, ⟨by (with_reducible repeat (apply Kd.R_drewN)); exact Kd.R_mono HO425.out (fun _ hk => hk.2)⟩, ⟨rk HO414⟩, ⟨bk BK418⟩, ⟨bl1 HB GE418⟩⟩
 clear HC6
 try clear c1
 try clear c2
 try clear c2b0
 try clear c2b1
 try clear p2
 try clear c3
 try clear c9
 try clear c15
 try clear c15b0
 try clear c15b1
 try clear c17
 try clear hcz13_0
 try clear hcz13_1
 try clear hcz9_0
 try clear hcz9_1
 try clear hfz13_0
 try clear hfz13_1
 try clear hfz9_0
 try clear hfz9_1
 obtain ⟨kq, x46_5, rfl, HA, HJ5, HO_4, HO_5, HO_7, HO_419001, BK418, HB⟩ := hcut
 cases kq with
 | zero => exact absurd HA.out (by simp [laws_FnSeenMore.j0])
 | succ kj5 =>
  have H := HA.out
  clear HA
  simp only [laws_FnSeenMore.j0] at H
  by_cases c22 : x46_5 = true
  ·subst c22
   rw [if_pos rfl] at H
   by_cases c23 : t422 = t426
   rotate_left
   ·rw [if_neg c23] at H
    have c23b0 : (t422 == t426) = false := beq_eq_false_iff_ne.mpr c23
    have c23b1 : (t422 != t426) = true := bne_iff_ne.mpr c23
    exact absurd ((Option.some.inj H).trans hr_) Bool.false_ne_true
   rw [if_pos c23] at H
   have c23b0 : (t422 == t426) = true := beq_iff_eq.mpr c23
   have c23b1 : (t422 != t426) = false := bne_eq_false_iff_eq.mpr c23
   clear c23
   replace H := Option.bind_eq_some_iff.mp H
   obtain ⟨t428, A240, H⟩ := H
   have A24 := ak A240
   clear A240
   obtain rfl := Option.some.inj H
   obtain ⟨Ao25, co25, eo25⟩ := Kd.R_slice HO_5.out
   subst eo25
   obtain ⟨Ao26, co26, eo26⟩ := Kd.R_slice HO_7.out
   subst eo26
   go_wp2_with ((go_at_call 21; (with_reducible refine (laws_wkInts.calls kj5 _ _ t419 _ _ t423 t428 _ ?side1 ?side2 ?side3 ?side4 A24.out).mono ?_); (case side1 => repeat (exact (Kd.R_reads' HO_5.out).2.2)); (case side2 => exact (Kd.R_reads' HO_5.out).2.1); (case side3 => repeat (exact (Kd.R_reads' HO_7.out).2.2)); (case side4 => exact (Kd.R_reads' HO_7.out).2.1); rintro e w' ⟨rfl, ⟨nd, rfl⟩⟩))
   go_ret
   exact ⟨by (simp [*, errW_none, errW_some] <;> rfl), bl1 HB GE418⟩
  replace c22 := Bool.eq_false_iff.mpr c22
  subst c22
  rw [if_neg (show ¬ (false = true) by decide)] at H
  by_cases c27 : 1 ≤ (t415.length : Int)
  rotate_left
  ·rw [if_neg c27] at H
   exact absurd H (by simp)
  rw [if_pos c27] at H
  have c27b0 := eq_true c27
  have c27b1 : decide (1 ≤ (t415.length : Int)) = true := decide_eq_true c27
  clear c27
  obtain ⟨y429, hy429⟩ : ∃ y_ : List (List Int), y_ = (t415.take 1) := ⟨_, rfl⟩
  replace H : ((impl_SeenBest.f kj5 t411 t412 y429).bind fun bt433 => (laws_FnSeenMore.l0 kj5 t415 t422 bt433.1 bt433.2 0 t411 t412)) = some r := by (rw [hy429]; with_reducible exact H)
  have Ny429 := ak hy429
  clear hy429
  replace H := Option.bind_eq_some_iff.mp H
  obtain ⟨⟨t433, t436⟩, A280, H⟩ := H
  have A28 := ak A280
  clear A280
  have H' := ak H
  clear H
  try go_wp2
  replace HO_4 := ak (Kd.S_drew HO_4.out)
  replace HO_5 := ak (Kd.R_drew HO_5.out)
  replace HO_7 := ak (Kd.R_drew HO_7.out)
  replace HO_419001 := ak (Kd.R_drew HO_419001.out)
  replace BK418 := ak (blk_drew BK418.out)
  replace HB := ak (below_drew1 HB.out)
  have q30 : (1 : Int) ≤ ((t415.length : Int) : Int) := oT (by (with_reducible assumption))
  obtain ⟨i030, hi030, _, hsz30, _⟩ := info_parts info26
  have hroom30 : t415.length ≤ co11 := (Kd.S_reads' HO_4.out).2.1
  have hC30 : Kd.C (Kd.slice 3 (Kd.int .i64)) _ Ao11 t415.length t415 := (Kd.S_reads' HO_4.out).2.2
  have hcut30 := cut_to (P := Try.prog) 50 26 .i64 Try.underlying50 hi030 Ao11 t415.length co11 1 (by omega) q30 hroom30
  have hr30 := Kd.C_take (m := 1) hC30 (by omega)
  have hy30 : y429.length = (1 : Int).toNat := (by rw [Ny429.out, List.length_take]; omega)
  rw [← Ny429.out] at hr30
  rw [← hy30] at hcut30
  have HR432 := ak hr30
  have HC432 := ak (show y429.length ≤ co11 from by omega)
  clear hr30 hC30 hroom30 hi030 hsz30
  have KY30 := ak hy30
  clear hy30
  have KL30 := ak (show 1 ≤ t415.length from by omega)
  replace q30 := eq_true q30
  refine start_ (n := 9) (S := fun w' => w'.cell? ⟨gb418, 0, none⟩ = some (.int .i64 t411) ∧ w'.cell? ⟨gb418, 1, none⟩ = some (.slice Ao10 t412.length co10)) (ds := []) (ms 9 0) (by kernel_rfl) rfl (by kernel_rfl) ⟨(blk_cell BK418.out 0).trans rfl, (blk_cell BK418.out 1).trans rfl⟩ (fun hHeld => ?_); refine with_tabW laws_FnSeenMore.tab8 laws_FnSeenMore.bits8 (fun HT_ HW_ => ?_)
  generalize wc.drew = w29 at HO_4 HO_5 HO_7 HO_419001 BK418 HB HR432 hHeld ⊢
  refine pu 1 57 ?_ (ms 9 2) rfl rfl HT_ (by kernel_rfl) (fun _ _ _ h => h) (by rfl) ?_ ?_ ?_ ?_
  rotate_left
  ·intro w'
   go_simp
   with_reducible rfl
  rotate_left
  ·simp only [SX]
   rfl
  refine pu 2 58 ?_ (ms 9 6) rfl rfl HT_ (by kernel_rfl) (fun _ _ _ h => h) (by rfl) ?_ ?_ ?_ ?_
  rotate_left
  ·intro w'
   go_simp
   with_reducible rfl
  rotate_left
  ·simp only [SX]
   rfl
  refine tk 0 56 ?_ (ms 9 7) rfl rfl HT_ HW_ (by kernel_rfl) (fun _ _ _ h => h) (by rfl) ?_ hHeld ?_ ?_ ?_
  rotate_left
  ·rintro w' ⟨s0, s1⟩
   go_simp
   with_reducible rfl
  rotate_left
  ·simp only [SX]
   rfl
  refine one_ (i := 3) (N := some 59) (ms 9 15) rfl rfl (one_of HT_.out (by kernel_rfl)) (by decide) (fun K hK => ?_)
  refine goes_ Try.func37 (by kernel_rfl) rfl #[.agg #[.int .i64 t411, .slice Ao10 t412.length co10], .slice Ao11 y429.length co11] (by rfl) rfl rfl (by (try simp only [List.map_toArray, List.map_cons, List.map_nil]); rfl) ?_
  with_reducible refine (impl_SeenBest.calls kj5 t411 _ _ t412 _ _ y429 t433 t436 _ ?side1 ?side2 ?side3 ?side4 A28.out).mono ?_
  (case side1 => repeat (exact (Kd.R_reads' HO_419001.out).2.2))
  (case side2 => exact (Kd.R_reads' HO_419001.out).2.1)
  (case side3 => repeat (exact (by repeat ((with_reducible exact HR432.out)))))
  (case side4 => exact HC432.out)
  rintro e w31 ⟨v434, rfl, ho0, hb⟩
  refine ⟨_, rfl, ?_⟩
  replace HO_4 := ak (Kd.S_elder' (by exact HO_4.out) (Kd.R_base ho0) hb)
  replace HO_419001 := ak (Kd.R_below (rk HO_419001) hb)
  have HO435 := ak (Kd.R_lower (Kd.R_new' (Kd.R_new' ho0 (Kd.R_lt (rk HO_5))) (Kd.R_lt (rk HO_7))) (below_size (bl1 HB GE418)))
  replace HO_5 := ak (Kd.R_elder' (rk HO_5) (Kd.R_base ho0) hb)
  replace HO_7 := ak (Kd.R_elder' (rk HO_7) (Kd.R_base ho0) hb)
  replace BK418 := ak (blk_below (bk BK418) hb)
  replace HR432 := ak (Kd.C_below (by repeat ((with_reducible exact HR432.out))) hb)
  replace HB := ak (below_step (bl1 HB GE418) hb)
  (try clear hb)
  (try clear hb2)
  (try clear hk)
  (try clear hi)
  (try clear ho0)
  refine hK.out _ _ ⟨(blk_cell BK418.out 0).trans rfl, (blk_cell BK418.out 1).trans rfl⟩ (fun hHeld => ?_)
  clear hK K
  refine norm_ (a' := ?_) ?_ ?_
  rotate_left
  ·show Act.put _ (some 59) _ = _
   simp only [SX]
   rfl
  refine pu 4 55 ?_ (ms 9 31) rfl rfl HT_ (by kernel_rfl) (fun _ _ _ h => h) (by rfl) ?_ ?_ ?_ ?_
  rotate_left
  ·intro w'
   go_simp
   with_reducible rfl
  rotate_left
  ·simp only [SX]
   rfl
  refine pu 5 60 ?_ (ms 9 63) rfl rfl HT_ (by kernel_rfl) (fun _ _ _ h => h) (by rfl) ?_ ?_ ?_ ?_
  rotate_left
  ·intro w'
   go_simp
   with_reducible rfl
  rotate_left
  ·simp only [SX]
   rfl
  refine pu 6 61 ?_ (ms 9 127) rfl rfl HT_ (by kernel_rfl) (fun _ _ _ h => h) (by rfl) ?_ ?_ ?_ ?_
  rotate_left
  ·intro w'
   go_simp
   with_reducible rfl
  rotate_left
  ·simp only [SX]
   rfl
  refine pu 7 9 ?_ (ms 9 255) rfl rfl HT_ (by kernel_rfl) (fun _ _ _ h => h) (by rfl) ?_ ?_ ?_ ?_
  rotate_left
  ·intro w'
   go_simp
   with_reducible rfl
  rotate_left
  ·simp only [SX]
   rfl
  refine pu 8 10 ?_ (ms 9 511) rfl rfl HT_ (by kernel_rfl) (fun _ _ _ h => h) (by rfl) ?_ ?_ ?_ ?_
  rotate_left
  ·intro w'
   go_simp
   with_reducible rfl
  rotate_left
  ·simp only [SX]
   rfl
  refine done_ (done_of HT_.out (by kernel_rfl)) ?_
  try go_wp2
  go_loopg [11] kj5 (fun kq v11 w' => ∃ (x11_2 : Int), v11 = .int .i64 x11_2 ∧ Aside0 (laws_FnSeenMore.l0 kq t415 t422 t433 t436 x11_2 t411 t412 = some r) ∧ Aside0 (kq ≤ kj5) ∧ Aside0 (Kd.S (Kd.slice 3 (Kd.int .i64)) 26 w' w.heap.size (fun k_ => some k_ ≠ (v434 : Value).ownBlock) (.slice Ao11 t415.length co11) t415) ∧ Aside0 (Kd.R (Kd.int .i64) 3 w' w.heap.size (fun _ => True) v434 t433) ∧ Aside0 (Kd.R k41 41 w' w.heap.size (fun _ => True) (.slice Ao10 t412.length co10) t412) ∧ Aside0 (w'.heap[gb418]? = some (.cells #[.int .i64 t411, (.slice Ao10 t412.length co10)] 25 (0, 0))) ∧ Aside0 (Kd.C (Kd.slice 3 (Kd.int .i64)) w' Ao11 y429.length y429) ∧ Aside0 (Below w.heap.size w w'))
  case atStart => exact ⟨(0), (by rfl), H', ⟨Nat.le_refl _⟩, ⟨by exact Kd.S_mono HO_4.out (fun _ hk => hk.2)⟩, ⟨by exact Kd.R_mono HO435.out (fun _ hk => trivial)⟩, ⟨rk HO_419001⟩, ⟨bk BK418⟩, ⟨by repeat ((with_reducible exact HR432.out))⟩, ⟨bl1 HB GE418⟩⟩
  clear H'
  try clear c1
  try clear c2
  try clear c2b0
  try clear c2b1
  try clear p2
  try clear c3
  try clear q3
  try clear c9
  try clear c15
  try clear c15b0
  try clear c15b1
  try clear c17
  try clear c22
  try clear c23
  try clear c23b0
  try clear c23b1
  try clear c27
  try clear c27b0
  try clear c27b1
  try clear q30
  try clear hcz13_0
  try clear hcz13_1
  try clear hcz9_0
  try clear hcz9_1
  try clear hfz13_0
  try clear hfz13_1
  try clear hfz9_0
  try clear hfz9_1
  try clear p2
  try clear q30
  obtain ⟨x11_2, rfl, HA, HK2, HO_4, HO_9, HO_419001, BK418, HR432, HB⟩ := hrel
  cases gk with
  | zero => exact absurd HA.out (by simp [laws_FnSeenMore.l0])
  | succ k2 =>
   have H := HA.out
   clear HA
   simp only [laws_FnSeenMore.l0] at H
   by_cases c32 : x11_2 < t411
   ·rw [if_pos c32] at H
    have c32b0 : decide (x11_2 < t411) = true := decide_eq_true c32
    clear c32
    by_cases c33 : 0 < (t415.length : Int)
    rotate_left
    ·rw [if_neg c33] at H
     exact absurd H (by simp)
    rw [if_pos c33] at H
    have c33b0 : decide (0 < (t415.length : Int)) = true := decide_eq_true c33
    have c33b1 : decide (0 < t415.length) = true := decide_eq_true (by omega)
    clear c33
    by_cases c34 : 0 ≤ x11_2
    rotate_left
    ·rw [if_neg c34] at H
     exact absurd H (by simp)
    rw [if_pos c34] at H
    have c34b0 : decide (0 ≤ x11_2) = true := decide_eq_true c34
    clear c34
    by_cases c35 : x11_2 < ((rd_L3 t415 0).length : Int)
    rotate_left
    ·rw [if_neg c35] at H
     exact absurd H (by simp)
    rw [if_pos c35] at H
    have c35b0 : decide (x11_2 < ((rd_L3 t415 0).length : Int)) = true := decide_eq_true c35
    clear c35
    by_cases c36 : (rd (rd_L3 t415 0) x11_2) < t436
    ·rw [if_pos c36] at H
     have c36b0 : decide ((rd (rd_L3 t415 0) x11_2) < t436) = true := decide_eq_true c36
     clear c36
     exact absurd ((Option.some.inj H).trans hr_) Bool.false_ne_true
    rw [if_neg c36] at H
    have c36b0 : decide ((rd (rd_L3 t415 0) x11_2) < t436) = false := decide_eq_false c36
    clear c36
    by_cases c37 : 0 < (t433.length : Int)
    rotate_left
    ·rw [if_neg c37] at H
     exact absurd H (by simp)
    rw [if_pos c37] at H
    have c37b0 : decide (0 < (t433.length : Int)) = true := decide_eq_true c37
    have c37b1 : decide (0 < t433.length) = true := decide_eq_true (by omega)
    clear c37
    by_cases c38 : x11_2 < (rd t433 0)
    rotate_left
    ·rw [if_neg c38] at H
     have c38b0 : decide (x11_2 < (rd t433 0)) = false := decide_eq_false c38
     clear c38
     have H' := ak H
     clear H
     have hcz42_0 := bc wr BK418 0 (.int .i64 t411) rfl
     have hcz42_1 := bc wr BK418 1 (.slice Ao10 t412.length co10) rfl
     have hfz42_0 := fz BK418 0
     have hfz42_1 := fz BK418 1
     have p437 : 0 ≤ (0 : Int) := (by omega)
     have q437 : 0 < (t415.length : Int) := oT (by (with_reducible assumption))
     obtain ⟨ad437, A437_0, c437_0, e437, hx437_0, hl437_0, hi437_0⟩ := at_L3 (Kd.S_reads' HO_4.out).2.2 0 p437 q437
     cases e437
     obtain ⟨ce437, hce437, hMe437, hcc437⟩ := Kd.S_get HO_4.out [] 0 p437 (by exact q437)
     obtain ⟨ve437_0, rfl, ge437_0⟩ := hMe437
     have hv437_0 := hcc437 0 _ rfl
     rw [Nat.add_zero, show ((Kd.slice 3 (Kd.int .i64))).sz = 1 from rfl, Nat.mul_one] at hv437_0
     replace hv437_0 := Option.some.inj (hv437_0.symm.trans hx437_0)
     rw [hv437_0] at ge437_0
     have HL437_0 := ak (show Kd.R (Kd.int .i64) 3 _ _ _ _ (rd_L3 t415 0) from ge437_0)
     clear hv437_0 ge437_0
     clear hcc437 hce437
     have qi437 : (0 < t415.length) = True := eq_true (by omega)
     (try rw [show ((0 : Int)).toNat = 0 from rfl] at hx437_0)
     (try rw [Addr.add_zero'] at hx437_0)
     have HR437_0 := ak hi437_0
     have HC437_0 := ak hl437_0
     clear hi437_0 hl437_0
     replace p437 := eq_true p437
     replace q437 := eq_true q437
     have p438 : 0 ≤ (x11_2 : Int) := oT (by (with_reducible assumption))
     have q438 : x11_2 < ((rd_L3 t415 0).length : Int) := oT (by (with_reducible assumption))
     obtain ⟨ad438, e438, hx438_0⟩ := Kd.at_int (by repeat ((with_reducible exact HR437_0.out))) x11_2 p438 q438
     cases e438
     replace p438 := eq_true p438
     replace q438 := eq_true q438
     obtain ⟨Ao43, co43, eo43⟩ := Kd.R_slice HO_9.out
     subst eo43
     have p439 : 0 ≤ (0 : Int) := (by omega)
     have q439 : 0 < (t433.length : Int) := oT (by (with_reducible assumption))
     obtain ⟨ad439, e439, hx439_0⟩ := Kd.at_int (Kd.R_reads' HO_9.out).2.2 0 p439 q439
     cases e439
     have qi439 : (0 < t433.length) = True := eq_true (by omega)
     (try rw [show ((0 : Int)).toNat = 0 from rfl] at hx439_0)
     (try rw [Addr.add_zero'] at hx439_0)
     replace p439 := eq_true p439
     replace q439 := eq_true q439
     go_wp2
     go_roundg k2
     case measure => have := HJ5.out; have := HK2.out; omega
     case rel => exact ⟨(wrap64 (x11_2 + 1)), (by rfl), H', ⟨by have := HJ5.out; have := HK2.out; omega⟩, ⟨by exact HO_4.out⟩, ⟨rk HO_9⟩, ⟨rk HO_419001⟩, ⟨bk BK418⟩, ⟨by repeat ((with_reducible exact HR432.out))⟩, ⟨bl1 HB GE418⟩⟩
    rw [if_pos c38] at H
    have c38b0 : decide (x11_2 < (rd t433 0)) = true := decide_eq_true c38
    clear c38
    by_cases c39 : (rd (rd_L3 t415 0) x11_2) = t436
    ·rw [if_pos c39] at H
     have c39b0 : ((rd (rd_L3 t415 0) x11_2) == t436) = true := beq_iff_eq.mpr c39
     have c39b1 : ((rd (rd_L3 t415 0) x11_2) != t436) = false := bne_eq_false_iff_eq.mpr c39
     clear c39
     exact absurd ((Option.some.inj H).trans hr_) Bool.false_ne_true
    rw [if_neg c39] at H
    have c39b0 : ((rd (rd_L3 t415 0) x11_2) == t436) = false := beq_eq_false_iff_ne.mpr c39
    have c39b1 : ((rd (rd_L3 t415 0) x11_2) != t436) = true := bne_iff_ne.mpr c39
    have H' := ak H
    clear H
    have hcz40_0 := bc wr BK418 0 (.int .i64 t411) rfl
    have hcz40_1 := bc wr BK418 1 (.slice Ao10 t412.length co10) rfl
    have hfz40_0 := fz BK418 0
    have hfz40_1 := fz BK418 1
    have p437 : 0 ≤ (0 : Int) := (by omega)
    have q437 : 0 < (t415.length : Int) := oT (by (with_reducible assumption))
    obtain ⟨ad437, A437_0, c437_0, e437, hx437_0, hl437_0, hi437_0⟩ := at_L3 (Kd.S_reads' HO_4.out).2.2 0 p437 q437
    cases e437
    obtain ⟨ce437, hce437, hMe437, hcc437⟩ := Kd.S_get HO_4.out [] 0 p437 (by exact q437)
    obtain ⟨ve437_0, rfl, ge437_0⟩ := hMe437
    have hv437_0 := hcc437 0 _ rfl
    rw [Nat.add_zero, show ((Kd.slice 3 (Kd.int .i64))).sz = 1 from rfl, Nat.mul_one] at hv437_0
    replace hv437_0 := Option.some.inj (hv437_0.symm.trans hx437_0)
    rw [hv437_0] at ge437_0
    have HL437_0 := ak (show Kd.R (Kd.int .i64) 3 _ _ _ _ (rd_L3 t415 0) from ge437_0)
    clear hv437_0 ge437_0
    clear hcc437 hce437
    have qi437 : (0 < t415.length) = True := eq_true (by omega)
    (try rw [show ((0 : Int)).toNat = 0 from rfl] at hx437_0)
    (try rw [Addr.add_zero'] at hx437_0)
    have HR437_0 := ak hi437_0
    have HC437_0 := ak hl437_0
    clear hi437_0 hl437_0
    replace p437 := eq_true p437
    replace q437 := eq_true q437
    have p438 : 0 ≤ (x11_2 : Int) := oT (by (with_reducible assumption))
    have q438 : x11_2 < ((rd_L3 t415 0).length : Int) := oT (by (with_reducible assumption))
    obtain ⟨ad438, e438, hx438_0⟩ := Kd.at_int (by repeat ((with_reducible exact HR437_0.out))) x11_2 p438 q438
    cases e438
    replace p438 := eq_true p438
    replace q438 := eq_true q438
    obtain ⟨Ao41, co41, eo41⟩ := Kd.R_slice HO_9.out
    subst eo41
    have p439 : 0 ≤ (0 : Int) := (by omega)
    have q439 : 0 < (t433.length : Int) := oT (by (with_reducible assumption))
    obtain ⟨ad439, e439, hx439_0⟩ := Kd.at_int (Kd.R_reads' HO_9.out).2.2 0 p439 q439
    cases e439
    have qi439 : (0 < t433.length) = True := eq_true (by omega)
    (try rw [show ((0 : Int)).toNat = 0 from rfl] at hx439_0)
    (try rw [Addr.add_zero'] at hx439_0)
    replace p439 := eq_true p439
    replace q439 := eq_true q439
    have p440 : 0 ≤ (0 : Int) := (by omega)
    have q440 : 0 < (t415.length : Int) := oT (by (with_reducible assumption))
    obtain ⟨ad440, A440_0, c440_0, e440, hx440_0, hl440_0, hi440_0⟩ := at_L3 (Kd.S_reads' HO_4.out).2.2 0 p440 q440
    obtain rfl : ad437 = ad440 := (by injection e440)
    obtain ⟨ce440, hce440, hMe440, hcc440⟩ := Kd.S_get HO_4.out [] 0 p440 (by exact q440)
    obtain ⟨ve440_0, rfl, ge440_0⟩ := hMe440
    have hv440_0 := hcc440 0 _ rfl
    rw [Nat.add_zero, show ((Kd.slice 3 (Kd.int .i64))).sz = 1 from rfl, Nat.mul_one] at hv440_0
    replace hv440_0 := Option.some.inj (hv440_0.symm.trans hx440_0)
    rw [hv440_0] at ge440_0
    have HL440_0 := ak (show Kd.R (Kd.int .i64) 3 _ _ _ _ (rd_L3 t415 0) from ge440_0)
    clear hv440_0 ge440_0
    clear hcc440 hce440
    have qi440 : (0 < t415.length) = True := eq_true (by omega)
    (try rw [show ((0 : Int)).toNat = 0 from rfl] at hx440_0)
    (try rw [Addr.add_zero'] at hx440_0)
    have HR440_0 := ak hi440_0
    have HC440_0 := ak hl440_0
    clear hi440_0 hl440_0
    replace p440 := eq_true p440
    replace q440 := eq_true q440
    have ea_ := Option.some.inj (hx437_0.symm.trans hx440_0)
    injection ea_ with ea_ en_ ec_
    subst ea_
    subst ec_
    clear en_
    have p441 : 0 ≤ (x11_2 : Int) := oT (by (with_reducible assumption))
    have q441 : x11_2 < ((rd_L3 t415 0).length : Int) := oT (by (with_reducible assumption))
    obtain ⟨ad441, e441, hx441_0⟩ := Kd.at_int (by repeat ((with_reducible exact HR440_0.out))) x11_2 p441 q441
    cases e441
    replace p441 := eq_true p441
    replace q441 := eq_true q441
    go_wp2
    go_roundg k2
    case measure => have := HJ5.out; have := HK2.out; omega
    case rel => exact ⟨(wrap64 (x11_2 + 1)), (by rfl), H', ⟨by have := HJ5.out; have := HK2.out; omega⟩, ⟨by exact HO_4.out⟩, ⟨rk HO_9⟩, ⟨rk HO_419001⟩, ⟨bk BK418⟩, ⟨by repeat ((with_reducible exact HR432.out))⟩, ⟨bl1 HB GE418⟩⟩
   rw [if_neg c32] at H
   have c32b0 : decide (x11_2 < t411) = false := decide_eq_false c32
   clear c32
   obtain ⟨ji44, hji44⟩ : ∃ j_ : Int, (wrap64 ((t415.length : Int) - 1)) = j_ := ⟨_, rfl⟩
   replace H : (if 0 ≤ (ji44) then (if (ji44) ≤ (t415.length : Int) then ((impl_SeenBest.f k2 t411 t412 (t415.take ((ji44) : Int).toNat)).bind fun bt446 => (if 0 < (t415.length : Int) then (if 0 < (t433.length : Int) then (if 0 ≤ (rd t433 0) then (if (rd t433 0) < ((rd_L3 t415 0).length : Int) then (if (rd (rd_L3 t415 0) (rd t433 0)) = t436 then (if (t415.length : Int) = 1 then (some true) else (some (decide (bt446.2 ≤ t422)))) else (some false)) else (none)) else (none)) else (none)) else (none))) else (none)) else (none)) = some r := by (rw [hji44] at H; exact H)
   have hji44w : (IntKind.i64.wrap ((t415.length : Int) - 1)) = ji44 := (i64_w _).trans hji44
   by_cases c45 : 0 ≤ (ji44)
   rotate_left
   ·rw [if_neg c45] at H
    exact absurd H (by simp)
   rw [if_pos c45] at H
   have c45b0 := eq_true c45
   have c45b1 : decide (0 ≤ (ji44)) = true := decide_eq_true c45
   clear c45
   by_cases c46 : (ji44) ≤ (t415.length : Int)
   rotate_left
   ·rw [if_neg c46] at H
    exact absurd H (by simp)
   rw [if_pos c46] at H
   have c46b0 := eq_true c46
   have c46b1 : decide ((ji44) ≤ (t415.length : Int)) = true := decide_eq_true c46
   clear c46
   obtain ⟨y442, hy442⟩ : ∃ y_ : List (List Int), y_ = (t415.take ((ji44) : Int).toNat) := ⟨_, rfl⟩
   replace H : ((impl_SeenBest.f k2 t411 t412 y442).bind fun bt446 => (if 0 < (t415.length : Int) then (if 0 < (t433.length : Int) then (if 0 ≤ (rd t433 0) then (if (rd t433 0) < ((rd_L3 t415 0).length : Int) then (if (rd (rd_L3 t415 0) (rd t433 0)) = t436 then (if (t415.length : Int) = 1 then (some true) else (some (decide (bt446.2 ≤ t422)))) else (some false)) else (none)) else (none)) else (none)) else (none))) = some r := by (rw [hy442]; with_reducible exact H)
   have Ny442 := ak hy442
   clear hy442
   replace H := Option.bind_eq_some_iff.mp H
   obtain ⟨⟨t446, t449⟩, A470, H⟩ := H
   have A47 := ak A470
   clear A470
   by_cases c48 : 0 < (t415.length : Int)
   rotate_left
   ·rw [if_neg c48] at H
    exact absurd H (by simp)
   rw [if_pos c48] at H
   have c48b0 : decide (0 < (t415.length : Int)) = true := decide_eq_true c48
   have c48b1 : decide (0 < t415.length) = true := decide_eq_true (by omega)
   clear c48
   by_cases c49 : 0 < (t433.length : Int)
   rotate_left
   ·rw [if_neg c49] at H
    exact absurd H (by simp)
   rw [if_pos c49] at H
   have c49b0 : decide (0 < (t433.length : Int)) = true := decide_eq_true c49
   have c49b1 : decide (0 < t433.length) = true := decide_eq_true (by omega)
   clear c49
   by_cases c50 : 0 ≤ (rd t433 0)
   rotate_left
   ·rw [if_neg c50] at H
    exact absurd H (by simp)
   rw [if_pos c50] at H
   have c50b0 : decide (0 ≤ (rd t433 0)) = true := decide_eq_true c50
   clear c50
   by_cases c51 : (rd t433 0) < ((rd_L3 t415 0).length : Int)
   rotate_left
   ·rw [if_neg c51] at H
    exact absurd H (by simp)
   rw [if_pos c51] at H
   have c51b0 : decide ((rd t433 0) < ((rd_L3 t415 0).length : Int)) = true := decide_eq_true c51
   clear c51
   by_cases c52 : (rd (rd_L3 t415 0) (rd t433 0)) = t436
   rotate_left
   ·rw [if_neg c52] at H
    have c52b0 : ((rd (rd_L3 t415 0) (rd t433 0)) == t436) = false := beq_eq_false_iff_ne.mpr c52
    have c52b1 : ((rd (rd_L3 t415 0) (rd t433 0)) != t436) = true := bne_iff_ne.mpr c52
    exact absurd ((Option.some.inj H).trans hr_) Bool.false_ne_true
   rw [if_pos c52] at H
   have c52b0 : ((rd (rd_L3 t415 0) (rd t433 0)) == t436) = true := beq_iff_eq.mpr c52
   have c52b1 : ((rd (rd_L3 t415 0) (rd t433 0)) != t436) = false := bne_eq_false_iff_eq.mpr c52
   clear c52
   by_cases c53 : (t415.length : Int) = 1
   ·rw [if_pos c53] at H
    have c53b0 : ((t415.length : Int) == 1) = true := beq_iff_eq.mpr c53
    have c53b1 : ((t415.length : Int) != 1) = false := bne_eq_false_iff_eq.mpr c53
    clear c53
    obtain rfl := Option.some.inj H
    have hcz54_0 := bc wr BK418 0 (.int .i64 t411) rfl
    have hcz54_1 := bc wr BK418 1 (.slice Ao10 t412.length co10) rfl
    have hfz54_0 := fz BK418 0
    have hfz54_1 := fz BK418 1
    try go_wp2
    replace HO_4 := ak (Kd.S_drew HO_4.out)
    replace HO_9 := ak (Kd.R_drew HO_9.out)
    replace HO_419001 := ak (Kd.R_drew HO_419001.out)
    replace BK418 := ak (blk_drew BK418.out)
    replace HR432 := ak (Kd.C_drew HR432.out)
    replace HB := ak (below_drew1 HB.out)
    have q56 : ((ji44) : Int) ≤ ((t415.length : Int) : Int) := oT (by (with_reducible assumption))
    obtain ⟨i056, hi056, _, hsz56, _⟩ := info_parts info26
    have hroom56 : t415.length ≤ co11 := (Kd.S_reads' HO_4.out).2.1
    have hC56 : Kd.C (Kd.slice 3 (Kd.int .i64)) _ Ao11 t415.length t415 := (Kd.S_reads' HO_4.out).2.2
    have hcut56 := cut_to (P := Try.prog) 50 26 .i64 Try.underlying50 hi056 Ao11 t415.length co11 (ji44) (oT (by (with_reducible assumption))) q56 hroom56
    have hr56 := Kd.C_take (m := ((ji44) : Int).toNat) hC56 (by omega)
    have hy56 : y442.length = ((ji44) : Int).toNat := (by rw [Ny442.out, List.length_take]; omega)
    rw [← Ny442.out] at hr56
    rw [← hy56] at hcut56
    have HR445 := ak hr56
    have HC445 := ak (show y442.length ≤ co11 from by omega)
    clear hr56 hC56 hroom56 hi056 hsz56
    have KY56 := ak hy56
    clear hy56
    have KL56 := ak (show ((ji44) : Int).toNat ≤ t415.length from by omega)
    replace q56 := eq_true q56
    refine start_ (n := 12) (S := fun w' => w'.cell? ⟨gb418, 0, none⟩ = some (.int .i64 t411) ∧ w'.cell? ⟨gb418, 1, none⟩ = some (.slice Ao10 t412.length co10)) (ds := []) (ms 12 0) (by kernel_rfl) rfl (by kernel_rfl) ⟨(blk_cell BK418.out 0).trans rfl, (blk_cell BK418.out 1).trans rfl⟩ (fun hHeld => ?_); refine with_tabW laws_FnSeenMore.tab14 laws_FnSeenMore.bits14 (fun HT_ HW_ => ?_)
    generalize wr.drew = w55 at HO_4 HO_9 HO_419001 BK418 HR432 HB HR445 hHeld ⊢
    refine pu 1 95 ?_ (ms 12 2) rfl rfl HT_ (by kernel_rfl) (fun _ _ _ h => h) (by rfl) ?_ ?_ ?_ ?_
    rotate_left
    ·intro w'
     go_simp
     with_reducible rfl
    rotate_left
    ·simp only [SX]
     rfl
    refine pu 2 96 ?_ (ms 12 6) rfl rfl HT_ (by kernel_rfl) (fun _ _ _ h => h) (by rfl) ?_ ?_ ?_ ?_
    rotate_left
    ·intro w'
     go_simp
     with_reducible rfl
    rotate_left
    ·simp only [SX]
     rfl
    refine pu 3 97 ?_ (ms 12 14) rfl rfl HT_ (by kernel_rfl) (fun _ _ _ h => h) (by rfl) ?_ ?_ ?_ ?_
    rotate_left
    ·intro w'
     go_simp
     with_reducible rfl
    rotate_left
    ·simp only [SX]
     rfl
    refine pu 4 98 ?_ (ms 12 30) rfl rfl HT_ (by kernel_rfl) (fun _ _ _ h => h) (by rfl) ?_ ?_ ?_ ?_
    rotate_left
    ·intro w'
     go_simp
     with_reducible rfl
    rotate_left
    ·simp only [SX]
     rfl
    refine pu 5 99 ?_ (ms 12 62) rfl rfl HT_ (by kernel_rfl) (fun _ _ _ h => h) (by rfl) ?_ ?_ ?_ ?_
    rotate_left
    ·intro w'
     go_simp
     with_reducible rfl
    rotate_left
    ·simp only [SX]
     rfl
    refine tk 0 94 ?_ (ms 12 63) rfl rfl HT_ HW_ (by kernel_rfl) (fun _ _ _ h => h) (by rfl) ?_ hHeld ?_ ?_ ?_
    rotate_left
    ·rintro w' ⟨s0, s1⟩
     go_simp
     with_reducible rfl
    rotate_left
    ·simp only [SX]
     rfl
    refine one_ (i := 6) (N := some 100) (ms 12 127) rfl rfl (one_of HT_.out (by kernel_rfl)) (by decide) (fun K hK => ?_)
    refine goes_ Try.func37 (by kernel_rfl) rfl #[.agg #[.int .i64 t411, .slice Ao10 t412.length co10], .slice Ao11 y442.length co11] (by rfl) rfl rfl (by (try simp only [List.map_toArray, List.map_cons, List.map_nil]); rfl) ?_
    with_reducible refine (impl_SeenBest.calls k2 t411 _ _ t412 _ _ y442 t446 t449 _ ?side1 ?side2 ?side3 ?side4 A47.out).mono ?_
    (case side1 => repeat (exact (Kd.R_reads' HO_419001.out).2.2))
    (case side2 => exact (Kd.R_reads' HO_419001.out).2.1)
    (case side3 => repeat (exact (by repeat ((with_reducible exact HR445.out)))))
    (case side4 => exact HC445.out)
    rintro e w57 ⟨v447, rfl, ho0, hb⟩
    refine ⟨_, rfl, ?_⟩
    replace HO_4 := ak (Kd.S_elder' (by exact HO_4.out) (Kd.R_base ho0) hb)
    replace HO_419001 := ak (Kd.R_below (rk HO_419001) hb)
    have HO448 := ak (Kd.R_lower (Kd.R_new' ho0 (Kd.R_lt (rk HO_9))) (below_size (bl1 HB GE418)))
    replace HO_9 := ak (Kd.R_elder' (rk HO_9) (Kd.R_base ho0) hb)
    replace BK418 := ak (blk_below (bk BK418) hb)
    replace HR432 := ak (Kd.C_below (by repeat ((with_reducible exact HR432.out))) hb)
    replace HR445 := ak (Kd.C_below (by repeat ((with_reducible exact HR445.out))) hb)
    replace HB := ak (below_step (bl1 HB GE418) hb)
    (try clear hb)
    (try clear hb2)
    (try clear hk)
    (try clear hi)
    (try clear ho0)
    refine hK.out _ _ ⟨(blk_cell BK418.out 0).trans rfl, (blk_cell BK418.out 1).trans rfl⟩ (fun hHeld => ?_)
    clear hK K
    refine norm_ (a' := ?_) ?_ ?_
    rotate_left
    ·show Act.put _ (some 100) _ = _
     simp only [SX]
     rfl
    refine pu 7 93 ?_ (ms 12 255) rfl rfl HT_ (by kernel_rfl) (fun _ _ _ h => h) (by rfl) ?_ ?_ ?_ ?_
    rotate_left
    ·intro w'
     go_simp
     with_reducible rfl
    rotate_left
    ·simp only [SX]
     rfl
    refine pu 8 101 ?_ (ms 12 511) rfl rfl HT_ (by kernel_rfl) (fun _ _ _ h => h) (by rfl) ?_ ?_ ?_ ?_
    rotate_left
    ·intro w'
     go_simp
     with_reducible rfl
    rotate_left
    ·simp only [SX]
     rfl
    refine pu 9 102 ?_ (ms 12 1023) rfl rfl HT_ (by kernel_rfl) (fun _ _ _ h => h) (by rfl) ?_ ?_ ?_ ?_
    rotate_left
    ·intro w'
     go_simp
     with_reducible rfl
    rotate_left
    ·simp only [SX]
     rfl
    refine pu 10 12 ?_ (ms 12 2047) rfl rfl HT_ (by kernel_rfl) (fun _ _ _ h => h) (by rfl) ?_ ?_ ?_ ?_
    rotate_left
    ·intro w'
     go_simp
     with_reducible rfl
    rotate_left
    ·simp only [SX]
     rfl
    refine pu 11 13 ?_ (ms 12 4095) rfl rfl HT_ (by kernel_rfl) (fun _ _ _ h => h) (by rfl) ?_ ?_ ?_ ?_
    rotate_left
    ·intro w'
     go_simp
     with_reducible rfl
    rotate_left
    ·simp only [SX]
     rfl
    refine done_ (done_of HT_.out (by kernel_rfl)) ?_
    try go_wp2
    replace HO_4 := ak (Kd.S_drew HO_4.out)
    replace HO_9 := ak (Kd.R_drew HO_9.out)
    replace HO_419001 := ak (Kd.R_drew HO_419001.out)
    replace HO448 := ak (Kd.R_drew HO448.out)
    replace BK418 := ak (blk_drew BK418.out)
    replace HR432 := ak (Kd.C_drew HR432.out)
    replace HR445 := ak (Kd.C_drew HR445.out)
    replace HB := ak (below_drew1 HB.out)
    have p450 : 0 ≤ (0 : Int) := (by omega)
    have q450 : 0 < (t415.length : Int) := oT (by (with_reducible assumption))
    obtain ⟨ad450, A450_0, c450_0, e450, hx450_0, hl450_0, hi450_0⟩ := at_L3 (Kd.S_reads' HO_4.out).2.2 0 p450 q450
    cases e450
    obtain ⟨ce450, hce450, hMe450, hcc450⟩ := Kd.S_get HO_4.out [] 0 p450 (by exact q450)
    obtain ⟨ve450_0, rfl, ge450_0⟩ := hMe450
    have hv450_0 := hcc450 0 _ rfl
    rw [Nat.add_zero, show ((Kd.slice 3 (Kd.int .i64))).sz = 1 from rfl, Nat.mul_one] at hv450_0
    replace hv450_0 := Option.some.inj (hv450_0.symm.trans hx450_0)
    rw [hv450_0] at ge450_0
    have HL450_0 := ak (show Kd.R (Kd.int .i64) 3 _ _ _ _ (rd_L3 t415 0) from ge450_0)
    clear hv450_0 ge450_0
    clear hcc450 hce450
    have qi450 : (0 < t415.length) = True := eq_true (by omega)
    (try rw [show ((0 : Int)).toNat = 0 from rfl] at hx450_0)
    (try rw [Addr.add_zero'] at hx450_0)
    have HR450_0 := ak hi450_0
    have HC450_0 := ak hl450_0
    clear hi450_0 hl450_0
    replace p450 := eq_true p450
    replace q450 := eq_true q450
    obtain ⟨Ao59, co59, eo59⟩ := Kd.R_slice HO_9.out
    (subst eo59)
    have p451 : 0 ≤ (0 : Int) := (by omega)
    have q451 : 0 < (t433.length : Int) := oT (by (with_reducible assumption))
    obtain ⟨ad451, e451, hx451_0⟩ := Kd.at_int (Kd.R_reads' HO_9.out).2.2 0 p451 q451
    cases e451
    have qi451 : (0 < t433.length) = True := eq_true (by omega)
    (try rw [show ((0 : Int)).toNat = 0 from rfl] at hx451_0)
    (try rw [Addr.add_zero'] at hx451_0)
    replace p451 := eq_true p451
    replace q451 := eq_true q451
    have p452 : 0 ≤ ((rd t433 0) : Int) := oT (by (with_reducible assumption))
    have q452 : (rd t433 0) < ((rd_L3 t415 0).length : Int) := oT (by (with_reducible assumption))
    obtain ⟨ad452, e452, hx452_0⟩ := Kd.at_int (by repeat ((with_reducible exact HR450_0.out))) (rd t433 0) p452 q452
    cases e452
    replace p452 := eq_true p452
    replace q452 := eq_true q452
    refine start_ (n := 21) (S := fun w' => w'.cell? ad450 = some (.slice (some ad452) (rd_L3 t415 0).length c450_0) ∧ w'.cell? ad451 = some (.int .i64 (rd t433 0)) ∧ w'.cell? (ad452.add ((rd t433 0)).toNat) = some (.int .i64 (rd (rd_L3 t415 0) (rd t433 0)))) (ds := []) (ms 21 0) (by kernel_rfl) rfl (by kernel_rfl) ⟨hx450_0, hx451_0, hx452_0⟩ (fun hHeld => ?_); refine with_tabW laws_FnSeenMore.tab15 laws_FnSeenMore.bits15 (fun HT_ HW_ => ?_)
    generalize w57.drew = w58 at HO_4 HO_9 HO_419001 HO448 BK418 HR432 HR445 HB HL450_0 HR450_0 hx450_0 hx451_0 hx452_0 hHeld ⊢
    refine pu 0 103 ?_ (ms 21 1) rfl rfl HT_ (by kernel_rfl) (fun _ _ _ h => h) (by rfl) ?_ ?_ ?_ ?_
    rotate_left
    ·intro w'
     go_simp
     with_reducible rfl
    rotate_left
    ·simp only [SX]
     rfl
    refine pu 1 104 ?_ (ms 21 3) rfl rfl HT_ (by kernel_rfl) (fun _ _ _ h => h) (by rfl) ?_ ?_ ?_ ?_
    rotate_left
    ·intro w'
     go_simp
     with_reducible rfl
    rotate_left
    ·simp only [SX]
     rfl
    refine pu 3 106 ?_ (ms 21 11) rfl rfl HT_ (by kernel_rfl) (fun _ _ _ h => h) (by rfl) ?_ ?_ ?_ ?_
    rotate_left
    ·intro w'
     go_simp
     with_reducible rfl
    rotate_left
    ·simp only [SX]
     rfl
    refine pu 4 107 ?_ (ms 21 27) rfl rfl HT_ (by kernel_rfl) (fun _ _ _ h => h) (by rfl) ?_ ?_ ?_ ?_
    rotate_left
    ·intro w'
     go_simp
     with_reducible rfl
    rotate_left
    ·simp only [SX]
     rfl
    refine pu 8 111 ?_ (ms 21 283) rfl rfl HT_ (by kernel_rfl) (fun _ _ _ h => h) (by rfl) ?_ ?_ ?_ ?_
    rotate_left
    ·intro w'
     go_simp
     with_reducible rfl
    rotate_left
    ·simp only [SX]
     rfl
    refine tk 2 105 ?_ (ms 21 287) rfl rfl HT_ HW_ (by kernel_rfl) (fun _ _ _ h => h) (by rfl) ?_ hHeld ?_ ?_ ?_
    rotate_left
    ·rintro w' ⟨s0, s1, s2⟩
     go_simp
     with_reducible rfl
    rotate_left
    ·simp only [SX]
     rfl
    refine tk 5 108 ?_ (ms 21 319) rfl rfl HT_ HW_ (by kernel_rfl) (fun _ _ _ h => h) (by rfl) ?_ hHeld ?_ ?_ ?_
    rotate_left
    ·rintro w' ⟨s0, s1, s2⟩
     go_simp
     with_reducible rfl
    rotate_left
    ·simp only [SX]
     rfl
    refine pu 6 109 ?_ (ms 21 383) rfl rfl HT_ (by kernel_rfl) (fun _ _ _ h => h) (by rfl) ?_ ?_ ?_ ?_
    rotate_left
    ·intro w'
     go_simp
     with_reducible rfl
    rotate_left
    ·simp only [SX]
     rfl
    refine tk 7 110 ?_ (ms 21 511) rfl rfl HT_ HW_ (by kernel_rfl) (fun _ _ _ h => h) (by rfl) ?_ hHeld ?_ ?_ ?_
    rotate_left
    ·rintro w' ⟨s0, s1, s2⟩
     go_simp
     with_reducible rfl
    rotate_left
    ·simp only [SX]
     rfl
    refine pu 9 112 ?_ (ms 21 1023) rfl rfl HT_ (by kernel_rfl) (fun _ _ _ h => h) (by rfl) ?_ ?_ ?_ ?_
    rotate_left
    ·intro w'
     go_simp
     with_reducible rfl
    rotate_left
    ·simp only [SX]
     rfl
    refine pu 10 113 ?_ (ms 21 2047) rfl rfl HT_ (by kernel_rfl) (fun _ _ _ h => h) (by rfl) ?_ ?_ ?_ ?_
    rotate_left
    ·intro w'
     go_simp
     with_reducible rfl
    rotate_left
    ·simp only [SX]
     rfl
    refine pu 11 114 ?_ (ms 21 4095) rfl rfl HT_ (by kernel_rfl) (fun _ _ _ h => h) (by rfl) ?_ ?_ ?_ ?_
    rotate_left
    ·intro w'
     go_simp
     with_reducible rfl
    rotate_left
    ·simp only [SX]
     rfl
    refine pu 12 115 ?_ (ms 21 8191) rfl rfl HT_ (by kernel_rfl) (fun _ _ _ h => h) (by rfl) ?_ ?_ ?_ ?_
    rotate_left
    ·intro w'
     go_simp
     with_reducible rfl
    rotate_left
    ·simp only [SX]
     rfl
    refine pu 13 116 ?_ (ms 21 16383) rfl rfl HT_ (by kernel_rfl) (fun _ _ _ h => h) (by rfl) ?_ ?_ ?_ ?_
    rotate_left
    ·intro w'
     go_simp
     with_reducible rfl
    rotate_left
    ·simp only [SX]
     rfl
    refine pu 14 117 ?_ (ms 21 32767) rfl rfl HT_ (by kernel_rfl) (fun _ _ _ h => h) (by rfl) ?_ ?_ ?_ ?_
    rotate_left
    ·intro w'
     go_simp
     with_reducible rfl
    rotate_left
    ·simp only [SX]
     rfl
    refine pure_ (i := 15) (N := some 118) (v := undef) (a' := ?_) (ms 21 65535) rfl rfl (any_of HT_.out (by kernel_rfl)) (fun _ _ _ h => h) (Or.inr ⟨by rfl, rfl⟩) ?_ ?_
    rotate_left
    ·simp only [SX]
     rfl
    refine pure_ (i := 16) (N := some 119) (v := undef) (a' := ?_) (ms 21 131071) rfl rfl (any_of HT_.out (by kernel_rfl)) (fun _ _ _ h => h) (Or.inr ⟨by rfl, rfl⟩) ?_ ?_
    rotate_left
    ·simp only [SX]
     rfl
    refine pure_ (i := 17) (N := some 120) (v := undef) (a' := ?_) (ms 21 262143) rfl rfl (any_of HT_.out (by kernel_rfl)) (fun _ _ _ h => h) (Or.inr ⟨by rfl, rfl⟩) ?_ ?_
    rotate_left
    ·simp only [SX]
     rfl
    refine pu 18 121 ?_ (ms 21 524287) rfl rfl HT_ (by kernel_rfl) (fun _ _ _ h => h) (by rfl) ?_ ?_ ?_ ?_
    rotate_left
    ·intro w'
     go_simp
     with_reducible rfl
    rotate_left
    ·simp only [SX]
     rfl
    refine pu 19 122 ?_ (ms 21 1048575) rfl rfl HT_ (by kernel_rfl) (fun _ _ _ h => h) (by rfl) ?_ ?_ ?_ ?_
    rotate_left
    ·intro w'
     go_simp
     with_reducible rfl
    rotate_left
    ·simp only [SX]
     rfl
    refine pu 20 2 ?_ (ms 21 2097151) rfl rfl HT_ (by kernel_rfl) (fun _ _ _ h => h) (by rfl) ?_ ?_ ?_ ?_
    rotate_left
    ·intro w'
     go_simp
     with_reducible rfl
    rotate_left
    ·simp only [SX]
     rfl
    refine done_ (done_of HT_.out (by kernel_rfl)) ?_
    try go_wp2
    go_ret
    exact ⟨by rfl, bl1 HB GE418⟩
   rw [if_neg c53] at H
   have c53b0 : ((t415.length : Int) == 1) = false := beq_eq_false_iff_ne.mpr c53
   have c53b1 : ((t415.length : Int) != 1) = true := bne_iff_ne.mpr c53
   obtain rfl := Option.some.inj H
   have hcz60_0 := bc wr BK418 0 (.int .i64 t411) rfl
   have hcz60_1 := bc wr BK418 1 (.slice Ao10 t412.length co10) rfl
   have hfz60_0 := fz BK418 0
   have hfz60_1 := fz BK418 1
   try go_wp2
   replace HO_4 := ak (Kd.S_drew HO_4.out)
   replace HO_9 := ak (Kd.R_drew HO_9.out)
   replace HO_419001 := ak (Kd.R_drew HO_419001.out)
   replace BK418 := ak (blk_drew BK418.out)
   replace HR432 := ak (Kd.C_drew HR432.out)
   replace HB := ak (below_drew1 HB.out)
   have q62 : ((ji44) : Int) ≤ ((t415.length : Int) : Int) := oT (by (with_reducible assumption))
   obtain ⟨i062, hi062, _, hsz62, _⟩ := info_parts info26
   have hroom62 : t415.length ≤ co11 := (Kd.S_reads' HO_4.out).2.1
   have hC62 : Kd.C (Kd.slice 3 (Kd.int .i64)) _ Ao11 t415.length t415 := (Kd.S_reads' HO_4.out).2.2
   have hcut62 := cut_to (P := Try.prog) 50 26 .i64 Try.underlying50 hi062 Ao11 t415.length co11 (ji44) (oT (by (with_reducible assumption))) q62 hroom62
   have hr62 := Kd.C_take (m := ((ji44) : Int).toNat) hC62 (by omega)
   have hy62 : y442.length = ((ji44) : Int).toNat := (by rw [Ny442.out, List.length_take]; omega)
   rw [← Ny442.out] at hr62
   rw [← hy62] at hcut62
   have HR445 := ak hr62
   have HC445 := ak (show y442.length ≤ co11 from by omega)
   clear hr62 hC62 hroom62 hi062 hsz62
   have KY62 := ak hy62
   clear hy62
   have KL62 := ak (show ((ji44) : Int).toNat ≤ t415.length from by omega)
   replace q62 := eq_true q62
   refine start_ (n := 12) (S := fun w' => w'.cell? ⟨gb418, 0, none⟩ = some (.int .i64 t411) ∧ w'.cell? ⟨gb418, 1, none⟩ = some (.slice Ao10 t412.length co10)) (ds := []) (ms 12 0) (by kernel_rfl) rfl (by kernel_rfl) ⟨(blk_cell BK418.out 0).trans rfl, (blk_cell BK418.out 1).trans rfl⟩ (fun hHeld => ?_); refine with_tabW laws_FnSeenMore.tab14 laws_FnSeenMore.bits14 (fun HT_ HW_ => ?_)
   generalize wr.drew = w61 at HO_4 HO_9 HO_419001 BK418 HR432 HB HR445 hHeld ⊢
   refine pu 1 95 ?_ (ms 12 2) rfl rfl HT_ (by kernel_rfl) (fun _ _ _ h => h) (by rfl) ?_ ?_ ?_ ?_
   rotate_left
   ·intro w'
    go_simp
    with_reducible rfl
   rotate_left
   ·simp only [SX]
    rfl
   refine pu 2 96 ?_ (ms 12 6) rfl rfl HT_ (by kernel_rfl) (fun _ _ _ h => h) (by rfl) ?_ ?_ ?_ ?_
   rotate_left
   ·intro w'
    go_simp
    with_reducible rfl
   rotate_left
   ·simp only [SX]
    rfl
   refine pu 3 97 ?_ (ms 12 14) rfl rfl HT_ (by kernel_rfl) (fun _ _ _ h => h) (by rfl) ?_ ?_ ?_ ?_
   rotate_left
   ·intro w'
    go_simp
    with_reducible rfl
   rotate_left
   ·simp only [SX]
    rfl
   refine pu 4 98 ?_ (ms 12 30) rfl rfl HT_ (by kernel_rfl) (fun _ _ _ h => h) (by rfl) ?_ ?_ ?_ ?_
   rotate_left
   ·intro w'
    go_simp
    with_reducible rfl
   rotate_left
   ·simp only [SX]
    rfl
   refine pu 5 99 ?_ (ms 12 62) rfl rfl HT_ (by kernel_rfl) (fun _ _ _ h => h) (by rfl) ?_ ?_ ?_ ?_
   rotate_left
   ·intro w'
    go_simp
    with_reducible rfl
   rotate_left
   ·simp only [SX]
    rfl
   refine tk 0 94 ?_ (ms 12 63) rfl rfl HT_ HW_ (by kernel_rfl) (fun _ _ _ h => h) (by rfl) ?_ hHeld ?_ ?_ ?_
   rotate_left
   ·rintro w' ⟨s0, s1⟩
    go_simp
    with_reducible rfl
   rotate_left
   ·simp only [SX]
    rfl
   refine one_ (i := 6) (N := some 100) (ms 12 127) rfl rfl (one_of HT_.out (by kernel_rfl)) (by decide) (fun K hK => ?_)
   refine goes_ Try.func37 (by kernel_rfl) rfl #[.agg #[.int .i64 t411, .slice Ao10 t412.length co10], .slice Ao11 y442.length co11] (by rfl) rfl rfl (by (try simp only [List.map_toArray, List.map_cons, List.map_nil]); rfl) ?_
   with_reducible refine (impl_SeenBest.calls k2 t411 _ _ t412 _ _ y442 t446 t449 _ ?side1 ?side2 ?side3 ?side4 A47.out).mono ?_
   (case side1 => repeat (exact (Kd.R_reads' HO_419001.out).2.2))
   (case side2 => exact (Kd.R_reads' HO_419001.out).2.1)
   (case side3 => repeat (exact (by repeat ((with_reducible exact HR445.out)))))
   (case side4 => exact HC445.out)
   rintro e w63 ⟨v447, rfl, ho0, hb⟩
   refine ⟨_, rfl, ?_⟩
   replace HO_4 := ak (Kd.S_elder' (by exact HO_4.out) (Kd.R_base ho0) hb)
   replace HO_419001 := ak (Kd.R_below (rk HO_419001) hb)
   have HO448 := ak (Kd.R_lower (Kd.R_new' ho0 (Kd.R_lt (rk HO_9))) (below_size (bl1 HB GE418)))
   replace HO_9 := ak (Kd.R_elder' (rk HO_9) (Kd.R_base ho0) hb)
   replace BK418 := ak (blk_below (bk BK418) hb)
   replace HR432 := ak (Kd.C_below (by repeat ((with_reducible exact HR432.out))) hb)
   replace HR445 := ak (Kd.C_below (by repeat ((with_reducible exact HR445.out))) hb)
   replace HB := ak (below_step (bl1 HB GE418) hb)
   (try clear hb)
   (try clear hb2)
   (try clear hk)
   (try clear hi)
   (try clear ho0)
   refine hK.out _ _ ⟨(blk_cell BK418.out 0).trans rfl, (blk_cell BK418.out 1).trans rfl⟩ (fun hHeld => ?_)
   clear hK K
   refine norm_ (a' := ?_) ?_ ?_
   rotate_left
   ·show Act.put _ (some 100) _ = _
    simp only [SX]
    rfl
   refine pu 7 93 ?_ (ms 12 255) rfl rfl HT_ (by kernel_rfl) (fun _ _ _ h => h) (by rfl) ?_ ?_ ?_ ?_
   rotate_left
   ·intro w'
    go_simp
    with_reducible rfl
   rotate_left
   ·simp only [SX]
    rfl
   refine pu 8 101 ?_ (ms 12 511) rfl rfl HT_ (by kernel_rfl) (fun _ _ _ h => h) (by rfl) ?_ ?_ ?_ ?_
   rotate_left
   ·intro w'
    go_simp
    with_reducible rfl
   rotate_left
   ·simp only [SX]
    rfl
   refine pu 9 102 ?_ (ms 12 1023) rfl rfl HT_ (by kernel_rfl) (fun _ _ _ h => h) (by rfl) ?_ ?_ ?_ ?_
   rotate_left
   ·intro w'
    go_simp
    with_reducible rfl
   rotate_left
   ·simp only [SX]
    rfl
   refine pu 10 12 ?_ (ms 12 2047) rfl rfl HT_ (by kernel_rfl) (fun _ _ _ h => h) (by rfl) ?_ ?_ ?_ ?_
   rotate_left
   ·intro w'
    go_simp
    with_reducible rfl
   rotate_left
   ·simp only [SX]
    rfl
   refine pu 11 13 ?_ (ms 12 4095) rfl rfl HT_ (by kernel_rfl) (fun _ _ _ h => h) (by rfl) ?_ ?_ ?_ ?_
   rotate_left
   ·intro w'
    go_simp
    with_reducible rfl
   rotate_left
   ·simp only [SX]
    rfl
   refine done_ (done_of HT_.out (by kernel_rfl)) ?_
   try go_wp2
   replace HO_4 := ak (Kd.S_drew HO_4.out)
   replace HO_9 := ak (Kd.R_drew HO_9.out)
   replace HO_419001 := ak (Kd.R_drew HO_419001.out)
   replace HO448 := ak (Kd.R_drew HO448.out)
   replace BK418 := ak (blk_drew BK418.out)
   replace HR432 := ak (Kd.C_drew HR432.out)
   replace HR445 := ak (Kd.C_drew HR445.out)
   replace HB := ak (below_drew1 HB.out)
   have p450 : 0 ≤ (0 : Int) := (by omega)
   have q450 : 0 < (t415.length : Int) := oT (by (with_reducible assumption))
   obtain ⟨ad450, A450_0, c450_0, e450, hx450_0, hl450_0, hi450_0⟩ := at_L3 (Kd.S_reads' HO_4.out).2.2 0 p450 q450
   cases e450
   obtain ⟨ce450, hce450, hMe450, hcc450⟩ := Kd.S_get HO_4.out [] 0 p450 (by exact q450)
   obtain ⟨ve450_0, rfl, ge450_0⟩ := hMe450
   have hv450_0 := hcc450 0 _ rfl
   rw [Nat.add_zero, show ((Kd.slice 3 (Kd.int .i64))).sz = 1 from rfl, Nat.mul_one] at hv450_0
   replace hv450_0 := Option.some.inj (hv450_0.symm.trans hx450_0)
   rw [hv450_0] at ge450_0
   have HL450_0 := ak (show Kd.R (Kd.int .i64) 3 _ _ _ _ (rd_L3 t415 0) from ge450_0)
   clear hv450_0 ge450_0
   clear hcc450 hce450
   have qi450 : (0 < t415.length) = True := eq_true (by omega)
   (try rw [show ((0 : Int)).toNat = 0 from rfl] at hx450_0)
   (try rw [Addr.add_zero'] at hx450_0)
   have HR450_0 := ak hi450_0
   have HC450_0 := ak hl450_0
   clear hi450_0 hl450_0
   replace p450 := eq_true p450
   replace q450 := eq_true q450
   obtain ⟨Ao65, co65, eo65⟩ := Kd.R_slice HO_9.out
   (subst eo65)
   have p451 : 0 ≤ (0 : Int) := (by omega)
   have q451 : 0 < (t433.length : Int) := oT (by (with_reducible assumption))
   obtain ⟨ad451, e451, hx451_0⟩ := Kd.at_int (Kd.R_reads' HO_9.out).2.2 0 p451 q451
   cases e451
   have qi451 : (0 < t433.length) = True := eq_true (by omega)
   (try rw [show ((0 : Int)).toNat = 0 from rfl] at hx451_0)
   (try rw [Addr.add_zero'] at hx451_0)
   replace p451 := eq_true p451
   replace q451 := eq_true q451
   have p452 : 0 ≤ ((rd t433 0) : Int) := oT (by (with_reducible assumption))
   have q452 : (rd t433 0) < ((rd_L3 t415 0).length : Int) := oT (by (with_reducible assumption))
   obtain ⟨ad452, e452, hx452_0⟩ := Kd.at_int (by repeat ((with_reducible exact HR450_0.out))) (rd t433 0) p452 q452
   cases e452
   replace p452 := eq_true p452
   replace q452 := eq_true q452
   refine start_ (n := 21) (S := fun w' => w'.cell? ad450 = some (.slice (some ad452) (rd_L3 t415 0).length c450_0) ∧ w'.cell? ad451 = some (.int .i64 (rd t433 0)) ∧ w'.cell? (ad452.add ((rd t433 0)).toNat) = some (.int .i64 (rd (rd_L3 t415 0) (rd t433 0)))) (ds := []) (ms 21 0) (by kernel_rfl) rfl (by kernel_rfl) ⟨hx450_0, hx451_0, hx452_0⟩ (fun hHeld => ?_); refine with_tabW laws_FnSeenMore.tab15 laws_FnSeenMore.bits15 (fun HT_ HW_ => ?_)
   generalize w63.drew = w64 at HO_4 HO_9 HO_419001 HO448 BK418 HR432 HR445 HB HL450_0 HR450_0 hx450_0 hx451_0 hx452_0 hHeld ⊢
   refine pu 0 103 ?_ (ms 21 1) rfl rfl HT_ (by kernel_rfl) (fun _ _ _ h => h) (by rfl) ?_ ?_ ?_ ?_
   rotate_left
   ·intro w'
    go_simp
    with_reducible rfl
   rotate_left
   ·simp only [SX]
    rfl
   refine pu 1 104 ?_ (ms 21 3) rfl rfl HT_ (by kernel_rfl) (fun _ _ _ h => h) (by rfl) ?_ ?_ ?_ ?_
   rotate_left
   ·intro w'
    go_simp
    with_reducible rfl
   rotate_left
   ·simp only [SX]
    rfl
   refine pu 3 106 ?_ (ms 21 11) rfl rfl HT_ (by kernel_rfl) (fun _ _ _ h => h) (by rfl) ?_ ?_ ?_ ?_
   rotate_left
   ·intro w'
    go_simp
    with_reducible rfl
   rotate_left
   ·simp only [SX]
    rfl
   refine pu 4 107 ?_ (ms 21 27) rfl rfl HT_ (by kernel_rfl) (fun _ _ _ h => h) (by rfl) ?_ ?_ ?_ ?_
   rotate_left
   ·intro w'
    go_simp
    with_reducible rfl
   rotate_left
   ·simp only [SX]
    rfl
   refine pu 8 111 ?_ (ms 21 283) rfl rfl HT_ (by kernel_rfl) (fun _ _ _ h => h) (by rfl) ?_ ?_ ?_ ?_
   rotate_left
   ·intro w'
    go_simp
    with_reducible rfl
   rotate_left
   ·simp only [SX]
    rfl
   refine tk 2 105 ?_ (ms 21 287) rfl rfl HT_ HW_ (by kernel_rfl) (fun _ _ _ h => h) (by rfl) ?_ hHeld ?_ ?_ ?_
   rotate_left
   ·rintro w' ⟨s0, s1, s2⟩
    go_simp
    with_reducible rfl
   rotate_left
   ·simp only [SX]
    rfl
   refine tk 5 108 ?_ (ms 21 319) rfl rfl HT_ HW_ (by kernel_rfl) (fun _ _ _ h => h) (by rfl) ?_ hHeld ?_ ?_ ?_
   rotate_left
   ·rintro w' ⟨s0, s1, s2⟩
    go_simp
    with_reducible rfl
   rotate_left
   ·simp only [SX]
    rfl
   refine pu 6 109 ?_ (ms 21 383) rfl rfl HT_ (by kernel_rfl) (fun _ _ _ h => h) (by rfl) ?_ ?_ ?_ ?_
   rotate_left
   ·intro w'
    go_simp
    with_reducible rfl
   rotate_left
   ·simp only [SX]
    rfl
   refine tk 7 110 ?_ (ms 21 511) rfl rfl HT_ HW_ (by kernel_rfl) (fun _ _ _ h => h) (by rfl) ?_ hHeld ?_ ?_ ?_
   rotate_left
   ·rintro w' ⟨s0, s1, s2⟩
    go_simp
    with_reducible rfl
   rotate_left
   ·simp only [SX]
    rfl
   refine pu 9 112 ?_ (ms 21 1023) rfl rfl HT_ (by kernel_rfl) (fun _ _ _ h => h) (by rfl) ?_ ?_ ?_ ?_
   rotate_left
   ·intro w'
    go_simp
    with_reducible rfl
   rotate_left
   ·simp only [SX]
    rfl
   refine pu 10 113 ?_ (ms 21 2047) rfl rfl HT_ (by kernel_rfl) (fun _ _ _ h => h) (by rfl) ?_ ?_ ?_ ?_
   rotate_left
   ·intro w'
    go_simp
    with_reducible rfl
   rotate_left
   ·simp only [SX]
    rfl
   refine pu 11 114 ?_ (ms 21 4095) rfl rfl HT_ (by kernel_rfl) (fun _ _ _ h => h) (by rfl) ?_ ?_ ?_ ?_
   rotate_left
   ·intro w'
    go_simp
    with_reducible rfl
   rotate_left
   ·simp only [SX]
    rfl
   refine pu 12 115 ?_ (ms 21 8191) rfl rfl HT_ (by kernel_rfl) (fun _ _ _ h => h) (by rfl) ?_ ?_ ?_ ?_
   rotate_left
   ·intro w'
    go_simp
    with_reducible rfl
   rotate_left
   ·simp only [SX]
    rfl
   refine pu 13 116 ?_ (ms 21 16383) rfl rfl HT_ (by kernel_rfl) (fun _ _ _ h => h) (by rfl) ?_ ?_ ?_ ?_
   rotate_left
   ·intro w'
    go_simp
    with_reducible rfl
   rotate_left
   ·simp only [SX]
    rfl
   refine pu 14 117 ?_ (ms 21 32767) rfl rfl HT_ (by kernel_rfl) (fun _ _ _ h => h) (by rfl) ?_ ?_ ?_ ?_
   rotate_left
   ·intro w'
    go_simp
    with_reducible rfl
   rotate_left
   ·simp only [SX]
    rfl
   refine pu 15 118 ?_ (ms 21 65535) rfl rfl HT_ (by kernel_rfl) (fun _ _ _ h => h) (by rfl) ?_ ?_ ?_ ?_
   rotate_left
   ·intro w'
    go_simp
    with_reducible rfl
   rotate_left
   ·simp only [SX]
    rfl
   refine pu 16 119 ?_ (ms 21 131071) rfl rfl HT_ (by kernel_rfl) (fun _ _ _ h => h) (by rfl) ?_ ?_ ?_ ?_
   rotate_left
   ·intro w'
    go_simp
    with_reducible rfl
   rotate_left
   ·simp only [SX]
    rfl
   refine pu 17 120 ?_ (ms 21 262143) rfl rfl HT_ (by kernel_rfl) (fun _ _ _ h => h) (by rfl) ?_ ?_ ?_ ?_
   rotate_left
   ·intro w'
    go_simp
    with_reducible rfl
   rotate_left
   ·simp only [SX]
    rfl
   refine pu 18 121 ?_ (ms 21 524287) rfl rfl HT_ (by kernel_rfl) (fun _ _ _ h => h) (by rfl) ?_ ?_ ?_ ?_
   rotate_left
   ·intro w'
    go_simp
    with_reducible rfl
   rotate_left
   ·simp only [SX]
    rfl
   refine pu 19 122 ?_ (ms 21 1048575) rfl rfl HT_ (by kernel_rfl) (fun _ _ _ h => h) (by rfl) ?_ ?_ ?_ ?_
   rotate_left
   ·intro w'
    go_simp
    with_reducible rfl
   rotate_left
   ·simp only [SX]
    rfl
   refine pu 20 2 ?_ (ms 21 2097151) rfl rfl HT_ (by kernel_rfl) (fun _ _ _ h => h) (by rfl) ?_ ?_ ?_ ?_
   rotate_left
   ·intro w'
    go_simp
    with_reducible rfl
   rotate_left
   ·simp only [SX]
    rfl
   refine done_ (done_of HT_.out (by kernel_rfl)) ?_
   try go_wp2
   go_ret
   exact ⟨by rfl, bl1 HB GE418⟩

/-- THE ONE PURE STATEMENT of laws_FnSeenMore: yours. -/
def laws_FnSeenMore.Pure : Prop := ∀ (l0 : List Int), l0.length ≤ maxLen → l0.length * 1 ≤ 140737488351232 → (∀ x ∈ l0, (Lit.int .u8 x).wf = true) → ∃ k, laws_FnSeenMore.f k l0 = some true
theorem laws_FnSeenMore.walk (P : laws_FnSeenMore.Pure) (a0 : Option Addr) (len0 cap0 : Nat) (z0 : List Int) (w : World) (w0 : (a0 = none ∧ len0 = 0 ∧ cap0 = 0 ∧ z0 = []) ∨ ∃ x, a0 = some x ∧ len0 ≤ cap0 ∧ cap0 ≤ maxLen ∧ z0.length = cap0 ∧ (∀ i, i < z0.length → w.cell? (x.add i) = some (.int .u8 (z0.getD i 0))) ∧ ∀ n ∈ z0, (Lit.int .u8 n).wf = true) (y0 : len0 * 1 ≤ 140737488351232) :
  Calls Try.prog 9 #[.slice a0 len0 cap0] w fun e w' => e = .returned (.bool true) ∧ Below w.heap.size w w' := by
 obtain ⟨l0, rfl, hr0, hm0, hw0, hc0⟩ := ReadsInt.ofRowC w0
 obtain ⟨k, h⟩ := P l0 hm0 y0 hw0
 refine (laws_FnSeenMore.calls k _ _ l0 true w (Kd.C_of_reads (d := (0 : Int)) (h1 := fun _ => rfl) hr0) hc0 h rfl).mono ?_
 rintro e w' ⟨rfl, hd⟩
 exact ⟨rfl, hd⟩

end Go.Proofs.Ytgickejeakmenaa.F
