-- Printed by wip/px/px.py of this claim's repository (the kit's printer, extended there). Lean checks it.
import Derived.Test.YtjnbhieppghidaaFKinds
import Derived.Test.YtjnbhieppghidaaFspecDrawNearWalk
import Derived.Test.YtjnbhieppghidaaFimplNearWalk
import Derived.Test.YtjnbhieppghidaaFspecNearWalk
import Derived.Test.YtjnbhieppghidaaFwkNet
import Derived.Test.YtjnbhieppghidaaFimplWalkNodes
import Derived.Test.YtjnbhieppghidaaFimplSeenBest
import Derived.Test.YtjnbhieppghidaaFimplSeenCost
import Derived.Test.YtjnbhieppghidaaFimplWalkCost
namespace Go.Proofs.Ytjnbhieppghidaa.F
open Go.RowKit Go.Proofs.YtjnbhieppghidaaW.PrintWords Go.Proofs.YtjnbhieppghidaaW.PrintLast Go.Proofs.YtjnbhieppghidaaW.PrintMore
attribute [local go_sem] max2_int min2_int max_two min_two max_three min_three max_four min_four   -- for this text's walks alone
set_option linter.unusedVariables false
set_option linter.unusedSimpArgs false

/-! ### laws_FnSeenWay: function 3 -/
mutual
def laws_FnSeenWay.j0 : Nat → List Int → Bool → List Int → Bool → Bool → Int → List (S60) → Option (Bool)
 | 0, _, _, _, _, _, _, _ => none
 | k + 1, x6, x7, x8, x9, x58, x418000, x418001 => if x58 = true then (if (x7 == x9) = true then ((laws_wkInts.f k x6 x8).bind fun t427 => (some t427)) else (some false)) else ((impl_WalkNodes.f k x418000 x418001 x6).bind fun t428 => (laws_FnSeenWay.l0 k x6 t428 (([] : List (List Int))) 0 x418000 x418001))
def laws_FnSeenWay.l0 : Nat → List Int → List Int → List (List Int) → Int → Int → List (S60) → Option (Bool)
 | 0, _, _, _, _, _, _ => none
 | k + 1, x6, x10, x11, x12, x418000, x418001 => if x12 < (x10.length : Int) then (laws_FnSeenWay.l1 k x6 x10 x11 x12 (([] : List Int)) 0 x418000 x418001) else ((impl_SeenBest.f k x418000 x418001 x11).bind fun bt447 => ((impl_SeenCost.f k x418000 x418001 x11 x10).bind fun t451 => ((impl_WalkCost.f k x418000 x418001 x6).bind fun t452 => (if t451 = t452 then ((impl_WalkCost.f k x418000 x418001 x6).bind fun t453 => (some (decide (bt447.2 ≤ t453)))) else (some false)))))
def laws_FnSeenWay.l1 : Nat → List Int → List Int → List (List Int) → Int → List Int → Int → Int → List (S60) → Option (Bool)
 | 0, _, _, _, _, _, _, _, _ => none
 | k + 1, x6, x10, x11, x12, x13, x14, x418000, x418001 => if x14 < x418000 then (if 0 ≤ x12 then (if x12 < (x10.length : Int) then (if x14 = (rd x10 x12) then (if x13.length < 17592186044416 then (laws_FnSeenWay.l1 k x6 x10 x11 x12 (x13 ++ [0]) (wrap64 (x14 + 1)) x418000 x418001) else (none)) else (if x13.length < 17592186044416 then (laws_FnSeenWay.l1 k x6 x10 x11 x12 (x13 ++ [99]) (wrap64 (x14 + 1)) x418000 x418001) else (none))) else (none)) else (none)) else (if x11.length < 5864062014805 then (laws_FnSeenWay.l0 k x6 x10 (x11 ++ [x13]) (wrap64 (x12 + 1)) x418000 x418001) else (none))
end
def laws_FnSeenWay.f (k : Nat) (l0 : List Int) : Option (Bool) := if (l0.length : Int) > 1048576 then (some true) else ((spec_DrawNearWalk.f k l0).bind fun bt411 => ((impl_NearWalk.f k bt411.1 bt411.2.1 bt411.2.2.1 bt411.2.2.2).bind fun bt418 => ((spec_NearWalk.f k bt411.1 bt411.2.1 bt411.2.2.1 bt411.2.2.2).bind fun bt422 => (if (bt418.2 != bt422.2) = true then (laws_FnSeenWay.j0 k bt418.1 bt418.2 bt422.1 bt422.2 true bt411.1 bt411.2.1) else ((laws_wkInts.f k bt418.1 bt422.1).bind fun t426 => (if t426 = true then (if (bt418.1.length : Int) = 0 then (laws_FnSeenWay.j0 k bt418.1 bt418.2 bt422.1 bt422.2 true bt411.1 bt411.2.1) else (laws_FnSeenWay.j0 k bt418.1 bt418.2 bt422.1 bt422.2 (decide ((bt418.1.length : Int) ≥ 6)) bt411.1 bt411.2.1)) else (laws_FnSeenWay.j0 k bt418.1 bt418.2 bt422.1 bt422.2 true bt411.1 bt411.2.1)))))))
theorem laws_FnSeenWay.mono_l : ∀ k, (∀ y0 y1 y2 y3 y4 y5 y6, LeO (laws_FnSeenWay.j0 k y0 y1 y2 y3 y4 y5 y6) (laws_FnSeenWay.j0 (k + 1) y0 y1 y2 y3 y4 y5 y6)) ∧ (∀ y0 y1 y2 y3 y4 y5, LeO (laws_FnSeenWay.l0 k y0 y1 y2 y3 y4 y5) (laws_FnSeenWay.l0 (k + 1) y0 y1 y2 y3 y4 y5)) ∧ (∀ y0 y1 y2 y3 y4 y5 y6 y7, LeO (laws_FnSeenWay.l1 k y0 y1 y2 y3 y4 y5 y6 y7) (laws_FnSeenWay.l1 (k + 1) y0 y1 y2 y3 y4 y5 y6 y7))
 | 0 => ⟨fun _ _ _ _ _ _ _ r h => by simp [laws_FnSeenWay.j0] at h, fun _ _ _ _ _ _ r h => by simp [laws_FnSeenWay.l0] at h, fun _ _ _ _ _ _ _ _ r h => by simp [laws_FnSeenWay.l1] at h⟩
 | k + 1 => by
  obtain ⟨ih0, ih1, ih2⟩ := laws_FnSeenWay.mono_l k
  refine ⟨?_, ?_, ?_⟩
  ·intro y0 y1 y2 y3 y4 y5 y6
   unfold laws_FnSeenWay.j0
   repeat' first | (with_reducible exact ih1 _ _ _ _ _ _) | (with_reducible exact impl_WalkNodes.mono _ _ _ _) | (with_reducible exact laws_wkInts.mono _ _ _) | (with_reducible exact LeO.refl _) | (with_reducible refine LeO.ite ?_ ?_) | (with_reducible refine LeO.bind ?_ (fun _ => ?_))
  ·intro y0 y1 y2 y3 y4 y5
   unfold laws_FnSeenWay.l0
   repeat' first | (with_reducible exact ih2 _ _ _ _ _ _ _ _) | (with_reducible exact impl_SeenBest.mono _ _ _ _) | (with_reducible exact impl_SeenCost.mono _ _ _ _ _) | (with_reducible exact impl_WalkCost.mono _ _ _ _) | (with_reducible exact LeO.refl _) | (with_reducible refine LeO.ite ?_ ?_) | (with_reducible refine LeO.bind ?_ (fun _ => ?_))
  ·intro y0 y1 y2 y3 y4 y5 y6 y7
   unfold laws_FnSeenWay.l1
   repeat' first | (with_reducible exact ih1 _ _ _ _ _ _) | (with_reducible exact ih2 _ _ _ _ _ _ _ _) | (with_reducible exact LeO.refl _) | (with_reducible refine LeO.ite ?_ ?_)
theorem laws_FnSeenWay.mono : ∀ a0 k, LeO (laws_FnSeenWay.f k a0) (laws_FnSeenWay.f (k + 1) a0) := by
 intro a0 k
 obtain ⟨ih0, ih1, ih2⟩ := laws_FnSeenWay.mono_l k
 unfold laws_FnSeenWay.f
 repeat' first | (with_reducible exact ih0 _ _ _ _ _ _ _) | (with_reducible exact impl_NearWalk.mono _ _ _ _ _) | (with_reducible exact laws_wkInts.mono _ _ _) | (with_reducible exact spec_DrawNearWalk.mono _ _) | (with_reducible exact spec_NearWalk.mono _ _ _ _ _) | (with_reducible exact LeO.refl _) | (with_reducible refine LeO.ite ?_ ?_) | (with_reducible refine LeO.bind ?_ (fun _ => ?_))
def laws_FnSeenWay.T22 : Bool × List (List Nat × List Nat) := (true, [([], []), ([], []), ([], []), ([0, 1, 2], [0, 1, 2]), ([], []), ([], []), ([4, 5, 3], [4, 5]), ([3, 6], [3, 6]), ([7, 6], [7]), ([8], [8]), ([8], [8]), ([8], [8]), ([10, 11, 8, 8], [8, 10, 11]), ([9, 12, 8], [8, 9, 12]), ([8, 13], [8, 13]), ([14, 12, 0, 1, 2, 3, 4, 5, 6, 7, 8, 9, 10, 11, 12, 13, 14], [14])])
def laws_FnSeenWay.B22 : List Nat := [0, 0, 0, 7, 0, 0, 63, 127, 255, 511, 511, 511, 3583, 8191, 16383, 32767]
theorem laws_FnSeenWay.tab22 : rtab .any (opsOf Try.f3 22) = laws_FnSeenWay.T22 := by kernel_rfl
theorem laws_FnSeenWay.bits22 : waitsOk laws_FnSeenWay.T22.2 laws_FnSeenWay.B22 = true := by kernel_rfl
set_option maxHeartbeats 8000000 in
set_option maxRecDepth 100000 in
theorem laws_FnSeenWay.calls (k : Nat) (A0 : Option Addr) (c0 : Nat) (l0 : List Int) (r : Bool) (w : World) (hr0 : Kd.C (Kd.int .u8) w A0 l0.length l0) (hc0 : l0.length ≤ c0) (h : laws_FnSeenWay.f k l0 = some r) (hr_ : r = true) :
  Calls Try.prog 3 #[.slice A0 l0.length c0] w fun e w' => e = .returned (.bool r) ∧ Below w.heap.size w w' := by
 have hu25 := Try.underlying25
 have HR0 := ak hr0
 have HC0 := ak hc0
 clear hr0 hc0
 have HB := ak (Below.refl w.heap.size w)
 have H : (if (l0.length : Int) > 1048576 then (some true) else ((spec_DrawNearWalk.f k l0).bind fun bt411 => ((impl_NearWalk.f k bt411.1 bt411.2.1 bt411.2.2.1 bt411.2.2.2).bind fun bt418 => ((spec_NearWalk.f k bt411.1 bt411.2.1 bt411.2.2.1 bt411.2.2.2).bind fun bt422 => (if (bt418.2 != bt422.2) = true then (laws_FnSeenWay.j0 k bt418.1 bt418.2 bt422.1 bt422.2 true bt411.1 bt411.2.1) else ((laws_wkInts.f k bt418.1 bt422.1).bind fun t426 => (if t426 = true then (if (bt418.1.length : Int) = 0 then (laws_FnSeenWay.j0 k bt418.1 bt418.2 bt422.1 bt422.2 true bt411.1 bt411.2.1) else (laws_FnSeenWay.j0 k bt418.1 bt418.2 bt422.1 bt422.2 (decide ((bt418.1.length : Int) ≥ 6)) bt411.1 bt411.2.1)) else (laws_FnSeenWay.j0 k bt418.1 bt418.2 bt422.1 bt422.2 true bt411.1 bt411.2.1)))))))) = some r := h
 clear h
 by_cases c2 : (l0.length : Int) > 1048576
 ·rw [if_pos c2] at H
  have c2b0 : decide (1048576 < (l0.length : Int)) = true := decide_eq_true c2
  have c2b1 : decide (1048576 < l0.length) = true := decide_eq_true (by omega)
  clear c2
  obtain rfl := Option.some.inj H
  go_enter Try.func3, Try.ntmps3
  go_wp2
  go_ret
  exact ⟨by rfl, bl HB⟩
 rw [if_neg c2] at H
 have c2b0 : decide (1048576 < (l0.length : Int)) = false := decide_eq_false c2
 have c2b1 : decide (1048576 < l0.length) = false := decide_eq_false (by omega)
 clear c2
 replace H := Option.bind_eq_some_iff.mp H
 obtain ⟨⟨t411, t412, t415, t416⟩, A30, H⟩ := H
 have A3 := ak A30
 clear A30
 replace H := Option.bind_eq_some_iff.mp H
 obtain ⟨⟨t418, t421⟩, A40, H⟩ := H
 have A4 := ak A40
 clear A40
 replace H := Option.bind_eq_some_iff.mp H
 obtain ⟨⟨t422, t425⟩, A50, H⟩ := H
 have A5 := ak A50
 clear A50
 have HC6 := ak H
 clear H
 go_enter Try.func3, Try.ntmps3
 go_upto_region 6 with (first | ((with_reducible refine gate_callee (f := 4) rfl ?_); refine goesL_ (some 22) rfl rfl Try.func4 (by kernel_rfl) rfl #[.slice A0 l0.length c0] rfl (by (try simp only [List.map_toArray, List.map_cons, List.map_nil]); rfl) ?_; (with_reducible refine (spec_DrawNearWalk.calls k _ _ l0 t411 t412 t415 t416 _ ?side1 ?side2 A3.out).mono ?_); (case side1 => repeat (exact HR0.out)); (case side2 => exact HC0.out); rintro e w7 ⟨v413, rfl, ho0, hb⟩; refine ⟨_, rfl, ?_⟩; have HO414 := ak (Kd.R_lower ho0 (below_size (bl HB))); replace HB := ak (below_step (bl HB) hb); (try clear hb); (try clear hb2); (try clear hk); (try clear hi); (try clear ho0)) | ((with_reducible refine gate_dst (N := 3) rfl ?_); refine box_event ?hg (N := 3) ?hd (cs := #[.int .i64 0, .slice none 0 0]) (t := 25) ?hr ?_; (case hd => rfl); (case hg => rfl); (case hr => (go_simp; done)); intro gb417 hg w8 hbox hb; replace HO414 := ak (Kd.R_below (rk HO414) hb); have BK417 := ak (hbox); have GW417 := ak ((by rw [hg]; exact (below_size (bl HB)) : w.heap.size ≤ gb417)); have GE417 := ak ((by rw [hg]; exact (below_size (bl HB)) : w.heap.size ≤ gb417)); replace HB := ak (below_step (bl HB) hb); clear hb hbox hg; have hcz9_0 := bc w8 BK417 0 (.int .i64 0) rfl; have hcz9_1 := bc w8 BK417 1 (.slice none 0 0) rfl; have hfz9_0 := fz BK417 0; have hfz9_1 := fz BK417 1; obtain ⟨Ao10, co10, eo10⟩ := Kd.R_slice HO414.out; subst eo10) | ((with_reducible refine gate_callee (f := 5) rfl ?_); refine goesL_ (some 30) rfl rfl Try.func5 (by kernel_rfl) rfl #[.agg #[.int .i64 t411, .slice Ao10 t412.length co10], .int .i64 t415, .int .i64 t416] rfl (by (try simp only [List.map_toArray, List.map_cons, List.map_nil]); rfl) ?_; (with_reducible refine (impl_NearWalk.calls k t411 _ _ t412 t415 t416 t418 t421 _ ?side1 ?side2 A4.out).mono ?_); (case side1 => refine (Kd.R_reads' (e := 60) (base := w.heap.size) (ok := fun k_ => True) (n := t412.length) (c := co10) ?_).2.2; exact (by exact (Kd.R_mono (Kd.R_far (p := ⟨gb417, 1, none⟩) (Kd.R_far (p := ⟨gb417, 0, none⟩) (Kd.R_types HO414.out BK417.out (by decide)) (fun _ hk => hk.2) (.int .i64 t411)) (fun _ hk => hk.2) (.slice Ao10 t412.length co10)) (fun _ h_ => h_.1)))); (case side2 => exact (Kd.R_reads' HO414.out).2.1); rintro e w11 ⟨v419, rfl, ho0, hb⟩; refine ⟨_, rfl, ?_⟩; replace HO414 := ak (Kd.R_below (by exact (Kd.R_mono (Kd.R_far (p := ⟨gb417, 1, none⟩) (Kd.R_far (p := ⟨gb417, 0, none⟩) (Kd.R_types HO414.out BK417.out (by decide)) (fun _ hk => hk.2) (.int .i64 t411)) (fun _ hk => hk.2) (.slice Ao10 t412.length co10)) (fun _ h_ => h_.1))) hb); have HO420 := ak (Kd.R_lower ho0 (below_size (bl1 HB GE417))); replace BK417 := ak (blk_below (g := gb417) (o := .cells #[.int .i64 t411, .slice Ao10 t412.length co10] 25 (0, 0)) (by refine blk_put (cs := #[.int .i64 t411, .slice none 0 0]) ?_ 1 _ rfl; refine blk_put (cs := #[.int .i64 0, .slice none 0 0]) ?_ 0 _ rfl; exact BK417.out) hb); replace HB := ak (below_step (bl1 HB GE417) hb); (try clear hb); (try clear hb2); (try clear hk); (try clear hi); (try clear ho0); have hcz12_0 := bc w11 BK417 0 (.int .i64 t411) rfl; have hcz12_1 := bc w11 BK417 1 (.slice Ao10 t412.length co10) rfl; have hfz12_0 := fz BK417 0; have hfz12_1 := fz BK417 1) | ((with_reducible refine gate_callee (f := 6) rfl ?_); refine goesL_ (some 37) rfl rfl Try.func6 (by kernel_rfl) rfl #[.agg #[.int .i64 t411, .slice Ao10 t412.length co10], .int .i64 t415, .int .i64 t416] rfl (by (try simp only [List.map_toArray, List.map_cons, List.map_nil]); rfl) ?_; (with_reducible refine (spec_NearWalk.calls k t411 _ _ t412 t415 t416 t422 t425 _ ?side1 ?side2 A5.out).mono ?_); (case side1 => repeat (exact (Kd.R_reads' HO414.out).2.2)); (case side2 => exact (Kd.R_reads' HO414.out).2.1); rintro e w13 ⟨v423, rfl, ho0, hb⟩; refine ⟨_, rfl, ?_⟩; replace HO414 := ak (Kd.R_below (rk HO414) hb); have HO424 := ak (Kd.R_lower (Kd.R_new' ho0 (Kd.R_lt (rk HO420))) (below_size (bl1 HB GE417))); replace HO420 := ak (Kd.R_elder' (rk HO420) (Kd.R_base ho0) hb); replace BK417 := ak (blk_below (bk BK417) hb); replace HB := ak (below_step (bl1 HB GE417) hb); (try clear hb); (try clear hb2); (try clear hk); (try clear hi); (try clear ho0)))
 (try simp only [Act.put, List.setIfInBounds_toArray, List.set_cons_zero, List.set_cons_succ])
 go_cut [58] (fun v58 wc => ∃ (kq : Nat) (x58_5 : Bool), v58 = .bool x58_5 ∧ Aside0 (laws_FnSeenWay.j0 kq t418 t421 t422 t425 x58_5 t411 t412 = some r) ∧ Aside0 (kq ≤ k) ∧ Aside0 (Kd.R (Kd.int .i64) 3 wc w.heap.size (fun k_ => some k_ ≠ (v423 : Value).ownBlock) v419 t418) ∧ Aside0 (Kd.R (Kd.int .i64) 3 wc w.heap.size (fun k_ => some k_ ≠ (v419 : Value).ownBlock) v423 t422) ∧ Aside0 (Kd.R k60 60 wc w.heap.size (fun _ => True) (.slice Ao10 t412.length co10) t412) ∧ Aside0 (wc.heap[gb417]? = some (.cells #[.int .i64 t411, (.slice Ao10 t412.length co10)] 25 (0, 0))) ∧ Aside0 (Below w.heap.size w wc))
 case first =>
  have H := HC6.out
  clear HC6
  by_cases c14 : (t421 != t425) = true
  ·rw [if_pos c14] at H
   have c14b0 : (t421 != t425) = true := c14
   (try (have c14b1 : decide (t421 = t425) = false := by simpa using c14))
   (try (have c14b2 : (t421 == t425) = false := by simpa using c14))
   (try (have c14b3 : ¬ (t421 = t425) := by simpa using c14))
   clear c14
   (skip)
   have H' := ak H
   clear H
   go_wp2
   go_meet
   case rel => exact ⟨_, (true), (by rfl), H', ⟨by omega⟩, ⟨by exact Kd.R_mono HO420.out (fun _ hk => hk.2)⟩, ⟨by exact Kd.R_mono HO424.out (fun _ hk => hk.2)⟩, ⟨rk HO414⟩, ⟨bk BK417⟩, ⟨bl1 HB GE417⟩⟩
  rw [if_neg c14] at H
  have c14b0 : (t421 != t425) = false := by simpa using c14
  (try (have c14b1 : decide (t421 = t425) = true := by simpa using c14))
  (try (have c14b2 : (t421 == t425) = true := by simpa using c14))
  clear c14
  (skip)
  replace H := Option.bind_eq_some_iff.mp H
  obtain ⟨t426, A150, H⟩ := H
  have A15 := ak A150
  clear A150
  by_cases c16 : t426 = true
  rotate_left
  ·replace c16 := Bool.eq_false_iff.mpr c16
   subst c16
   rw [if_neg (show ¬ (false = true) by decide)] at H
   have H' := ak H
   clear H
   obtain ⟨Ao22, co22, eo22⟩ := Kd.R_slice HO420.out
   subst eo22
   obtain ⟨Ao23, co23, eo23⟩ := Kd.R_slice HO424.out
   subst eo23
   go_wp2_with ((go_at_call 7; (with_reducible refine (laws_wkInts.calls k _ _ t418 _ _ t422 false _ ?side1 ?side2 ?side3 ?side4 A15.out).mono ?_); (case side1 => repeat (exact (Kd.R_reads' HO420.out).2.2)); (case side2 => exact (Kd.R_reads' HO420.out).2.1); (case side3 => repeat (exact (Kd.R_reads' HO424.out).2.2)); (case side4 => exact (Kd.R_reads' HO424.out).2.1); rintro e w' ⟨rfl, ⟨nd, rfl⟩⟩))
   go_meet
   case rel => exact ⟨_, (true), (by rfl), H', ⟨by omega⟩, ⟨by (with_reducible repeat (apply Kd.R_drewN)); exact Kd.R_mono HO420.out (fun _ hk => hk.2)⟩, ⟨by (with_reducible repeat (apply Kd.R_drewN)); exact Kd.R_mono HO424.out (fun _ hk => hk.2)⟩, ⟨rk HO414⟩, ⟨bk BK417⟩, ⟨bl1 HB GE417⟩⟩
  subst c16
  rw [if_pos rfl] at H
  by_cases c17 : (t418.length : Int) = 0
  ·rw [if_pos c17] at H
   have c17b0 : ((t418.length : Int) == 0) = true := beq_iff_eq.mpr c17
   have c17b1 : ((t418.length : Int) != 0) = false := bne_eq_false_iff_eq.mpr c17
   clear c17
   have H' := ak H
   clear H
   obtain ⟨Ao18, co18, eo18⟩ := Kd.R_slice HO420.out
   subst eo18
   obtain ⟨Ao19, co19, eo19⟩ := Kd.R_slice HO424.out
   subst eo19
   go_wp2_with ((go_at_call 7; (with_reducible refine (laws_wkInts.calls k _ _ t418 _ _ t422 true _ ?side1 ?side2 ?side3 ?side4 A15.out).mono ?_); (case side1 => repeat (exact (Kd.R_reads' HO420.out).2.2)); (case side2 => exact (Kd.R_reads' HO420.out).2.1); (case side3 => repeat (exact (Kd.R_reads' HO424.out).2.2)); (case side4 => exact (Kd.R_reads' HO424.out).2.1); rintro e w' ⟨rfl, ⟨nd, rfl⟩⟩))
   go_meet
   case rel => exact ⟨_, (true), (by rfl), H', ⟨by omega⟩, ⟨by (with_reducible repeat (apply Kd.R_drewN)); exact Kd.R_mono HO420.out (fun _ hk => hk.2)⟩, ⟨by (with_reducible repeat (apply Kd.R_drewN)); exact Kd.R_mono HO424.out (fun _ hk => hk.2)⟩, ⟨rk HO414⟩, ⟨bk BK417⟩, ⟨bl1 HB GE417⟩⟩
  rw [if_neg c17] at H
  have c17b0 : ((t418.length : Int) == 0) = false := beq_eq_false_iff_ne.mpr c17
  have c17b1 : ((t418.length : Int) != 0) = true := bne_iff_ne.mpr c17
  have c17b2 : ¬ (t418 = []) := fun h_ => c17 (by rw [h_]; rfl)
  have H' := ak H
  clear H
  obtain ⟨Ao20, co20, eo20⟩ := Kd.R_slice HO420.out
  subst eo20
  obtain ⟨Ao21, co21, eo21⟩ := Kd.R_slice HO424.out
  subst eo21
  go_wp2_with ((go_at_call 7; (with_reducible refine (laws_wkInts.calls k _ _ t418 _ _ t422 true _ ?side1 ?side2 ?side3 ?side4 A15.out).mono ?_); (case side1 => repeat (exact (Kd.R_reads' HO420.out).2.2)); (case side2 => exact (Kd.R_reads' HO420.out).2.1); (case side3 => repeat (exact (Kd.R_reads' HO424.out).2.2)); (case side4 => exact (Kd.R_reads' HO424.out).2.1); rintro e w' ⟨rfl, ⟨nd, rfl⟩⟩))
  go_meet
  case rel => exact ⟨_, (decide ((t418.length : Int) ≥ 6)), (by rfl), H', ⟨by omega⟩, ⟨by (with_reducible repeat (apply Kd.R_drewN)); exact Kd.R_mono HO420.out (fun _ hk => hk.2)⟩, ⟨by (with_reducible repeat (apply Kd.R_drewN)); exact Kd.R_mono HO424.out (fun _ hk => hk.2)⟩, ⟨rk HO414⟩, ⟨bk BK417⟩, ⟨bl1 HB GE417⟩⟩
 clear HC6
 try clear c1
 try clear c2
 try clear c2b0
 try clear c2b1
 try clear p2
 try clear c3
 try clear c4
 try clear c5
 try clear c6
 try clear c14
 try clear c14b0
 try clear c14b1
 try clear c14b2
 try clear c16
 try clear c17
 try clear c17b0
 try clear c17b1
 try clear c17b2
 try clear hcz12_0
 try clear hcz12_1
 try clear hcz9_0
 try clear hcz9_1
 try clear hfz12_0
 try clear hfz12_1
 try clear hfz9_0
 try clear hfz9_1
 obtain ⟨kq, x58_5, rfl, HA, HJ5, HO_6, HO_8, HO_418001, BK417, HB⟩ := hcut
 cases kq with
 | zero => exact absurd HA.out (by simp [laws_FnSeenWay.j0])
 | succ kj5 =>
  have H := HA.out
  clear HA
  simp only [laws_FnSeenWay.j0] at H
  by_cases c24 : x58_5 = true
  ·subst c24
   rw [if_pos rfl] at H
   by_cases c25 : (t421 == t425) = true
   rotate_left
   ·rw [if_neg c25] at H
    have c25b0 : (t421 == t425) = false := by simpa using c25
    (try (have c25b1 : decide (t421 = t425) = false := by simpa using c25))
    (try (have c25b2 : (t421 == t425) = false := by simpa using c25))
    (try (have c25b3 : ¬ (t421 = t425) := by simpa using c25))
    clear c25
    exact absurd ((Option.some.inj H).trans hr_) Bool.false_ne_true
   rw [if_pos c25] at H
   have c25b0 : (t421 == t425) = true := c25
   (try (have c25b1 : decide (t421 = t425) = true := by simpa using c25))
   (try (have c25b2 : (t421 == t425) = true := by simpa using c25))
   clear c25
   replace H := Option.bind_eq_some_iff.mp H
   obtain ⟨t427, A260, H⟩ := H
   have A26 := ak A260
   clear A260
   obtain rfl := Option.some.inj H
   obtain ⟨Ao27, co27, eo27⟩ := Kd.R_slice HO_6.out
   subst eo27
   obtain ⟨Ao28, co28, eo28⟩ := Kd.R_slice HO_8.out
   subst eo28
   go_wp2_with ((go_at_call 7; (with_reducible refine (laws_wkInts.calls kj5 _ _ t418 _ _ t422 t427 _ ?side1 ?side2 ?side3 ?side4 A26.out).mono ?_); (case side1 => repeat (exact (Kd.R_reads' HO_6.out).2.2)); (case side2 => exact (Kd.R_reads' HO_6.out).2.1); (case side3 => repeat (exact (Kd.R_reads' HO_8.out).2.2)); (case side4 => exact (Kd.R_reads' HO_8.out).2.1); rintro e w' ⟨rfl, ⟨nd, rfl⟩⟩))
   go_ret
   exact ⟨by (simp [*, errW_none, errW_some] <;> rfl), bl1 HB GE417⟩
  replace c24 := Bool.eq_false_iff.mpr c24
  subst c24
  rw [if_neg (show ¬ (false = true) by decide)] at H
  replace H := Option.bind_eq_some_iff.mp H
  obtain ⟨t428, A290, H⟩ := H
  have A29 := ak A290
  clear A290
  obtain ⟨y431, hy431⟩ : ∃ y_ : List (List Int), y_ = (([] : List (List Int))) := ⟨_, rfl⟩
  replace H : (laws_FnSeenWay.l0 kj5 t418 t428 y431 0 t411 t412) = some r := by (rw [hy431]; with_reducible exact H)
  have Ny431 := ak hy431
  clear hy431
  have H' := ak H
  clear H
  have hcz30_0 := bc wc BK417 0 (.int .i64 t411) rfl
  have hcz30_1 := bc wc BK417 1 (.slice Ao10 t412.length co10) rfl
  have hfz30_0 := fz BK417 0
  have hfz30_1 := fz BK417 1
  obtain ⟨Ao31, co31, eo31⟩ := Kd.R_slice HO_6.out
  subst eo31
  go_wp2_with (first | ((with_reducible refine gate_callee (f := 8) rfl ?_); refine goesL_ (some 69) rfl rfl Try.func8 (by kernel_rfl) rfl #[.agg #[.int .i64 t411, .slice Ao10 t412.length co10], .slice Ao31 t418.length co31] rfl (by (try simp only [List.map_toArray, List.map_cons, List.map_nil]); rfl) ?_; (with_reducible refine (impl_WalkNodes.calls kj5 t411 _ _ t412 _ _ t418 t428 _ ?side1 ?side2 ?side3 ?side4 A29.out).mono ?_); (case side1 => repeat (exact (Kd.R_reads' HO_418001.out).2.2)); (case side2 => exact (Kd.R_reads' HO_418001.out).2.1); (case side3 => repeat (exact (Kd.R_reads' HO_6.out).2.2)); (case side4 => exact (Kd.R_reads' HO_6.out).2.1); rintro e w32 ⟨v429, rfl, ho0, hb⟩; refine ⟨_, rfl, ?_⟩; replace HO_418001 := ak (Kd.R_below (rk HO_418001) hb); have HO430 := ak (Kd.R_lower (Kd.R_new' (Kd.R_new' ho0 (Kd.R_lt (rk HO_6))) (Kd.R_lt (rk HO_8))) (below_size (bl1 HB GE417))); replace HO_6 := ak (Kd.R_elder' (rk HO_6) (Kd.R_base ho0) hb); replace HO_8 := ak (Kd.R_elder' (rk HO_8) (Kd.R_base ho0) hb); replace BK417 := ak (blk_below (bk BK417) hb); replace HB := ak (below_step (bl1 HB GE417) hb); (try clear hb); (try clear hb2); (try clear hk); (try clear hi); (try clear ho0)) | ((with_reducible refine gate_dst (N := 70) rfl ?_); refine Kd.S_lit (Kd.slice 3 (Kd.int .i64)) _ 28 ?hg (N := 70) ?hd (xs := ([] : List (List Int))) (inner := []) (ok := fun _ => True) (okp := fun _ => True) ?hr ?hp (fun _ hk => hk) trivial (Below.refl _ _) (Nat.le_refl _) (by simp) ?_; (case hd => rfl); (case hg => rfl); (case hr => (go_simp; done)); (case hp => exact (Reps.none _ _)); intro v432 w33 ho34 hb hg_ hnew_; clear hg_ hnew_; (rw [← Ny431.out] at ho34); replace HO_418001 := ak (Kd.R_below (rk HO_418001) hb); have HO433 := ak (Kd.S_lower (Kd.S_new' (Kd.S_new' (Kd.S_new' ho34 (Kd.R_lt (rk HO_6))) (Kd.R_lt (rk HO_8))) (Kd.R_lt (rk HO430))) (below_size (bl1 HB GE417))); replace HO_6 := ak (Kd.R_below (rk HO_6) hb); replace HO_8 := ak (Kd.R_below (rk HO_8) hb); replace HO430 := ak (Kd.R_below (rk HO430) hb); replace BK417 := ak (blk_below (bk BK417) hb); replace HB := ak (below_step (bl1 HB GE417) hb); clear hb ho34))
  go_loopg [11, 12] kj5 (fun kq v11 v12 w' => ∃ (x11_2 : List (List Int)) (x12_2 : Int), v12 = .int .i64 x12_2 ∧ Aside0 (laws_FnSeenWay.l0 kq t418 t428 x11_2 x12_2 t411 t412 = some r) ∧ Aside0 (kq ≤ kj5) ∧ Aside0 (Kd.R (Kd.int .i64) 3 w' w.heap.size (fun k_ => some k_ ≠ (v429 : Value).ownBlock) (.slice Ao31 t418.length co31) t418) ∧ Aside0 (Kd.R (Kd.int .i64) 3 w' w.heap.size (fun k_ => some k_ ≠ ((.slice Ao31 t418.length co31) : Value).ownBlock) v429 t428) ∧ Aside0 (Kd.S (Kd.slice 3 (Kd.int .i64)) 28 w' w.heap.size (fun k_ => some k_ ≠ ((.slice Ao31 t418.length co31) : Value).ownBlock ∧ some k_ ≠ (v429 : Value).ownBlock) v11 x11_2) ∧ Aside0 (Kd.R k60 60 w' w.heap.size (fun _ => True) (.slice Ao10 t412.length co10) t412) ∧ Aside0 (w'.heap[gb417]? = some (.cells #[.int .i64 t411, (.slice Ao10 t412.length co10)] 25 (0, 0))) ∧ Aside0 (Below w.heap.size w w'))
  case atStart => exact ⟨(y431), (0), (by rfl), H', ⟨Nat.le_refl _⟩, ⟨by exact Kd.R_mono HO_6.out (fun _ hk => hk.2)⟩, ⟨by exact Kd.R_mono HO430.out (fun _ hk => hk.1.2)⟩, ⟨by exact Kd.S_mono HO433.out (fun _ hk => ⟨hk.1.1.2, hk.2⟩)⟩, ⟨rk HO_418001⟩, ⟨bk BK417⟩, ⟨bl1 HB GE417⟩⟩
  clear H'
  try clear c1
  try clear c2
  try clear c2b0
  try clear c2b1
  try clear p2
  try clear c3
  try clear c4
  try clear c5
  try clear c6
  try clear c8
  try clear c14
  try clear c14b0
  try clear c14b1
  try clear c14b2
  try clear c16
  try clear c17
  try clear c17b0
  try clear c17b1
  try clear c17b2
  try clear c24
  try clear c25
  try clear c25b0
  try clear c25b1
  try clear c25b2
  try clear hcz12_0
  try clear hcz12_1
  try clear hcz30_0
  try clear hcz30_1
  try clear hcz9_0
  try clear hcz9_1
  try clear hfz12_0
  try clear hfz12_1
  try clear hfz30_0
  try clear hfz30_1
  try clear hfz9_0
  try clear hfz9_1
  try clear p2
  obtain ⟨x11_2, x12_2, rfl, HA, HK2, HO_6, HO_10, HO_11, HO_418001, BK417, HB⟩ := hrel
  cases gk with
  | zero => exact absurd HA.out (by simp [laws_FnSeenWay.l0])
  | succ k2 =>
   have H := HA.out
   clear HA
   simp only [laws_FnSeenWay.l0] at H
   by_cases c35 : x12_2 < (t428.length : Int)
   rotate_left
   ·rw [if_neg c35] at H
    have c35b0 : decide (x12_2 < (t428.length : Int)) = false := decide_eq_false c35
    clear c35
    replace H := Option.bind_eq_some_iff.mp H
    obtain ⟨⟨t447, t450⟩, A530, H⟩ := H
    have A53 := ak A530
    clear A530
    replace H := Option.bind_eq_some_iff.mp H
    obtain ⟨t451, A540, H⟩ := H
    have A54 := ak A540
    clear A540
    replace H := Option.bind_eq_some_iff.mp H
    obtain ⟨t452, A550, H⟩ := H
    have A55 := ak A550
    clear A550
    by_cases c56 : t451 = t452
    rotate_left
    ·rw [if_neg c56] at H
     have c56b0 : (t451 == t452) = false := beq_eq_false_iff_ne.mpr c56
     have c56b1 : (t451 != t452) = true := bne_iff_ne.mpr c56
     exact absurd ((Option.some.inj H).trans hr_) Bool.false_ne_true
    rw [if_pos c56] at H
    have c56b0 : (t451 == t452) = true := beq_iff_eq.mpr c56
    have c56b1 : (t451 != t452) = false := bne_eq_false_iff_eq.mpr c56
    clear c56
    replace H := Option.bind_eq_some_iff.mp H
    obtain ⟨t453, A570, H⟩ := H
    have A57 := ak A570
    clear A570
    obtain rfl := Option.some.inj H
    obtain ⟨Ao58, co58, eo58⟩ := Kd.R_slice HO_10.out
    subst eo58
    have hcz59_0 := bc wr BK417 0 (.int .i64 t411) rfl
    have hcz59_1 := bc wr BK417 1 (.slice Ao10 t412.length co10) rfl
    have hfz59_0 := fz BK417 0
    have hfz59_1 := fz BK417 1
    obtain ⟨Ao60, co60, eo60⟩ := Kd.S_slice HO_11.out
    subst eo60
    try go_wp2_with (((with_reducible refine gate_callee (f := 9) rfl ?_); refine goesL_ (some 103) rfl rfl Try.func9 (by kernel_rfl) rfl #[.agg #[.int .i64 t411, .slice Ao10 t412.length co10], .slice Ao60 x11_2.length co60] rfl (by (try simp only [List.map_toArray, List.map_cons, List.map_nil]); rfl) ?_; (with_reducible refine (impl_SeenBest.calls k2 t411 _ _ t412 _ _ x11_2 t447 t450 _ ?side1 ?side2 ?side3 ?side4 A53.out).mono ?_); (case side1 => repeat (exact (Kd.R_reads' HO_418001.out).2.2)); (case side2 => exact (Kd.R_reads' HO_418001.out).2.1); (case side3 => repeat (exact (Kd.S_reads' HO_11.out).2.2)); (case side4 => exact (Kd.S_reads' HO_11.out).2.1); rintro e w61 ⟨v448, rfl, ho0, hb⟩; refine ⟨_, rfl, ?_⟩; replace HO_11 := ak (Kd.S_elder' (by exact HO_11.out) (Kd.R_base ho0) hb); replace HO_418001 := ak (Kd.R_below (rk HO_418001) hb); have HO449 := ak (Kd.R_lower (Kd.R_new' (Kd.R_new' ho0 (Kd.R_lt (rk HO_6))) (Kd.R_lt (rk HO_10))) (below_size (bl1 HB GE417))); replace HO_6 := ak (Kd.R_elder' (rk HO_6) (Kd.R_base ho0) hb); replace HO_10 := ak (Kd.R_elder' (rk HO_10) (Kd.R_base ho0) hb); replace BK417 := ak (blk_below (bk BK417) hb); replace HB := ak (below_step (bl1 HB GE417) hb); (try clear hb); (try clear hb2); (try clear hk); (try clear hi); (try clear ho0)))
    replace HO_6 := ak (Kd.R_drew HO_6.out)
    replace HO_10 := ak (Kd.R_drew HO_10.out)
    replace HO_11 := ak (Kd.S_drew HO_11.out)
    replace HO_418001 := ak (Kd.R_drew HO_418001.out)
    replace HO449 := ak (Kd.R_drew HO449.out)
    replace BK417 := ak (blk_drew BK417.out)
    replace HB := ak (below_drew1 HB.out)
    refine start_ (n := 16) (S := fun w' => w'.cell? ⟨gb417, 0, none⟩ = some (.int .i64 t411) ∧ w'.cell? ⟨gb417, 1, none⟩ = some (.slice Ao10 t412.length co10)) (ds := []) (ms 16 0) (by kernel_rfl) rfl (by kernel_rfl) ⟨(blk_cell BK417.out 0).trans rfl, (blk_cell BK417.out 1).trans rfl⟩ (fun hHeld => ?_); refine with_tabW laws_FnSeenWay.tab22 laws_FnSeenWay.bits22 (fun HT_ HW_ => ?_)
    generalize w61.drew = w62 at HO_6 HO_10 HO_11 HO_418001 HO449 BK417 HB hHeld ⊢
    refine pu 1 107 ?_ (ms 16 2) rfl rfl HT_ (by kernel_rfl) (fun _ _ _ h => h) (by rfl) ?_ ?_ ?_ ?_
    rotate_left
    ·intro w'
     go_simp
     with_reducible rfl
    rotate_left
    ·simp only [SX]
     rfl
    refine pu 2 108 ?_ (ms 16 6) rfl rfl HT_ (by kernel_rfl) (fun _ _ _ h => h) (by rfl) ?_ ?_ ?_ ?_
    rotate_left
    ·intro w'
     go_simp
     with_reducible rfl
    rotate_left
    ·simp only [SX]
     rfl
    refine pu 5 111 ?_ (ms 16 38) rfl rfl HT_ (by kernel_rfl) (fun _ _ _ h => h) (by rfl) ?_ ?_ ?_ ?_
    rotate_left
    ·intro w'
     go_simp
     with_reducible rfl
    rotate_left
    ·simp only [SX]
     rfl
    refine tk 0 106 ?_ (ms 16 39) rfl rfl HT_ HW_ (by kernel_rfl) (fun _ _ _ h => h) (by rfl) ?_ hHeld ?_ ?_ ?_
    rotate_left
    ·rintro w' ⟨s0, s1⟩
     go_simp
     with_reducible rfl
    rotate_left
    ·simp only [SX]
     rfl
    refine tk 4 110 ?_ (ms 16 55) rfl rfl HT_ HW_ (by kernel_rfl) (fun _ _ _ h => h) (by rfl) ?_ hHeld ?_ ?_ ?_
    rotate_left
    ·rintro w' ⟨s0, s1⟩
     go_simp
     with_reducible rfl
    rotate_left
    ·simp only [SX]
     rfl
    refine one_ (i := 3) (N := some 109) (ms 16 63) rfl rfl (one_of HT_.out (by kernel_rfl)) (by decide) (fun K hK => ?_)
    refine goes_ Try.func10 (by kernel_rfl) rfl #[.agg #[.int .i64 t411, .slice Ao10 t412.length co10], .slice Ao60 x11_2.length co60, .slice Ao58 t428.length co58] (by rfl) rfl rfl (by (try simp only [List.map_toArray, List.map_cons, List.map_nil]); rfl) ?_
    with_reducible refine (impl_SeenCost.calls k2 t411 _ _ t412 _ _ x11_2 _ _ t428 t451 _ ?side1 ?side2 ?side3 ?side4 ?side5 ?side6 A54.out).mono ?_
    (case side1 => repeat (exact (Kd.R_reads' HO_418001.out).2.2))
    (case side2 => exact (Kd.R_reads' HO_418001.out).2.1)
    (case side3 => repeat (exact (Kd.S_reads' HO_11.out).2.2))
    (case side4 => exact (Kd.S_reads' HO_11.out).2.1)
    (case side5 => repeat (exact (Kd.R_reads' HO_10.out).2.2))
    (case side6 => exact (Kd.R_reads' HO_10.out).2.1)
    rintro e w63 ⟨rfl, hb⟩
    refine ⟨_, rfl, ?_⟩
    replace HO_6 := ak (Kd.R_below (rk HO_6) hb)
    replace HO_10 := ak (Kd.R_below (rk HO_10) hb)
    replace HO_11 := ak (Kd.S_below (by exact HO_11.out) hb)
    replace HO_418001 := ak (Kd.R_below (rk HO_418001) hb)
    replace HO449 := ak (Kd.R_below (rk HO449) hb)
    replace BK417 := ak (blk_below (bk BK417) hb)
    replace HB := ak (below_step (bl1 HB GE417) hb)
    (try clear hb)
    (try clear hb2)
    (try clear hk)
    (try clear hi)
    refine hK.out _ _ ⟨(blk_cell BK417.out 0).trans rfl, (blk_cell BK417.out 1).trans rfl⟩ (fun hHeld => ?_)
    clear hK K
    refine norm_ (a' := ?_) ?_ ?_
    rotate_left
    ·show Act.put _ (some 109) _ = _
     simp only [SX]
     rfl
    refine one_ (i := 6) (N := some 112) (ms 16 127) rfl rfl (one_of HT_.out (by kernel_rfl)) (by decide) (fun K hK => ?_)
    refine goes_ Try.func11 (by kernel_rfl) rfl #[.agg #[.int .i64 t411, .slice Ao10 t412.length co10], .slice Ao31 t418.length co31] (by rfl) rfl rfl (by (try simp only [List.map_toArray, List.map_cons, List.map_nil]); rfl) ?_
    with_reducible refine (impl_WalkCost.calls k2 t411 _ _ t412 _ _ t418 t452 _ ?side1 ?side2 ?side3 ?side4 A55.out).mono ?_
    (case side1 => repeat (exact (Kd.R_reads' HO_418001.out).2.2))
    (case side2 => exact (Kd.R_reads' HO_418001.out).2.1)
    (case side3 => repeat (exact (Kd.R_reads' HO_6.out).2.2))
    (case side4 => exact (Kd.R_reads' HO_6.out).2.1)
    rintro e w64 ⟨rfl, hb⟩
    refine ⟨_, rfl, ?_⟩
    replace HO_6 := ak (Kd.R_below (rk HO_6) hb)
    replace HO_10 := ak (Kd.R_below (rk HO_10) hb)
    replace HO_11 := ak (Kd.S_below (by exact HO_11.out) hb)
    replace HO_418001 := ak (Kd.R_below (rk HO_418001) hb)
    replace HO449 := ak (Kd.R_below (rk HO449) hb)
    replace BK417 := ak (blk_below (bk BK417) hb)
    replace HB := ak (below_step (bl1 HB GE417) hb)
    (try clear hb)
    (try clear hb2)
    (try clear hk)
    (try clear hi)
    refine hK.out _ _ ⟨(blk_cell BK417.out 0).trans rfl, (blk_cell BK417.out 1).trans rfl⟩ (fun hHeld => ?_)
    clear hK K
    refine norm_ (a' := ?_) ?_ ?_
    rotate_left
    ·show Act.put _ (some 112) _ = _
     simp only [SX]
     rfl
    refine pu 7 113 ?_ (ms 16 255) rfl rfl HT_ (by kernel_rfl) (fun _ _ _ h => h) (by rfl) ?_ ?_ ?_ ?_
    rotate_left
    ·intro w'
     go_simp
     with_reducible rfl
    rotate_left
    ·simp only [SX]
     rfl
    refine pu 8 114 ?_ (ms 16 511) rfl rfl HT_ (by kernel_rfl) (fun _ _ _ h => h) (by rfl) ?_ ?_ ?_ ?_
    rotate_left
    ·intro w'
     go_simp
     with_reducible rfl
    rotate_left
    ·simp only [SX]
     rfl
    refine pu 9 115 ?_ (ms 16 1023) rfl rfl HT_ (by kernel_rfl) (fun _ _ _ h => h) (by rfl) ?_ ?_ ?_ ?_
    rotate_left
    ·intro w'
     go_simp
     with_reducible rfl
    rotate_left
    ·simp only [SX]
     rfl
    refine pu 11 117 ?_ (ms 16 3071) rfl rfl HT_ (by kernel_rfl) (fun _ _ _ h => h) (by rfl) ?_ ?_ ?_ ?_
    rotate_left
    ·intro w'
     go_simp
     with_reducible rfl
    rotate_left
    ·simp only [SX]
     rfl
    refine tk 10 116 ?_ (ms 16 4095) rfl rfl HT_ HW_ (by kernel_rfl) (fun _ _ _ h => h) (by rfl) ?_ hHeld ?_ ?_ ?_
    rotate_left
    ·rintro w' ⟨s0, s1⟩
     go_simp
     with_reducible rfl
    rotate_left
    ·simp only [SX]
     rfl
    refine one_ (i := 12) (N := some 118) (ms 16 8191) rfl rfl (one_of HT_.out (by kernel_rfl)) (by decide) (fun K hK => ?_)
    refine goes_ Try.func11 (by kernel_rfl) rfl #[.agg #[.int .i64 t411, .slice Ao10 t412.length co10], .slice Ao31 t418.length co31] (by rfl) rfl rfl (by (try simp only [List.map_toArray, List.map_cons, List.map_nil]); rfl) ?_
    with_reducible refine (impl_WalkCost.calls k2 t411 _ _ t412 _ _ t418 t453 _ ?side1 ?side2 ?side3 ?side4 A57.out).mono ?_
    (case side1 => repeat (exact (Kd.R_reads' HO_418001.out).2.2))
    (case side2 => exact (Kd.R_reads' HO_418001.out).2.1)
    (case side3 => repeat (exact (Kd.R_reads' HO_6.out).2.2))
    (case side4 => exact (Kd.R_reads' HO_6.out).2.1)
    rintro e w65 ⟨rfl, hb⟩
    refine ⟨_, rfl, ?_⟩
    replace HO_6 := ak (Kd.R_below (rk HO_6) hb)
    replace HO_10 := ak (Kd.R_below (rk HO_10) hb)
    replace HO_11 := ak (Kd.S_below (by exact HO_11.out) hb)
    replace HO_418001 := ak (Kd.R_below (rk HO_418001) hb)
    replace HO449 := ak (Kd.R_below (rk HO449) hb)
    replace BK417 := ak (blk_below (bk BK417) hb)
    replace HB := ak (below_step (bl1 HB GE417) hb)
    (try clear hb)
    (try clear hb2)
    (try clear hk)
    (try clear hi)
    refine hK.out _ _ ⟨(blk_cell BK417.out 0).trans rfl, (blk_cell BK417.out 1).trans rfl⟩ (fun hHeld => ?_)
    clear hK K
    refine norm_ (a' := ?_) ?_ ?_
    rotate_left
    ·show Act.put _ (some 118) _ = _
     simp only [SX]
     rfl
    refine pu 13 119 ?_ (ms 16 16383) rfl rfl HT_ (by kernel_rfl) (fun _ _ _ h => h) (by rfl) ?_ ?_ ?_ ?_
    rotate_left
    ·intro w'
     go_simp
     with_reducible rfl
    rotate_left
    ·simp only [SX]
     rfl
    refine pu 14 120 ?_ (ms 16 32767) rfl rfl HT_ (by kernel_rfl) (fun _ _ _ h => h) (by rfl) ?_ ?_ ?_ ?_
    rotate_left
    ·intro w'
     go_simp
     with_reducible rfl
    rotate_left
    ·simp only [SX]
     rfl
    refine pu 15 2 ?_ (ms 16 65535) rfl rfl HT_ (by kernel_rfl) (fun _ _ _ h => h) (by rfl) ?_ ?_ ?_ ?_
    rotate_left
    ·intro w'
     go_simp
     with_reducible rfl
    rotate_left
    ·simp only [SX]
     rfl
    refine done_ (done_of HT_.out (by kernel_rfl)) ?_
    try go_wp2
    go_ret
    exact ⟨by rfl, bl1 HB GE417⟩
   rw [if_pos c35] at H
   have c35b0 : decide (x12_2 < (t428.length : Int)) = true := decide_eq_true c35
   clear c35
   obtain ⟨y434, hy434⟩ : ∃ y_ : List Int, y_ = (([] : List Int)) := ⟨_, rfl⟩
   replace H : (laws_FnSeenWay.l1 k2 t418 t428 x11_2 x12_2 y434 0 t411 t412) = some r := by (rw [hy434]; with_reducible exact H)
   have Ny434 := ak hy434
   clear hy434
   have H' := ak H
   clear H
   obtain ⟨Ao36, co36, eo36⟩ := Kd.R_slice HO_10.out
   subst eo36
   go_wp2_with (((with_reducible refine gate_dst (N := 77) rfl ?_); refine Kd.R_lit (Kd.int .i64) _ 3 ?hg (N := 77) ?hd (xs := ([] : List Int)) (inner := []) (ok := fun _ => True) (okp := fun _ => True) ?hr ?hp (fun _ hk => hk) trivial (Below.refl _ _) (Nat.le_refl _) (by simp) ?_; (case hd => rfl); (case hg => rfl); (case hr => (go_simp; done)); (case hp => exact (Reps.none _ _)); intro v435 w37 ho38 hb hg_ hnew_; clear hg_ hnew_; (rw [← Ny434.out] at ho38); replace HO_11 := ak (Kd.S_elder' (by exact HO_11.out) (Kd.R_base ho38) hb); replace HO_418001 := ak (Kd.R_below (rk HO_418001) hb); have HO436 := ak (Kd.R_lower (Kd.R_new' (Kd.R_new' ho38 (Kd.R_lt (rk HO_6))) (Kd.R_lt (rk HO_10))) (below_size (bl1 HB GE417))); replace HO_6 := ak (Kd.R_elder' (rk HO_6) (Kd.R_base ho38) hb); replace HO_10 := ak (Kd.R_elder' (rk HO_10) (Kd.R_base ho38) hb); replace BK417 := ak (blk_below (bk BK417) hb); replace HB := ak (below_step (bl1 HB GE417) hb); clear hb ho38))
   go_loopg [13, 14] k2 (fun kq v13 v14 w' => ∃ (x13_3 : List Int) (x14_3 : Int), v14 = .int .i64 x14_3 ∧ Aside0 (laws_FnSeenWay.l1 kq t418 t428 x11_2 x12_2 x13_3 x14_3 t411 t412 = some r) ∧ Aside0 (kq ≤ k2) ∧ Aside0 (Kd.R (Kd.int .i64) 3 w' w.heap.size (fun k_ => some k_ ≠ ((.slice Ao36 t428.length co36) : Value).ownBlock ∧ some k_ ≠ (v13 : Value).ownBlock) (.slice Ao31 t418.length co31) t418) ∧ Aside0 (Kd.R (Kd.int .i64) 3 w' w.heap.size (fun k_ => some k_ ≠ ((.slice Ao31 t418.length co31) : Value).ownBlock ∧ some k_ ≠ (v13 : Value).ownBlock) (.slice Ao36 t428.length co36) t428) ∧ Aside0 (Kd.S (Kd.slice 3 (Kd.int .i64)) 28 w' w.heap.size (fun k_ => some k_ ≠ ((.slice Ao31 t418.length co31) : Value).ownBlock ∧ some k_ ≠ ((.slice Ao36 t428.length co36) : Value).ownBlock ∧ some k_ ≠ (v13 : Value).ownBlock) u11 x11_2) ∧ Aside0 (Kd.R (Kd.int .i64) 3 w' w.heap.size (fun k_ => some k_ ≠ ((.slice Ao31 t418.length co31) : Value).ownBlock ∧ some k_ ≠ ((.slice Ao36 t428.length co36) : Value).ownBlock) v13 x13_3) ∧ Aside0 (Kd.R k60 60 w' w.heap.size (fun _ => True) (.slice Ao10 t412.length co10) t412) ∧ Aside0 (w'.heap[gb417]? = some (.cells #[.int .i64 t411, (.slice Ao10 t412.length co10)] 25 (0, 0))) ∧ Aside0 (Below w.heap.size w w'))
   case atStart => exact ⟨(y434), (0), (by rfl), H', ⟨Nat.le_refl _⟩, ⟨rk HO_6⟩, ⟨rk HO_10⟩, ⟨by exact Kd.S_mono HO_11.out (fun _ hk => ⟨hk.1.1, ⟨hk.1.2, hk.2⟩⟩)⟩, ⟨by exact Kd.R_mono HO436.out (fun _ hk => ⟨hk.1.2, hk.2⟩)⟩, ⟨rk HO_418001⟩, ⟨bk BK417⟩, ⟨bl1 HB GE417⟩⟩
   clear H'
   try clear c1
   try clear c2
   try clear c2b0
   try clear c2b1
   try clear p2
   try clear c3
   try clear c4
   try clear c5
   try clear c6
   try clear c8
   try clear c14
   try clear c14b0
   try clear c14b1
   try clear c14b2
   try clear c16
   try clear c17
   try clear c17b0
   try clear c17b1
   try clear c17b2
   try clear c24
   try clear c25
   try clear c25b0
   try clear c25b1
   try clear c25b2
   try clear c35
   try clear c35b0
   try clear hcz12_0
   try clear hcz12_1
   try clear hcz30_0
   try clear hcz30_1
   try clear hcz9_0
   try clear hcz9_1
   try clear hfz12_0
   try clear hfz12_1
   try clear hfz30_0
   try clear hfz30_1
   try clear hfz9_0
   try clear hfz9_1
   try clear p2
   obtain ⟨x13_3, x14_3, rfl, HA, HK3, HO_6, HO_10, HO_11, HO_13, HO_418001, BK417, HB⟩ := hrel
   cases gk with
   | zero => exact absurd HA.out (by simp [laws_FnSeenWay.l1])
   | succ k3 =>
    have H := HA.out
    clear HA
    simp only [laws_FnSeenWay.l1] at H
    by_cases c39 : x14_3 < t411
    rotate_left
    ·rw [if_neg c39] at H
     have c39b0 : decide (x14_3 < t411) = false := decide_eq_false c39
     clear c39
     by_cases c49 : x11_2.length < 5864062014805
     rotate_left
     ·rw [if_neg c49] at H
      exact absurd H (by simp)
     rw [if_pos c49] at H
     have LMc49 := ak c49
     clear c49
     obtain ⟨y444, hy444⟩ : ∃ y_ : List (List Int), y_ = (x11_2 ++ [x13_3]) := ⟨_, rfl⟩
     replace H : (laws_FnSeenWay.l0 k3 t418 t428 y444 (wrap64 (x12_2 + 1)) t411 t412) = some r := by (rw [hy444]; with_reducible exact H)
     have Ny444 := ak hy444
     clear hy444
     have H' := ak H
     clear H
     have hcz50_0 := bc wr BK417 0 (.int .i64 t411) rfl
     have hcz50_1 := bc wr BK417 1 (.slice Ao10 t412.length co10) rfl
     have hfz50_0 := fz BK417 0
     have hfz50_1 := fz BK417 1
     obtain ⟨Ao52, co52, eo52⟩ := Kd.R_slice HO_13.out
     subst eo52
     go_wp2_with (((with_reducible refine gate_builtin (b := .append) (xs := #[.tmp 96, .tmp 98]) rfl ?_); at_builtin; refine Kd.S_append (Kd.slice 3 (Kd.int .i64)) (w0 := w) w.heap.size rfl (.tmp 96) (.tmp 98) 33 28 (.slice none 0 0) 24 rfl Try.underlying33 info28 rfl (by decide) (by omega) u11 x11_2 x13_3 [.slice Ao52 x13_3.length co52] (fun k_ => some k_ ≠ (.slice Ao31 t418.length co31 : Value).ownBlock ∧ some k_ ≠ (.slice Ao36 t428.length co36 : Value).ownBlock) (fun k_ => some k_ = (.slice Ao52 x13_3.length co52 : Value).ownBlock) rfl rfl ?aP (fun k_ hk_ => ((Kd.R_mono (ok' := fun k_ => ((fun k_ => some k_ ≠ (.slice Ao31 t418.length co31 : Value).ownBlock ∧ some k_ ≠ (.slice Ao36 t428.length co36 : Value).ownBlock)) k_ ∧ some k_ ≠ (u11 : Value).ownBlock) (Kd.R_apart' (HO_13.out) (Kd.S_typed HO_11.out) (by decide)) (fun k_ hk => ⟨⟨hk.1.1, hk.1.2⟩, hk.2⟩))).1 k_ hk_.symm) ?aF ?aO ?aB ?aS ?aL ?_; (case aP => exact Kd.M_row (Kd.R_mono (Kd.R_tight rfl (Kd.R_mono (ok' := fun k_ => ((fun k_ => some k_ ≠ (.slice Ao31 t418.length co31 : Value).ownBlock ∧ some k_ ≠ (.slice Ao36 t428.length co36 : Value).ownBlock)) k_ ∧ some k_ ≠ (u11 : Value).ownBlock) (Kd.R_apart' (HO_13.out) (Kd.S_typed HO_11.out) (by decide)) (fun k_ hk => ⟨⟨hk.1.1, hk.1.2⟩, hk.2⟩))) (fun _ h_ => h_))); (case aB => exact (bl1 HB GE417)); (case aF => exact (fun k_ hk => ⟨Kd.fresh' (Kd.R_lt (rk HO_6)) k_ hk, Kd.fresh' (Kd.R_lt (rk HO_10)) k_ hk⟩)); (case aO => exact (by exact Kd.S_mono HO_11.out (fun k_ hk => ⟨⟨hk.1, hk.2.1⟩, fun e_ => hk.2.2 e_⟩))); (case aS => exact (below_size (bl1 HB GE417))); (case aL => have := LMc49.out; omega); intro v445 w51 ho hb hg hat; rw [← Ny444.out] at ho; have n0_ := ak (Kd.R_over' (rk HO_6) (Kd.S_typed (by exact HO_11.out)) (by decide) hg); have n1_ := ak (Kd.R_over' (rk HO_10) (Kd.S_typed (by exact HO_11.out)) (by decide) hg); have n2_ := ak (Kd.R_over' (rk HO_418001) (Kd.S_typed (by exact HO_11.out)) (by decide) hg); have n3_ := ak (blk_grown (bk BK417) hg (Kd.S_ne HO_11.out BK417.out (by decide))); have n4_ := ak (hb); have n5_ := ak (ho); clear HO_6; clear HO_10; clear HO_418001; clear BK417; clear HB; clear HO_11; clear HO_13; have HO_6 := n0_; have HO_10 := n1_; have HO_418001 := n2_; have BK417 := n3_; have HB := n4_; have HO446 := n5_; clear n0_ n1_ n2_ n3_ n4_ n5_; clear ho hb hg hat))
     go_roundg k3
     case measure => have := HJ5.out; have := HK2.out; have := HK3.out; omega
     case rel => exact ⟨(y444), (wrap64 (x12_2 + 1)), (by rfl), H', ⟨by have := HJ5.out; have := HK2.out; have := HK3.out; omega⟩, ⟨by exact Kd.R_mono HO_6.out (fun _ hk => hk.1)⟩, ⟨by exact Kd.R_mono HO_10.out (fun _ hk => hk.1)⟩, ⟨by exact HO446.out⟩, ⟨rk HO_418001⟩, ⟨bk BK417⟩, ⟨bl1 HB GE417⟩⟩
    rw [if_pos c39] at H
    have c39b0 : decide (x14_3 < t411) = true := decide_eq_true c39
    clear c39
    by_cases c40 : 0 ≤ x12_2
    rotate_left
    ·rw [if_neg c40] at H
     exact absurd H (by simp)
    rw [if_pos c40] at H
    have c40b0 : decide (0 ≤ x12_2) = true := decide_eq_true c40
    clear c40
    by_cases c41 : x12_2 < (t428.length : Int)
    rotate_left
    ·rw [if_neg c41] at H
     exact absurd H (by simp)
    rw [if_pos c41] at H
    have c41b0 : decide (x12_2 < (t428.length : Int)) = true := decide_eq_true c41
    clear c41
    by_cases c42 : x14_3 = (rd t428 x12_2)
    rotate_left
    ·rw [if_neg c42] at H
     have c42b0 : (x14_3 == (rd t428 x12_2)) = false := beq_eq_false_iff_ne.mpr c42
     have c42b1 : (x14_3 != (rd t428 x12_2)) = true := bne_iff_ne.mpr c42
     by_cases c46 : x13_3.length < 17592186044416
     rotate_left
     ·rw [if_neg c46] at H
      exact absurd H (by simp)
     rw [if_pos c46] at H
     have LMc46 := ak c46
     clear c46
     obtain ⟨y441, hy441⟩ : ∃ y_ : List Int, y_ = (x13_3 ++ [99]) := ⟨_, rfl⟩
     replace H : (laws_FnSeenWay.l1 k3 t418 t428 x11_2 x12_2 y441 (wrap64 (x14_3 + 1)) t411 t412) = some r := by (rw [hy441]; with_reducible exact H)
     have Ny441 := ak hy441
     clear hy441
     have H' := ak H
     clear H
     have hcz47_0 := bc wr BK417 0 (.int .i64 t411) rfl
     have hcz47_1 := bc wr BK417 1 (.slice Ao10 t412.length co10) rfl
     have hfz47_0 := fz BK417 0
     have hfz47_1 := fz BK417 1
     have p437 : 0 ≤ (x12_2 : Int) := oT (by (with_reducible assumption))
     have q437 : x12_2 < (t428.length : Int) := oT (by (with_reducible assumption))
     obtain ⟨ad437, e437, hx437_0⟩ := Kd.at_int (Kd.R_reads' HO_10.out).2.2 x12_2 p437 q437
     cases e437
     replace p437 := eq_true p437
     replace q437 := eq_true q437
     go_wp2_with (((with_reducible refine gate_builtin (b := .append) (xs := #[.tmp 93, .tmp 94]) rfl ?_); at_builtin; refine Kd.R_append (Kd.int .i64) (w0 := w) w.heap.size rfl (.tmp 93) (.tmp 94) 28 3 (.int .i64 0) 8 rfl Try.underlying28 info3 rfl (by decide) (by omega) u13 x13_3 99 [.int .i64 99] (fun k_ => some k_ ≠ (.slice Ao31 t418.length co31 : Value).ownBlock ∧ some k_ ≠ (.slice (some ad437) t428.length co36 : Value).ownBlock) (fun _ => False) rfl rfl ?aP (fun _ hk => hk.elim) ?aF ?aO ?aB ?aS ?aL ?_; (case aP => exact rfl); (case aB => exact (bl1 HB GE417)); (case aF => exact (fun k_ hk => ⟨Kd.fresh' (Kd.R_lt (rk HO_6)) k_ hk, Kd.fresh' (Kd.R_lt (rk HO_10)) k_ hk⟩)); (case aO => exact (rk HO_13)); (case aS => exact (below_size (bl1 HB GE417))); (case aL => have := LMc46.out; omega); intro v442 w48 ho hb hg hat; rw [← Ny441.out] at ho; have n0_ := ak (Kd.R_after (ok := (fun k_ => some k_ ≠ (.slice (some ad437) t428.length co36 : Value).ownBlock)) (rk HO_6) hg hat); have n1_ := ak (Kd.R_after (ok := (fun k_ => some k_ ≠ (.slice Ao31 t418.length co31 : Value).ownBlock)) (rk HO_10) hg hat); have n2_ := ak (Kd.S_after (ok := (fun k_ => some k_ ≠ (.slice Ao31 t418.length co31 : Value).ownBlock ∧ some k_ ≠ (.slice (some ad437) t428.length co36 : Value).ownBlock)) (by exact Kd.S_mono HO_11.out (fun _ hk => ⟨⟨hk.1, hk.2.1⟩, hk.2.2⟩)) hg hat); have n3_ := ak (Kd.R_over' (rk HO_418001) (Kd.R_typed (rk HO_13)) (by decide) hg); have n4_ := ak (blk_grown (bk BK417) hg (Kd.R_ne HO_13.out BK417.out (by decide))); have n5_ := ak (hb); have n6_ := ak (ho); clear HO_6; clear HO_10; clear HO_11; clear HO_418001; clear BK417; clear HB; clear HO_13; have HO_6 := n0_; have HO_10 := n1_; have HO_11 := n2_; have HO_418001 := n3_; have BK417 := n4_; have HB := n5_; have HO443 := n6_; clear n0_ n1_ n2_ n3_ n4_ n5_ n6_; clear ho hb hg hat))
     go_roundg k3
     case measure => have := HJ5.out; have := HK2.out; have := HK3.out; omega
     case rel => exact ⟨(y441), (wrap64 (x14_3 + 1)), (by rfl), H', ⟨by have := HJ5.out; have := HK2.out; have := HK3.out; omega⟩, ⟨rk HO_6⟩, ⟨rk HO_10⟩, ⟨by exact Kd.S_mono HO_11.out (fun _ hk => ⟨hk.1.1, ⟨hk.1.2, hk.2⟩⟩)⟩, ⟨rk HO443⟩, ⟨rk HO_418001⟩, ⟨bk BK417⟩, ⟨bl1 HB GE417⟩⟩
    rw [if_pos c42] at H
    have c42b0 : (x14_3 == (rd t428 x12_2)) = true := beq_iff_eq.mpr c42
    have c42b1 : (x14_3 != (rd t428 x12_2)) = false := bne_eq_false_iff_eq.mpr c42
    clear c42
    by_cases c43 : x13_3.length < 17592186044416
    rotate_left
    ·rw [if_neg c43] at H
     exact absurd H (by simp)
    rw [if_pos c43] at H
    have LMc43 := ak c43
    clear c43
    obtain ⟨y438, hy438⟩ : ∃ y_ : List Int, y_ = (x13_3 ++ [0]) := ⟨_, rfl⟩
    replace H : (laws_FnSeenWay.l1 k3 t418 t428 x11_2 x12_2 y438 (wrap64 (x14_3 + 1)) t411 t412) = some r := by (rw [hy438]; with_reducible exact H)
    have Ny438 := ak hy438
    clear hy438
    have H' := ak H
    clear H
    have hcz44_0 := bc wr BK417 0 (.int .i64 t411) rfl
    have hcz44_1 := bc wr BK417 1 (.slice Ao10 t412.length co10) rfl
    have hfz44_0 := fz BK417 0
    have hfz44_1 := fz BK417 1
    have p437 : 0 ≤ (x12_2 : Int) := oT (by (with_reducible assumption))
    have q437 : x12_2 < (t428.length : Int) := oT (by (with_reducible assumption))
    obtain ⟨ad437, e437, hx437_0⟩ := Kd.at_int (Kd.R_reads' HO_10.out).2.2 x12_2 p437 q437
    cases e437
    replace p437 := eq_true p437
    replace q437 := eq_true q437
    go_wp2_with (((with_reducible refine gate_builtin (b := .append) (xs := #[.tmp 90, .tmp 91]) rfl ?_); at_builtin; refine Kd.R_append (Kd.int .i64) (w0 := w) w.heap.size rfl (.tmp 90) (.tmp 91) 28 3 (.int .i64 0) 8 rfl Try.underlying28 info3 rfl (by decide) (by omega) u13 x13_3 0 [.int .i64 0] (fun k_ => some k_ ≠ (.slice Ao31 t418.length co31 : Value).ownBlock ∧ some k_ ≠ (.slice (some ad437) t428.length co36 : Value).ownBlock) (fun _ => False) rfl rfl ?aP (fun _ hk => hk.elim) ?aF ?aO ?aB ?aS ?aL ?_; (case aP => exact rfl); (case aB => exact (bl1 HB GE417)); (case aF => exact (fun k_ hk => ⟨Kd.fresh' (Kd.R_lt (rk HO_6)) k_ hk, Kd.fresh' (Kd.R_lt (rk HO_10)) k_ hk⟩)); (case aO => exact (rk HO_13)); (case aS => exact (below_size (bl1 HB GE417))); (case aL => have := LMc43.out; omega); intro v439 w45 ho hb hg hat; rw [← Ny438.out] at ho; have n0_ := ak (Kd.R_after (ok := (fun k_ => some k_ ≠ (.slice (some ad437) t428.length co36 : Value).ownBlock)) (rk HO_6) hg hat); have n1_ := ak (Kd.R_after (ok := (fun k_ => some k_ ≠ (.slice Ao31 t418.length co31 : Value).ownBlock)) (rk HO_10) hg hat); have n2_ := ak (Kd.S_after (ok := (fun k_ => some k_ ≠ (.slice Ao31 t418.length co31 : Value).ownBlock ∧ some k_ ≠ (.slice (some ad437) t428.length co36 : Value).ownBlock)) (by exact Kd.S_mono HO_11.out (fun _ hk => ⟨⟨hk.1, hk.2.1⟩, hk.2.2⟩)) hg hat); have n3_ := ak (Kd.R_over' (rk HO_418001) (Kd.R_typed (rk HO_13)) (by decide) hg); have n4_ := ak (blk_grown (bk BK417) hg (Kd.R_ne HO_13.out BK417.out (by decide))); have n5_ := ak (hb); have n6_ := ak (ho); clear HO_6; clear HO_10; clear HO_11; clear HO_418001; clear BK417; clear HB; clear HO_13; have HO_6 := n0_; have HO_10 := n1_; have HO_11 := n2_; have HO_418001 := n3_; have BK417 := n4_; have HB := n5_; have HO440 := n6_; clear n0_ n1_ n2_ n3_ n4_ n5_ n6_; clear ho hb hg hat))
    go_roundg k3
    case measure => have := HJ5.out; have := HK2.out; have := HK3.out; omega
    case rel => exact ⟨(y438), (wrap64 (x14_3 + 1)), (by rfl), H', ⟨by have := HJ5.out; have := HK2.out; have := HK3.out; omega⟩, ⟨rk HO_6⟩, ⟨rk HO_10⟩, ⟨by exact Kd.S_mono HO_11.out (fun _ hk => ⟨hk.1.1, ⟨hk.1.2, hk.2⟩⟩)⟩, ⟨rk HO440⟩, ⟨rk HO_418001⟩, ⟨bk BK417⟩, ⟨bl1 HB GE417⟩⟩

/-- THE ONE PURE STATEMENT of laws_FnSeenWay: yours. -/
def laws_FnSeenWay.Pure : Prop := ∀ (l0 : List Int), l0.length ≤ maxLen → l0.length * 1 ≤ 140737488351232 → (∀ x ∈ l0, (Lit.int .u8 x).wf = true) → ∃ k, laws_FnSeenWay.f k l0 = some true
theorem laws_FnSeenWay.walk (P : laws_FnSeenWay.Pure) (a0 : Option Addr) (len0 cap0 : Nat) (z0 : List Int) (w : World) (w0 : (a0 = none ∧ len0 = 0 ∧ cap0 = 0 ∧ z0 = []) ∨ ∃ x, a0 = some x ∧ len0 ≤ cap0 ∧ cap0 ≤ maxLen ∧ z0.length = cap0 ∧ (∀ i, i < z0.length → w.cell? (x.add i) = some (.int .u8 (z0.getD i 0))) ∧ ∀ n ∈ z0, (Lit.int .u8 n).wf = true) (y0 : len0 * 1 ≤ 140737488351232) :
  Calls Try.prog 3 #[.slice a0 len0 cap0] w fun e w' => e = .returned (.bool true) ∧ Below w.heap.size w w' := by
 obtain ⟨l0, rfl, hr0, hm0, hw0, hc0⟩ := ReadsInt.ofRowC w0
 obtain ⟨k, h⟩ := P l0 hm0 y0 hw0
 refine (laws_FnSeenWay.calls k _ _ l0 true w (Kd.C_of_reads (d := (0 : Int)) (h1 := fun _ => rfl) hr0) hc0 h rfl).mono ?_
 rintro e w' ⟨rfl, hd⟩
 exact ⟨rfl, hd⟩

end Go.Proofs.Ytjnbhieppghidaa.F
