-- Printed by wip/px/px.py of this claim's repository (the kit's printer, extended there). Lean checks it.
import Derived.Test.YtgickejeakmenaaFKinds
import Derived.Test.YtgickejeakmenaaFimplNear
import Derived.Test.YtgickejeakmenaaFimplNetloaded
import Derived.Test.YtgickejeakmenaaFslicesClipintint
import Derived.Test.YtgickejeakmenaaFslicesRepeatintint
namespace Go.Proofs.Ytgickejeakmenaa.F
open Go.RowKit Go.Proofs.YtgickejeakmenaaW.PrintWords Go.Proofs.YtgickejeakmenaaW.PrintLast Go.Proofs.YtgickejeakmenaaW.PrintMore
attribute [local go_sem] max2_int min2_int max_two min_two max_three min_three max_four min_four   -- for this text's walks alone
set_option linter.unusedVariables false
set_option linter.unusedSimpArgs false

/-! ### impl_Net_loads: function 61 -/
mutual
def impl_Net_loads.l0 : Nat → Int → List Int → Int → Int → List (S41) → Option (List Int)
 | 0, _, _, _, _, _ => none
 | k + 1, x1, x5, x15, x274000, x274001 => if x15 < 10 then ((impl_Net_loaded.f k x274000 x274001 x15).bind fun bt283 => ((impl_Net_from.f k bt283.1 bt283.2.1 x1).bind fun t291 => (impl_Net_loads.l1 k x1 x5 x15 x15 t291 (t291.length : Int) 0 x274000 x274001))) else ((slices_Clip_int_int.f x5).bind fun t280 => (some t280))
def impl_Net_loads.l1 : Nat → Int → List Int → Int → Int → List Int → Int → Int → Int → List (S41) → Option (List Int)
 | 0, _, _, _, _, _, _, _, _, _ => none
 | k + 1, x1, x5, x6, x15, x26, x27, x28, x274000, x274001 => if x28 < x27 then (if 0 ≤ x28 then (if x28 < (x26.length : Int) then (if (rd x26 x28) = 99999 then (impl_Net_loads.l1 k x1 x5 x6 x15 x26 x27 (wrap64 (x28 + 1)) x274000 x274001) else (if x28 < (x5.length : Int) then (impl_Net_loads.l1 k x1 (x5.set (x28 : Int).toNat x6) x6 x15 x26 x27 (wrap64 (x28 + 1)) x274000 x274001) else (none))) else (none)) else (none)) else (impl_Net_loads.l0 k x1 x5 (wrap64 (x15 + 1)) x274000 x274001)
end
def impl_Net_loads.f (k : Nat) (a0_0 : Int) (l0_1 : List (S41)) (a1 : Int) : Option (List Int) := (slices_Repeat_int_int.f (([(-1)] : List Int)) a0_0).bind fun t277 => (impl_Net_loads.l0 k a1 t277 0 a0_0 l0_1)
theorem impl_Net_loads.mono_l : ∀ k, (∀ y0 y1 y2 y3 y4, LeO (impl_Net_loads.l0 k y0 y1 y2 y3 y4) (impl_Net_loads.l0 (k + 1) y0 y1 y2 y3 y4)) ∧ (∀ y0 y1 y2 y3 y4 y5 y6 y7 y8, LeO (impl_Net_loads.l1 k y0 y1 y2 y3 y4 y5 y6 y7 y8) (impl_Net_loads.l1 (k + 1) y0 y1 y2 y3 y4 y5 y6 y7 y8))
 | 0 => ⟨fun _ _ _ _ _ r h => by simp [impl_Net_loads.l0] at h, fun _ _ _ _ _ _ _ _ _ r h => by simp [impl_Net_loads.l1] at h⟩
 | k + 1 => by
  obtain ⟨ih0, ih1⟩ := impl_Net_loads.mono_l k
  refine ⟨?_, ?_⟩
  ·intro y0 y1 y2 y3 y4
   unfold impl_Net_loads.l0
   repeat' first
   | (with_reducible exact ih0 _ _ _ _ _)
   | (with_reducible exact ih1 _ _ _ _ _ _ _ _ _)
   | (with_reducible exact impl_Net_from.mono _ _ _ _)
   | (with_reducible exact impl_Net_loaded.mono _ _ _ _)
   | (with_reducible exact LeO.refl _)
   | (with_reducible exact LeO.none _)
   | (with_reducible refine LeO.ite ?_ ?_)
   | (with_reducible refine LeO.bind ?_ (fun _ => ?_))
   | exact ih0 _ _ _ _ _
   | exact ih1 _ _ _ _ _ _ _ _ _
   | exact impl_Net_from.mono _ _ _ _
   | exact impl_Net_loaded.mono _ _ _ _
   | exact LeO.none _
   | refine LeO.ite ?_ ?_
   | refine LeO.bind ?_ (fun _ => ?_)
  ·intro y0 y1 y2 y3 y4 y5 y6 y7 y8
   unfold impl_Net_loads.l1
   repeat' first
   | (with_reducible exact ih0 _ _ _ _ _)
   | (with_reducible exact ih1 _ _ _ _ _ _ _ _ _)
   | (with_reducible exact impl_Net_from.mono _ _ _ _)
   | (with_reducible exact impl_Net_loaded.mono _ _ _ _)
   | (with_reducible exact LeO.refl _)
   | (with_reducible exact LeO.none _)
   | (with_reducible refine LeO.ite ?_ ?_)
   | (with_reducible refine LeO.bind ?_ (fun _ => ?_))
   | exact ih0 _ _ _ _ _
   | exact ih1 _ _ _ _ _ _ _ _ _
   | exact impl_Net_from.mono _ _ _ _
   | exact impl_Net_loaded.mono _ _ _ _
   | exact LeO.none _
   | refine LeO.ite ?_ ?_
   | refine LeO.bind ?_ (fun _ => ?_)
theorem impl_Net_loads.mono : ∀ a0 a1 a2 k, LeO (impl_Net_loads.f k a0 a1 a2) (impl_Net_loads.f (k + 1) a0 a1 a2) := by
 intro a0 a1 a2 k
 obtain ⟨ih0, ih1⟩ := impl_Net_loads.mono_l k
 unfold impl_Net_loads.f
 repeat' first
   | (with_reducible exact ih0 _ _ _ _ _)
   | (with_reducible exact ih1 _ _ _ _ _ _ _ _ _)
   | (with_reducible exact impl_Net_from.mono _ _ _ _)
   | (with_reducible exact impl_Net_loaded.mono _ _ _ _)
   | (with_reducible exact LeO.refl _)
   | (with_reducible exact LeO.none _)
   | (with_reducible refine LeO.ite ?_ ?_)
   | (with_reducible refine LeO.bind ?_ (fun _ => ?_))
   | exact ih0 _ _ _ _ _
   | exact ih1 _ _ _ _ _ _ _ _ _
   | exact impl_Net_from.mono _ _ _ _
   | exact impl_Net_loaded.mono _ _ _ _
   | exact LeO.none _
   | refine LeO.ite ?_ ?_
   | refine LeO.bind ?_ (fun _ => ?_)
set_option maxHeartbeats 8000000 in
set_option maxRecDepth 100000 in
theorem impl_Net_loads.calls (k : Nat) (a0_0 : Int) (A0_1 : Option Addr) (c0_1 : Nat) (l0_1 : List (S41)) (a1 : Int) (r : List Int) (w : World) (hr0_1 : Kd.C k41 w A0_1 l0_1.length l0_1) (hc0_1 : l0_1.length ≤ c0_1) (h : impl_Net_loads.f k a0_0 l0_1 a1 = some r) :
  Calls Try.prog 61 #[.agg #[.int .i64 a0_0, .slice A0_1 l0_1.length c0_1], .int .i64 a1] w fun e w' => ∃ v0_ : Value, e = .returned (v0_) ∧ Kd.R (Kd.int .i64) 3 w' w.heap.size (fun _ => True) v0_ r ∧ Below w.heap.size w w' := by
 have hu25 := Try.underlying25
 have HR0_1 := Aside0.mk hr0_1
 have HC0_1 := Aside0.mk hc0_1
 clear hr0_1 hc0_1
 have HB := Aside0.mk (Below.refl w.heap.size w)
 have H : ((slices_Repeat_int_int.f (([(-1)] : List Int)) a0_0).bind fun t277 => (impl_Net_loads.l0 k a1 t277 0 a0_0 l0_1)) = some r := h
 clear h
 obtain ⟨y274, hy274⟩ : ∃ y_ : List Int, y_ = (([(-1)] : List Int)) := ⟨_, rfl⟩
 replace H : ((slices_Repeat_int_int.f y274 a0_0).bind fun t277 => (impl_Net_loads.l0 k a1 t277 0 a0_0 l0_1)) = some r := by first | (rw [hy274]; with_reducible exact H) | (have H2_ := (Option.bind_some _ _).symm.trans H; rw [hy274]; with_reducible exact H2_) | (have H2_ := (Option.bind_some _ _).symm.trans H; with_reducible exact H2_) | with_reducible exact H | (rw [hy274]; exact H) | exact H
 have Ny274 := Aside0.mk hy274
 clear hy274
 replace H := Option.bind_eq_some_iff.mp H
 obtain ⟨t277, A30, H⟩ := H
 have A3 := Aside0.mk A30
 clear A30
 have H' := Aside0.mk H
 clear H
 go_enter Try.func61, Try.ntmps61
 go_wp2_with (first | ((with_reducible refine gate_dst (N := 2) rfl ?_); refine box_event ?hg (N := 2) ?hd (cs := #[.int .i64 a0_0, .slice A0_1 l0_1.length c0_1]) (t := 25) ?hr ?_; (case hd => rfl); (case hg => rfl); (case hr => first | (go_simp; done) | (go_simp; rfl)); intro gb273 hg w4 hbox hb; have BK273 := Aside0.mk (hbox); have GW273 := Aside0.mk ((by rw [hg]; exact (below_size (bl HB)) : w.heap.size ≤ gb273)); have GE273 := Aside0.mk ((by rw [hg]; exact (below_size (bl HB)) : w.heap.size ≤ gb273)); replace HB := Aside0.mk (below_step (bl HB) hb); clear hb hbox hg) | ((with_reducible refine gate_dst (N := 11) rfl ?_); refine Kd.R_lit (Kd.int .i64) _ 3 ?hg (N := 11) ?hd (xs := ([(-1)] : List Int)) (inner := [.int .i64 (-1)]) (ok := fun _ => True) (okp := fun _ => True) ?hr ?hp (fun _ hk => hk) trivial (Below.refl _ _) (Nat.le_refl _) (by simp) ?_; (case hd => rfl); (case hg => rfl); (case hr => first | (go_simp; done) | (go_simp; rfl)); (case hp => exact (Reps.one (show Kd.M (Kd.int .i64) _ _ _ (-1) [.int .i64 (-1)] from rfl) (Reps.none _ _))); intro v275 w5 ho6 hb hg_ hnew_; clear hg_ hnew_; (first | rw [← Ny274.out] at ho6 | (simp only [Int.reduceToNat] at ho6; rw [← Ny274.out] at ho6)); have HO276 := Aside0.mk (Kd.R_lower ho6 (below_size (bl1 HB GE273))); replace BK273 := Aside0.mk (blk_below (bk BK273) hb); replace HB := Aside0.mk (below_step (bl1 HB GE273) hb); clear hb ho6; have hcz7_0 : w5.cell? ⟨gb273, 0, none⟩ = some (.int .i64 a0_0) := (blk_cell BK273.out 0).trans rfl; have hcz7_1 : w5.cell? ⟨gb273, 1, none⟩ = some (.slice A0_1 l0_1.length c0_1) := (blk_cell BK273.out 1).trans rfl; have hfz7_0 := blk_frozen BK273.out 0; have hfz7_1 := blk_frozen BK273.out 1; obtain ⟨Ao8, co8, eo8⟩ := Kd.R_slice HO276.out; subst eo8) | ((with_reducible refine gate_callee (f := 88) rfl ?_); refine goesL_ (some 14) rfl rfl Try.func88 (by kernel_rfl) rfl #[.slice Ao8 y274.length co8, .int .i64 a0_0] rfl (by (try simp only [List.map_toArray, List.map_cons, List.map_nil]); first | done | rfl | (simp only [List.length_drop, List.length_take]; rfl)) ?_; (with_reducible refine (slices_Repeat_int_int.calls _ _ y274 a0_0 t277 _ ?side1 ?side2 A3.out).mono ?_); (case side1 => repeat (first | exact (Kd.R_reads' HO276.out).2.2 | (with_reducible refine Kd.C_alloc ?_ _) | (with_reducible refine Kd.C_drewN ?_ _) | (with_reducible refine Kd.C_drew ?_))); (case side2 => exact (Kd.R_reads' HO276.out).2.1); rintro e w9 ⟨v278, rfl, ho0, hb⟩; refine ⟨_, rfl, ?_⟩; have HO279 := Aside0.mk (Kd.R_lower (Kd.R_new' ho0 (Kd.R_lt (rk HO276))) (below_size (bl1 HB GE273))); replace HO276 := Aside0.mk (Kd.R_elder' (rk HO276) (Kd.R_base ho0) hb); replace BK273 := Aside0.mk (blk_below (bk BK273) hb); replace HB := Aside0.mk (below_step (bl1 HB GE273) hb); (try clear hb); (try clear hb2); (try clear hk); (try clear hi); (try clear ho0)))
 go_loopg [15] k (fun kq v15 w' => ∃ (x5_1 : List Int) (x15_1 : Int), v15 = .int .i64 x15_1 ∧ Aside0 (impl_Net_loads.l0 kq a1 x5_1 x15_1 a0_0 l0_1 = some r) ∧ Aside0 (kq ≤ k) ∧ Aside0 (Kd.R (Kd.int .i64) 3 w' w.heap.size (fun _ => True) v278 x5_1) ∧ Aside0 (w'.heap[gb273]? = some (.cells #[.int .i64 a0_0, (.slice A0_1 l0_1.length c0_1)] 25 (0, 0))) ∧ Aside0 (Below w.heap.size w w'))
 case atStart => exact ⟨(t277), (0), (by first | rfl | (simp; done) | (simp [*]; done)), H', ⟨Nat.le_refl _⟩, ⟨by (with_reducible repeat (first | apply Kd.R_alloc | apply Kd.R_drewN | apply Kd.R_drew)); exact Kd.R_mono HO279.out (fun _ hk => trivial)⟩, ⟨bk BK273⟩, ⟨bl1 HB GE273⟩⟩
 clear H'
 try clear p2
 try clear c6
 try clear c8
 try clear hcz7_0
 try clear hcz7_1
 try clear hfz7_0
 try clear hfz7_1
 obtain ⟨x5_1, x15_1, rfl, HA, HK1, HO_5, BK273, HB⟩ := hrel
 cases gk with
 | zero => exact absurd HA.out (by simp [impl_Net_loads.l0])
 | succ k1 =>
  have H := HA.out
  clear HA
  simp only [impl_Net_loads.l0] at H
  by_cases c10 : x15_1 < 10
  rotate_left
  ·rw [if_neg c10] at H
   have c10b0 : decide (x15_1 < 10) = false := decide_eq_false c10
   clear c10
   replace H := Option.bind_eq_some_iff.mp H
   obtain ⟨t280, A290, H⟩ := H
   have A29 := Aside0.mk A290
   clear A290
   obtain rfl := Option.some.inj H
   obtain ⟨Ao30, co30, eo30⟩ := Kd.R_slice HO_5.out
   subst eo30
   go_wp2_with (first | ((with_reducible refine gate_callee (f := 80) rfl ?_); refine goesL_ (some 42) rfl rfl Try.func80 (by kernel_rfl) rfl #[.slice Ao30 x5_1.length co30] rfl (by (try simp only [List.map_toArray, List.map_cons, List.map_nil]); first | done | rfl | (simp only [List.length_drop, List.length_take]; rfl)) ?_; (with_reducible refine (slices_Clip_int_int.calls (fun k_ => some k_ = (.slice Ao30 x5_1.length co30 : Value).ownBlock) (.slice Ao30 x5_1.length co30) x5_1 t280 w _ ?side1 ?side2 A29.out).mono ?_); (case side1 => repeat (first | (with_reducible first | exact HB.out | apply below_alloc | apply pw_below_drewN | apply below_drew1 | refine below_set ?_ GE273.out) | exact HB.out)); (case side2 => exact Kd.R_tight rfl HO_5.out); rintro e w31 ⟨v281, rfl, ho0, hb, hkp⟩; refine ⟨_, rfl, ?_⟩; have n0_ := Aside0.mk (blk_kept (bk BK273) hkp (fun hs_ => (fun e_ => (Kd.R_ne HO_5.out BK273.out (by decide)) e_) hs_)); have n1_ := Aside0.mk (Kd.R_mono (ok' := fun k_ => True) ho0 (fun k_ hk_ => trivial)); have n2_ := Aside0.mk (hb); clear BK273; clear HB; clear HO_5; have BK273 := n0_; have HO282 := n1_; have HB := n2_; clear n0_ n1_ n2_; (try clear hb); (try clear hkp); (try clear ho0)))
   go_ret
   exact ⟨_, by first | rfl | (simp [errW_none, errW_some] <;> rfl) | (simp [*, errW_none, errW_some] <;> rfl), rk HO282, bl1 HB GE273⟩
  rw [if_pos c10] at H
  have c10b0 : decide (x15_1 < 10) = true := decide_eq_true c10
  clear c10
  replace H := Option.bind_eq_some_iff.mp H
  obtain ⟨⟨t283, t284, t287⟩, A110, H⟩ := H
  have A11 := Aside0.mk A110
  clear A110
  replace H := Option.bind_eq_some_iff.mp H
  obtain ⟨t291, A120, H⟩ := H
  have A12 := Aside0.mk A120
  clear A120
  have H' := Aside0.mk H
  clear H
  have hcz13_0 : wr.cell? ⟨gb273, 0, none⟩ = some (.int .i64 a0_0) := (blk_cell BK273.out 0).trans rfl
  have hcz13_1 : wr.cell? ⟨gb273, 1, none⟩ = some (.slice A0_1 l0_1.length c0_1) := (blk_cell BK273.out 1).trans rfl
  have hfz13_0 := blk_frozen BK273.out 0
  have hfz13_1 := blk_frozen BK273.out 1
  go_wp2_with (first | ((with_reducible refine gate_callee (f := 67) rfl ?_); refine goesL_ (some 21) rfl rfl Try.func67 (by kernel_rfl) rfl #[.agg #[.int .i64 a0_0, .slice A0_1 l0_1.length c0_1], .int .i64 x15_1] rfl (by (try simp only [List.map_toArray, List.map_cons, List.map_nil]); first | done | rfl | (simp only [List.length_drop, List.length_take]; rfl)) ?_; (with_reducible refine (impl_Net_loaded.calls k1 a0_0 _ _ l0_1 x15_1 t283 t284 t287 _ ?side1 ?side2 A11.out).mono ?_); (case side1 => repeat (first | exact (Kd.C_below HR0_1.out HB.out) | (with_reducible refine Kd.C_alloc ?_ _) | (with_reducible refine Kd.C_drewN ?_ _) | (with_reducible refine Kd.C_drew ?_))); (case side2 => exact HC0_1.out); rintro e w14 ⟨v285, v288, rfl, ho0, ho1, hb⟩; refine ⟨_, rfl, ?_⟩; have HO286 := Aside0.mk (Kd.R_lower ho0 (below_size (bl1 HB GE273))); have HO289 := Aside0.mk (Kd.R_lower (Kd.R_new' ho1 (Kd.R_lt (rk HO_5))) (below_size (bl1 HB GE273))); replace HO_5 := Aside0.mk (Kd.R_elder' (rk HO_5) (Kd.R_base ho1) hb); replace BK273 := Aside0.mk (blk_below (bk BK273) hb); replace HB := Aside0.mk (below_step (bl1 HB GE273) hb); (try clear hb); (try clear hb2); (try clear hk); (try clear hi); (try clear ho0); (try clear ho1)) | ((with_reducible refine gate_dst (N := 7) rfl ?_); refine box_event ?hg (N := 7) ?hd (cs := #[.int .i64 0, .slice none 0 0]) (t := 25) ?hr ?_; (case hd => rfl); (case hg => rfl); (case hr => first | (go_simp; done) | (go_simp; rfl)); intro gb290 hg w15 hbox hb; replace HO_5 := Aside0.mk (Kd.R_below (rk HO_5) hb); replace HO286 := Aside0.mk (Kd.R_below (rk HO286) hb); replace HO289 := Aside0.mk (Kd.R_below (rk HO289) hb); have BK290 := Aside0.mk (hbox); have GW290 := Aside0.mk ((by rw [hg]; exact (below_size (bl1 HB GE273)) : w.heap.size ≤ gb290)); have GE290 := Aside0.mk ((by rw [hg]; exact (below_size (bl1 HB GE273)) : w.heap.size ≤ gb290)); replace HB := Aside0.mk (below_step (bl1 HB GE273) hb); have NB273_290 := Aside0.mk ((by rw [hg]; exact Nat.ne_of_lt (blk_lt (bk BK273)) : gb273 ≠ gb290)); have NB290_273 := Aside0.mk ((by rw [hg]; exact Nat.ne_of_gt (blk_lt (bk BK273)) : gb290 ≠ gb273)); replace BK273 := Aside0.mk (blk_below (bk BK273) hb); clear hb hbox hg; have hnb16 := NB290_273.out; have hnc16 := NB273_290.out; have hcz17_0 : w15.cell? ⟨gb290, 0, none⟩ = some (.int .i64 0) := (blk_cell BK290.out 0).trans rfl; have hcz17_1 : w15.cell? ⟨gb290, 1, none⟩ = some (.slice none 0 0) := (blk_cell BK290.out 1).trans rfl; have hfz17_0 := blk_frozen BK290.out 0; have hfz17_1 := blk_frozen BK290.out 1; obtain ⟨Ao18, co18, eo18⟩ := Kd.R_slice HO286.out; subst eo18) | ((with_reducible refine gate_callee (f := 59) rfl ?_); refine goesL_ (some 26) rfl rfl Try.func59 (by kernel_rfl) rfl #[.agg #[.int .i64 t283, .slice Ao18 t284.length co18], .int .i64 a1] rfl (by (try simp only [List.map_toArray, List.map_cons, List.map_nil]); first | done | rfl | (simp only [List.length_drop, List.length_take]; rfl)) ?_; (with_reducible refine (impl_Net_from.calls k1 t283 _ _ t284 a1 t291 _ ?side1 ?side2 A12.out).mono ?_); (case side1 => refine (Kd.R_reads' (e := 41) (base := w.heap.size) (ok := fun k_ => True) (n := t284.length) (c := co18) ?_).2.2; exact (by (with_reducible repeat (first | apply Kd.R_alloc | apply Kd.R_drewN | apply Kd.R_drew)); exact (Kd.R_mono (Kd.R_far (p := ⟨gb290, 1, none⟩) (Kd.R_far (p := ⟨gb290, 0, none⟩) (Kd.R_types HO286.out BK290.out (by decide)) (fun _ hk => hk.2) (.int .i64 t283)) (fun _ hk => hk.2) (.slice Ao18 t284.length co18)) (fun _ h_ => h_.1)))); (case side2 => exact (Kd.R_reads' HO286.out).2.1); rintro e w19 ⟨v292, rfl, ho0, hb⟩; refine ⟨_, rfl, ?_⟩; replace HO286 := Aside0.mk (Kd.R_below (by (with_reducible repeat (first | apply Kd.R_alloc | apply Kd.R_drewN | apply Kd.R_drew)); exact (Kd.R_mono (Kd.R_far (p := ⟨gb290, 1, none⟩) (Kd.R_far (p := ⟨gb290, 0, none⟩) (Kd.R_types HO286.out BK290.out (by decide)) (fun _ hk => hk.2) (.int .i64 t283)) (fun _ hk => hk.2) (.slice Ao18 t284.length co18)) (fun _ h_ => h_.1))) hb); have HO293 := Aside0.mk (Kd.R_lower (Kd.R_new' (Kd.R_new' ho0 (Kd.R_lt (by (with_reducible repeat (first | apply Kd.R_alloc | apply Kd.R_drewN | apply Kd.R_drew)); exact (Kd.R_mono (Kd.R_far (p := ⟨gb290, 1, none⟩) (Kd.R_far (p := ⟨gb290, 0, none⟩) (Kd.R_types HO_5.out BK290.out (by decide)) (fun _ hk => hk.2) (.int .i64 t283)) (fun _ hk => hk.2) (.slice Ao18 t284.length co18)) (fun _ h_ => h_.1))))) (Kd.R_lt (by (with_reducible repeat (first | apply Kd.R_alloc | apply Kd.R_drewN | apply Kd.R_drew)); exact (Kd.R_mono (Kd.R_far (p := ⟨gb290, 1, none⟩) (Kd.R_far (p := ⟨gb290, 0, none⟩) (Kd.R_types HO289.out BK290.out (by decide)) (fun _ hk => hk.2) (.int .i64 t283)) (fun _ hk => hk.2) (.slice Ao18 t284.length co18)) (fun _ h_ => h_.1))))) (below_size (bl2 HB GE273 GE290))); replace HO_5 := Aside0.mk (Kd.R_elder' (by (with_reducible repeat (first | apply Kd.R_alloc | apply Kd.R_drewN | apply Kd.R_drew)); exact (Kd.R_mono (Kd.R_far (p := ⟨gb290, 1, none⟩) (Kd.R_far (p := ⟨gb290, 0, none⟩) (Kd.R_types HO_5.out BK290.out (by decide)) (fun _ hk => hk.2) (.int .i64 t283)) (fun _ hk => hk.2) (.slice Ao18 t284.length co18)) (fun _ h_ => h_.1))) (Kd.R_base ho0) hb); replace HO289 := Aside0.mk (Kd.R_elder' (by (with_reducible repeat (first | apply Kd.R_alloc | apply Kd.R_drewN | apply Kd.R_drew)); exact (Kd.R_mono (Kd.R_far (p := ⟨gb290, 1, none⟩) (Kd.R_far (p := ⟨gb290, 0, none⟩) (Kd.R_types HO289.out BK290.out (by decide)) (fun _ hk => hk.2) (.int .i64 t283)) (fun _ hk => hk.2) (.slice Ao18 t284.length co18)) (fun _ h_ => h_.1))) (Kd.R_base ho0) hb); replace BK273 := Aside0.mk (blk_below (g := gb273) (o := .cells #[.int .i64 a0_0, .slice A0_1 l0_1.length c0_1] 25 (0, 0)) (by (with_reducible repeat (first | refine blk_drewN ?_ _ | refine blk_drew ?_ | refine blk_alloc ?_ _)); refine blk_far ?_ NB273_290.out _; refine blk_far ?_ NB273_290.out _; (with_reducible repeat (first | refine blk_drewN ?_ _ | refine blk_drew ?_ | refine blk_alloc ?_ _)); exact BK273.out) hb); replace BK290 := Aside0.mk (blk_below (g := gb290) (o := .cells #[.int .i64 t283, .slice Ao18 t284.length co18] 25 (0, 0)) (by (with_reducible repeat (first | refine blk_drewN ?_ _ | refine blk_drew ?_ | refine blk_alloc ?_ _)); refine blk_put (cs := #[.int .i64 t283, .slice none 0 0]) ?_ 1 _ rfl; refine blk_put (cs := #[.int .i64 0, .slice none 0 0]) ?_ 0 _ rfl; (with_reducible repeat (first | refine blk_drewN ?_ _ | refine blk_drew ?_ | refine blk_alloc ?_ _)); exact BK290.out) hb); replace HB := Aside0.mk (below_step (bl2 HB GE273 GE290) hb); (try clear hb); (try clear hb2); (try clear hk); (try clear hi); (try clear ho0); obtain ⟨Ao20, co20, eo20⟩ := Kd.R_slice HO293.out; subst eo20))
  go_loopg [28] k1 (fun kq v28 w' => ∃ (x5_2 : List Int) (x28_2 : Int), v28 = .int .i64 x28_2 ∧ Aside0 (impl_Net_loads.l1 kq a1 x5_2 x15_1 x15_1 t291 (t291.length : Int) x28_2 a0_0 l0_1 = some r) ∧ Aside0 (kq ≤ k1) ∧ Aside0 (Kd.R (Kd.int .i64) 3 w' w.heap.size (fun k_ => some k_ ≠ ((.slice Ao20 t291.length co20) : Value).ownBlock) v278 x5_2) ∧ Aside0 (Kd.R (Kd.int .i64) 3 w' w.heap.size (fun k_ => some k_ ≠ (v278 : Value).ownBlock) (.slice Ao20 t291.length co20) t291) ∧ Aside0 (Kd.R k41 41 w' w.heap.size (fun _ => True) (.slice Ao18 t284.length co18) t284) ∧ Aside0 (w'.heap[gb273]? = some (.cells #[.int .i64 a0_0, (.slice A0_1 l0_1.length c0_1)] 25 (0, 0))) ∧ Aside0 (w'.heap[gb290]? = some (.cells #[.int .i64 t283, (.slice Ao18 t284.length co18)] 25 (0, 0))) ∧ Aside0 (Below w.heap.size w w'))
  case atStart => exact ⟨(x5_1), (0), (by first | rfl | (simp; done) | (simp [*]; done)), H', ⟨Nat.le_refl _⟩, ⟨by (with_reducible repeat (first | apply Kd.R_alloc | apply Kd.R_drewN | apply Kd.R_drew)); exact Kd.R_mono HO_5.out (fun _ hk => hk.2)⟩, ⟨by (with_reducible repeat (first | apply Kd.R_alloc | apply Kd.R_drewN | apply Kd.R_drew)); exact Kd.R_mono HO293.out (fun _ hk => hk.1.2)⟩, ⟨rk HO286⟩, ⟨bk BK273⟩, ⟨bk BK290⟩, ⟨bl2 HB GE273 GE290⟩⟩
  clear H'
  try clear c1
  try clear p2
  try clear c5
  try clear c6
  try clear c8
  try clear c10
  try clear c10b0
  try clear c16
  try clear hcz13_0
  try clear hcz13_1
  try clear hcz17_0
  try clear hcz17_1
  try clear hcz7_0
  try clear hcz7_1
  try clear hfz13_0
  try clear hfz13_1
  try clear hfz17_0
  try clear hfz17_1
  try clear hfz7_0
  try clear hfz7_1
  try clear p2
  obtain ⟨x5_2, x28_2, rfl, HA, HK2, HO_5, HO_26, HO_291001, BK273, BK290, HB⟩ := hrel
  cases gk with
  | zero => exact absurd HA.out (by simp [impl_Net_loads.l1])
  | succ k2 =>
   have H := HA.out
   clear HA
   simp only [impl_Net_loads.l1] at H
   by_cases c21 : x28_2 < (t291.length : Int)
   rotate_left
   ·rw [if_neg c21] at H
    have c21b0 : decide (x28_2 < (t291.length : Int)) = false := decide_eq_false c21
    clear c21
    have H' := Aside0.mk H
    clear H
    go_wp2
    go_roundg k2
    case measure => have := HK1.out; have := HK2.out; omega
    case rel => exact ⟨(x5_2), (wrap64 (x15_1 + 1)), (by first | rfl | (simp; done) | (simp [*]; done)), H', ⟨by have := HK1.out; have := HK2.out; omega⟩, ⟨by (with_reducible repeat (first | apply Kd.R_alloc | apply Kd.R_drewN | apply Kd.R_drew)); exact Kd.R_mono HO_5.out (fun _ hk => trivial)⟩, ⟨bk BK273⟩, ⟨bl2 HB GE273 GE290⟩⟩
   rw [if_pos c21] at H
   have c21b0 : decide (x28_2 < (t291.length : Int)) = true := decide_eq_true c21
   clear c21
   by_cases c22 : 0 ≤ x28_2
   rotate_left
   ·rw [if_neg c22] at H
    exact absurd H (by simp)
   rw [if_pos c22] at H
   have c22b0 : decide (0 ≤ x28_2) = true := decide_eq_true c22
   clear c22
   by_cases c23 : x28_2 < (t291.length : Int)
   rotate_left
   ·rw [if_neg c23] at H
    exact absurd H (by simp)
   rw [if_pos c23] at H
   have c23b0 : decide (x28_2 < (t291.length : Int)) = true := decide_eq_true c23
   clear c23
   by_cases c24 : (rd t291 x28_2) = 99999
   ·rw [if_pos c24] at H
    have c24b0 : ((rd t291 x28_2) == 99999) = true := beq_iff_eq.mpr c24
    have c24b1 : ((rd t291 x28_2) != 99999) = false := bne_eq_false_iff_eq.mpr c24
    clear c24
    have H' := Aside0.mk H
    clear H
    have p294 : 0 ≤ (x28_2 : Int) := oT (by first | (with_reducible assumption) | assumption)
    have q294 : x28_2 < (t291.length : Int) := oT (by first | (with_reducible assumption) | assumption)
    obtain ⟨ad294, e294, hx294_0⟩ := Kd.at_int (Kd.R_reads' HO_26.out).2.2 x28_2 p294 q294
    cases e294
    replace p294 := eq_true p294
    replace q294 := eq_true q294
    go_wp2
    go_roundg k2
    case measure => have := HK1.out; have := HK2.out; omega
    case rel => exact ⟨(x5_2), (wrap64 (x28_2 + 1)), (by first | rfl | (simp; done) | (simp [*]; done)), H', ⟨by have := HK1.out; have := HK2.out; omega⟩, ⟨rk HO_5⟩, ⟨rk HO_26⟩, ⟨rk HO_291001⟩, ⟨bk BK273⟩, ⟨bk BK290⟩, ⟨bl2 HB GE273 GE290⟩⟩
   rw [if_neg c24] at H
   have c24b0 : ((rd t291 x28_2) == 99999) = false := beq_eq_false_iff_ne.mpr c24
   have c24b1 : ((rd t291 x28_2) != 99999) = true := bne_iff_ne.mpr c24
   by_cases c25 : x28_2 < (x5_2.length : Int)
   rotate_left
   ·rw [if_neg c25] at H
    exact absurd H (by simp)
   rw [if_pos c25] at H
   have c25b0 : decide (x28_2 < (x5_2.length : Int)) = true := decide_eq_true c25
   clear c25
   obtain ⟨y295, hy295⟩ : ∃ y_ : List Int, y_ = (x5_2.set (x28_2 : Int).toNat x15_1) := ⟨_, rfl⟩
   replace H : (impl_Net_loads.l1 k2 a1 y295 x15_1 x15_1 t291 (t291.length : Int) (wrap64 (x28_2 + 1)) a0_0 l0_1) = some r := by first | (rw [hy295]; with_reducible exact H) | (have H2_ := (Option.bind_some _ _).symm.trans H; rw [hy295]; with_reducible exact H2_) | (have H2_ := (Option.bind_some _ _).symm.trans H; with_reducible exact H2_) | with_reducible exact H | (rw [hy295]; exact H) | exact H
   have Ny295 := Aside0.mk hy295
   clear hy295
   have H' := Aside0.mk H
   clear H
   have p294 : 0 ≤ (x28_2 : Int) := oT (by first | (with_reducible assumption) | assumption)
   have q294 : x28_2 < (t291.length : Int) := oT (by first | (with_reducible assumption) | assumption)
   obtain ⟨ad294, e294, hx294_0⟩ := Kd.at_int (Kd.R_reads' HO_26.out).2.2 x28_2 p294 q294
   cases e294
   replace p294 := eq_true p294
   replace q294 := eq_true q294
   have p26 : 0 ≤ (x28_2 : Int) := oT (by first | (with_reducible assumption) | assumption)
   have q26 : (x28_2 : Int) < ((x5_2.length : Int) : Int) := oT (by first | (with_reducible assumption) | assumption)
   obtain ⟨go26, co26, eo26, gb26, gl26, cl26, HG26⟩ := Kd.R_form HO_5.out (by omega)
   (first | cases eo26 | (injection eo26 with ea_ en_ ec_; (first | subst ea_ | (injection ea_ with ea_; subst ea_)); subst ec_; clear en_))
   have GB26 := Aside0.mk gb26
   have GG26 := Aside0.mk HG26
   clear gb26 gl26 HG26
   obtain ⟨hx26_0, hf26_0⟩ := Kd.R_celln 0 HO_5.out (x28_2 : Int) p26 q26
   replace p26 := eq_true p26
   replace q26 := eq_true q26
   have HP27 := Kd.R_putg HO_5.out (x28_2 : Int) x15_1
   go_wp2_with (first | ((with_reducible refine gate_store (t := 3) (p := 38) rfl ?_); refine store_event (t := 3) (p := 38) (v := ?vo_w28) (w1 := (wr.setCell ⟨go26, (x28_2 : Int).toNat, none⟩ (.int .i64 x15_1))) ?hg ?ho ?hn ?hr ?_; (case ho => rfl); (case hg => rfl); (case hn => rfl); (case hr => first | (go_simp; done) | (go_simp; rfl)); intro w28 hw; have hg : wr.grownBy w28 (some go26) := (by rw [hw]; exact HP27.2); have hp_ : Kd.R (Kd.int .i64) 3 w28 w.heap.size (fun k_ => some k_ ≠ (.slice (some ad294) t291.length co20 : Value).ownBlock) (.slice (some ⟨go26, 0, none⟩) x5_2.length co26) y295 := (by rw [hw, Ny295.out]; exact HP27.1); clear HP27; replace HO_26 := Aside0.mk (Kd.R_after (v := (.slice (some ⟨go26, 0, none⟩) x5_2.length co26)) (v1 := (.slice (some ⟨go26, 0, none⟩) x5_2.length co26)) (ok := (fun _ => True)) (by (with_reducible repeat (first | apply Kd.R_alloc | apply Kd.R_drewN | apply Kd.R_drew)); exact Kd.R_mono HO_26.out (fun _ hk => ⟨trivial, hk⟩)) hg (.inl rfl)); replace HO_291001 := Aside0.mk (Kd.R_over' (v := (.slice (some ⟨go26, 0, none⟩) x5_2.length co26)) (rk HO_291001) (Kd.R_typed HO_5.out) (by decide) hg); replace BK273 := Aside0.mk (blk_grown (bk BK273) hg (Kd.R_ne HO_5.out BK273.out (by decide))); replace BK290 := Aside0.mk (blk_grown (bk BK290) hg (Kd.R_ne HO_5.out BK290.out (by decide))); replace HO_5 := Aside0.mk (hp_); replace HB := Aside0.mk ((by rw [hw]; exact below_set (HB.out) GB26.out : Below w.heap.size w w28)); clear hg hw hp_))
   go_roundg k2
   case measure => have := HK1.out; have := HK2.out; omega
   case rel => exact ⟨(y295), (wrap64 (x28_2 + 1)), (by first | rfl | (simp; done) | (simp [*]; done)), H', ⟨by have := HK1.out; have := HK2.out; omega⟩, ⟨rk HO_5⟩, ⟨by (with_reducible repeat (first | apply Kd.R_alloc | apply Kd.R_drewN | apply Kd.R_drew)); exact Kd.R_mono HO_26.out (fun _ hk => hk.2)⟩, ⟨rk HO_291001⟩, ⟨bk BK273⟩, ⟨bk BK290⟩, ⟨bl2 HB GE273 GE290⟩⟩

end Go.Proofs.Ytgickejeakmenaa.F
