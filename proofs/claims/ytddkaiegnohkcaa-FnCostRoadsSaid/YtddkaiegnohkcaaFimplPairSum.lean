-- Printed by wip/px/px.py of this claim's repository (the kit's printer, extended there). Lean checks it.
import Derived.Test.YtddkaiegnohkcaaFKinds
import Derived.Test.YtddkaiegnohkcaaFimplwithin
import Derived.Test.YtddkaiegnohkcaaFimplnodesIn
import Derived.Test.YtddkaiegnohkcaaFimplNetpairs
namespace Go.Proofs.Ytddkaiegnohkcaa.F
open Go.RowKit Go.Proofs.YtddkaiegnohkcaaW.PrintWords Go.Proofs.YtddkaiegnohkcaaW.PrintLast Go.Proofs.YtddkaiegnohkcaaW.PrintMore
attribute [local go_sem] max2_int min2_int max_two min_two max_three min_three max_four min_four   -- for this text's walks alone
set_option linter.unusedVariables false
set_option linter.unusedSimpArgs false

/-! ### impl_PairSum: function 33 -/
mutual
def impl_PairSum.j0 : Nat → Int → Int → Int → Int → Bool → Int → List (S33) → Option (Int)
 | 0, _, _, _, _, _, _, _ => none
 | k + 1, x1, x2, x3, x4, x30, x280000, x280001 => if x30 = true then (some (-1)) else ((impl_Net_pairs.f k x280000 x280001 x1 x2).bind fun t286 => (impl_PairSum.l0 k x3 x4 (-1) t286 (t286.length : Int) 0))
def impl_PairSum.l0 : Nat → Int → Int → Int → List (S35) → Int → Int → Option (Int)
 | 0, _, _, _, _, _, _ => none
 | k + 1, x3, x4, x11, x34, x35, x36 => if x36 < x35 then (if 0 ≤ x36 then (if x36 < (x34.length : Int) then (if x11 < 0 then (impl_PairSum.l0 k x3 x4 (wrap64 ((wrap64 (((rd_T35 x34 x36).f0) * x3)) + (wrap64 (((rd_T35 x34 x36).f1) * x4)))) x34 x35 (wrap64 (x36 + 1))) else (if (wrap64 ((wrap64 (((rd_T35 x34 x36).f0) * x3)) + (wrap64 (((rd_T35 x34 x36).f1) * x4)))) < x11 then (impl_PairSum.l0 k x3 x4 (wrap64 ((wrap64 (((rd_T35 x34 x36).f0) * x3)) + (wrap64 (((rd_T35 x34 x36).f1) * x4)))) x34 x35 (wrap64 (x36 + 1))) else (impl_PairSum.l0 k x3 x4 x11 x34 x35 (wrap64 (x36 + 1))))) else (none)) else (none)) else (some x11)
end
def impl_PairSum.f (k : Nat) (a0_0 : Int) (l0_1 : List (S33)) (a1 : Int) (a2 : Int) (a3 : Int) (a4 : Int) : Option (Int) := (impl_nodesIn.f a0_0 l0_1 (([a1, a2] : List Int))).bind fun t283 => (if t283 = true then ((impl_within.f a3 0 100).bind fun t284 => (if t284 = true then ((impl_within.f a4 0 100).bind fun t285 => (impl_PairSum.j0 k a1 a2 a3 a4 (!t285) a0_0 l0_1)) else (impl_PairSum.j0 k a1 a2 a3 a4 true a0_0 l0_1))) else (impl_PairSum.j0 k a1 a2 a3 a4 true a0_0 l0_1))
theorem impl_PairSum.mono_l : ∀ k, (∀ y0 y1 y2 y3 y4 y5 y6, LeO (impl_PairSum.j0 k y0 y1 y2 y3 y4 y5 y6) (impl_PairSum.j0 (k + 1) y0 y1 y2 y3 y4 y5 y6)) ∧ (∀ y0 y1 y2 y3 y4 y5, LeO (impl_PairSum.l0 k y0 y1 y2 y3 y4 y5) (impl_PairSum.l0 (k + 1) y0 y1 y2 y3 y4 y5))
 | 0 => ⟨fun _ _ _ _ _ _ _ r h => by simp [impl_PairSum.j0] at h, fun _ _ _ _ _ _ r h => by simp [impl_PairSum.l0] at h⟩
 | k + 1 => by
  obtain ⟨ih0, ih1⟩ := impl_PairSum.mono_l k
  refine ⟨?_, ?_⟩
  ·intro y0 y1 y2 y3 y4 y5 y6
   unfold impl_PairSum.j0
   repeat' first | (with_reducible exact ih1 _ _ _ _ _ _) | (with_reducible exact impl_Net_pairs.mono _ _ _ _ _) | (with_reducible exact LeO.refl _) | (with_reducible refine LeO.ite ?_ ?_) | (with_reducible refine LeO.bind ?_ (fun _ => ?_))
  ·intro y0 y1 y2 y3 y4 y5
   unfold impl_PairSum.l0
   repeat' first | (with_reducible exact ih1 _ _ _ _ _ _) | (with_reducible exact LeO.refl _) | (with_reducible refine LeO.ite ?_ ?_)
theorem impl_PairSum.mono : ∀ a0 a1 a2 a3 a4 a5 k, LeO (impl_PairSum.f k a0 a1 a2 a3 a4 a5) (impl_PairSum.f (k + 1) a0 a1 a2 a3 a4 a5) := by
 intro a0 a1 a2 a3 a4 a5 k
 obtain ⟨ih0, ih1⟩ := impl_PairSum.mono_l k
 unfold impl_PairSum.f
 repeat' first | (with_reducible exact ih0 _ _ _ _ _ _ _) | (with_reducible exact LeO.refl _) | (with_reducible refine LeO.ite ?_ ?_) | (with_reducible refine LeO.bind ?_ (fun _ => ?_))
set_option maxHeartbeats 8000000 in
set_option maxRecDepth 100000 in
theorem impl_PairSum.calls (k : Nat) (a0_0 : Int) (A0_1 : Option Addr) (c0_1 : Nat) (l0_1 : List (S33)) (a1 : Int) (a2 : Int) (a3 : Int) (a4 : Int) (r : Int) (w : World) (hr0_1 : Kd.C k33 w A0_1 l0_1.length l0_1) (hc0_1 : l0_1.length ≤ c0_1) (h : impl_PairSum.f k a0_0 l0_1 a1 a2 a3 a4 = some r) :
  Calls Try.prog 33 #[.agg #[.int .i64 a0_0, .slice A0_1 l0_1.length c0_1], .int .i64 a1, .int .i64 a2, .int .i64 a3, .int .i64 a4] w fun e w' => e = .returned (.int .i64 r) ∧ Below w.heap.size w w' := by
 have hu25 := Try.underlying25
 have hu35 := Try.underlying35
 have HR0_1 := ak hr0_1
 have HC0_1 := ak hc0_1
 clear hr0_1 hc0_1
 have HB := ak (Below.refl w.heap.size w)
 have H : ((impl_nodesIn.f a0_0 l0_1 (([a1, a2] : List Int))).bind fun t283 => (if t283 = true then ((impl_within.f a3 0 100).bind fun t284 => (if t284 = true then ((impl_within.f a4 0 100).bind fun t285 => (impl_PairSum.j0 k a1 a2 a3 a4 (!t285) a0_0 l0_1)) else (impl_PairSum.j0 k a1 a2 a3 a4 true a0_0 l0_1))) else (impl_PairSum.j0 k a1 a2 a3 a4 true a0_0 l0_1))) = some r := h
 clear h
 have HC6 := ak H
 clear H
 go_enter Try.func33, Try.ntmps33
 go_upto_region 1 with (((with_reducible refine gate_dst (N := 5) rfl ?_); refine box_event ?hg (N := 5) ?hd (cs := #[.int .i64 a0_0, .slice A0_1 l0_1.length c0_1]) (t := 25) ?hr ?_; (case hd => rfl); (case hg => rfl); (case hr => (go_simp; done)); intro gb279 hg w7 hbox hb; have BK279 := ak (hbox); have GW279 := ak ((by rw [hg]; exact (below_size (bl HB)) : w.heap.size ≤ gb279)); have GE279 := ak ((by rw [hg]; exact (below_size (bl HB)) : w.heap.size ≤ gb279)); replace HB := ak (below_step (bl HB) hb); clear hb hbox hg))
 (try simp only [Act.put, List.setIfInBounds_toArray, List.set_cons_zero, List.set_cons_succ])
 go_cut [30] (fun v30 wc => ∃ (kq : Nat) (x30_5 : Bool), v30 = .bool x30_5 ∧ Aside0 (impl_PairSum.j0 kq a1 a2 a3 a4 x30_5 a0_0 l0_1 = some r) ∧ Aside0 (kq ≤ k) ∧ Aside0 (wc.heap[gb279]? = some (.cells #[.int .i64 a0_0, (.slice A0_1 l0_1.length c0_1)] 25 (0, 0))) ∧ Aside0 (Below w.heap.size w wc))
 case first =>
  have H := HC6.out
  clear HC6
  obtain ⟨y280, hy280⟩ : ∃ y_ : List Int, y_ = (([a1, a2] : List Int)) := ⟨_, rfl⟩
  replace H : ((impl_nodesIn.f a0_0 l0_1 y280).bind fun t283 => (if t283 = true then ((impl_within.f a3 0 100).bind fun t284 => (if t284 = true then ((impl_within.f a4 0 100).bind fun t285 => (impl_PairSum.j0 k a1 a2 a3 a4 (!t285) a0_0 l0_1)) else (impl_PairSum.j0 k a1 a2 a3 a4 true a0_0 l0_1))) else (impl_PairSum.j0 k a1 a2 a3 a4 true a0_0 l0_1))) = some r := by (rw [hy280]; with_reducible exact H)
  have Ny280 := ak hy280
  clear hy280
  replace H := Option.bind_eq_some_iff.mp H
  obtain ⟨t283, A80, H⟩ := H
  have A8 := ak A80
  clear A80
  by_cases c9 : t283 = true
  rotate_left
  ·replace c9 := Bool.eq_false_iff.mpr c9
   subst c9
   rw [if_neg (show ¬ (false = true) by decide)] at H
   have H' := ak H
   clear H
   have hcz23_0 := bc w7 BK279 0 (.int .i64 a0_0) rfl
   have hcz23_1 := bc w7 BK279 1 (.slice A0_1 l0_1.length c0_1) rfl
   have hfz23_0 := fz BK279 0
   have hfz23_1 := fz BK279 1
   go_wp2_with (first | ((with_reducible refine gate_dst (N := 18) rfl ?_); refine Kd.R_lit (Kd.int .i64) _ 3 ?hg (N := 18) ?hd (xs := ([a1, a2] : List Int)) (inner := [.int .i64 a1, .int .i64 a2]) (ok := fun _ => True) (okp := fun _ => True) ?hr ?hp (fun _ hk => hk) trivial (Below.refl _ _) (Nat.le_refl _) (by simp) ?_; (case hd => rfl); (case hg => rfl); (case hr => (go_simp; done)); (case hp => exact (Reps.one (show Kd.M (Kd.int .i64) _ _ _ a1 [.int .i64 a1] from rfl) (Reps.one (show Kd.M (Kd.int .i64) _ _ _ a2 [.int .i64 a2] from rfl) (Reps.none _ _)))); intro v281 w24 ho25 hb hg_ hnew_; clear hg_ hnew_; (rw [← Ny280.out] at ho25); have HO282 := ak (Kd.R_lower ho25 (below_size (bl1 HB GE279))); replace BK279 := ak (blk_below (bk BK279) hb); replace HB := ak (below_step (bl1 HB GE279) hb); clear hb ho25; obtain ⟨Ao26, co26, eo26⟩ := Kd.R_slice HO282.out; subst eo26) | ((with_reducible refine gate_callee (f := 44) rfl ?_); refine goesL_ (some 19) rfl rfl Try.func44 (by kernel_rfl) rfl #[.agg #[.int .i64 a0_0, .slice A0_1 l0_1.length c0_1], .slice Ao26 y280.length co26] rfl (by (try simp only [List.map_toArray, List.map_cons, List.map_nil]); rfl) ?_; (with_reducible refine (impl_nodesIn.calls a0_0 _ _ l0_1 _ _ y280 false _ ?side1 ?side2 ?side3 ?side4 A8.out).mono ?_); (case side1 => repeat (exact (Kd.C_below HR0_1.out HB.out))); (case side2 => exact HC0_1.out); (case side3 => repeat (exact (Kd.R_reads' HO282.out).2.2)); (case side4 => exact (Kd.R_reads' HO282.out).2.1); rintro e w27 ⟨rfl, hb⟩; refine ⟨_, rfl, ?_⟩; replace HO282 := ak (Kd.R_below (rk HO282) hb); replace BK279 := ak (blk_below (bk BK279) hb); replace HB := ak (below_step (bl1 HB GE279) hb); (try clear hb); (try clear hb2); (try clear hk); (try clear hi)))
   go_meet
   case rel => exact ⟨_, (true), (by rfl), H', ⟨by omega⟩, ⟨bk BK279⟩, ⟨bl1 HB GE279⟩⟩
  subst c9
  rw [if_pos rfl] at H
  replace H := Option.bind_eq_some_iff.mp H
  obtain ⟨t284, A100, H⟩ := H
  have A10 := ak A100
  clear A100
  by_cases c11 : t284 = true
  rotate_left
  ·replace c11 := Bool.eq_false_iff.mpr c11
   subst c11
   rw [if_neg (show ¬ (false = true) by decide)] at H
   have H' := ak H
   clear H
   have hcz18_0 := bc w7 BK279 0 (.int .i64 a0_0) rfl
   have hcz18_1 := bc w7 BK279 1 (.slice A0_1 l0_1.length c0_1) rfl
   have hfz18_0 := fz BK279 0
   have hfz18_1 := fz BK279 1
   go_wp2_with (first | ((with_reducible refine gate_dst (N := 18) rfl ?_); refine Kd.R_lit (Kd.int .i64) _ 3 ?hg (N := 18) ?hd (xs := ([a1, a2] : List Int)) (inner := [.int .i64 a1, .int .i64 a2]) (ok := fun _ => True) (okp := fun _ => True) ?hr ?hp (fun _ hk => hk) trivial (Below.refl _ _) (Nat.le_refl _) (by simp) ?_; (case hd => rfl); (case hg => rfl); (case hr => (go_simp; done)); (case hp => exact (Reps.one (show Kd.M (Kd.int .i64) _ _ _ a1 [.int .i64 a1] from rfl) (Reps.one (show Kd.M (Kd.int .i64) _ _ _ a2 [.int .i64 a2] from rfl) (Reps.none _ _)))); intro v281 w19 ho20 hb hg_ hnew_; clear hg_ hnew_; (rw [← Ny280.out] at ho20); have HO282 := ak (Kd.R_lower ho20 (below_size (bl1 HB GE279))); replace BK279 := ak (blk_below (bk BK279) hb); replace HB := ak (below_step (bl1 HB GE279) hb); clear hb ho20; obtain ⟨Ao21, co21, eo21⟩ := Kd.R_slice HO282.out; subst eo21) | ((with_reducible refine gate_callee (f := 44) rfl ?_); refine goesL_ (some 19) rfl rfl Try.func44 (by kernel_rfl) rfl #[.agg #[.int .i64 a0_0, .slice A0_1 l0_1.length c0_1], .slice Ao21 y280.length co21] rfl (by (try simp only [List.map_toArray, List.map_cons, List.map_nil]); rfl) ?_; (with_reducible refine (impl_nodesIn.calls a0_0 _ _ l0_1 _ _ y280 true _ ?side1 ?side2 ?side3 ?side4 A8.out).mono ?_); (case side1 => repeat (exact (Kd.C_below HR0_1.out HB.out))); (case side2 => exact HC0_1.out); (case side3 => repeat (exact (Kd.R_reads' HO282.out).2.2)); (case side4 => exact (Kd.R_reads' HO282.out).2.1); rintro e w22 ⟨rfl, hb⟩; refine ⟨_, rfl, ?_⟩; replace HO282 := ak (Kd.R_below (rk HO282) hb); replace BK279 := ak (blk_below (bk BK279) hb); replace HB := ak (below_step (bl1 HB GE279) hb); (try clear hb); (try clear hb2); (try clear hk); (try clear hi)) | (go_at_call 41; (with_reducible refine (impl_within.calls a3 0 100 false _ A10.out).mono ?_); rintro e w' ⟨rfl, ⟨nd, rfl⟩⟩))
   go_meet
   case rel => exact ⟨_, (true), (by rfl), H', ⟨by omega⟩, ⟨bk BK279⟩, ⟨bl1 HB GE279⟩⟩
  subst c11
  rw [if_pos rfl] at H
  replace H := Option.bind_eq_some_iff.mp H
  obtain ⟨t285, A120, H⟩ := H
  have A12 := ak A120
  clear A120
  have H' := ak H
  clear H
  have hcz13_0 := bc w7 BK279 0 (.int .i64 a0_0) rfl
  have hcz13_1 := bc w7 BK279 1 (.slice A0_1 l0_1.length c0_1) rfl
  have hfz13_0 := fz BK279 0
  have hfz13_1 := fz BK279 1
  go_wp2_with (first | ((with_reducible refine gate_dst (N := 18) rfl ?_); refine Kd.R_lit (Kd.int .i64) _ 3 ?hg (N := 18) ?hd (xs := ([a1, a2] : List Int)) (inner := [.int .i64 a1, .int .i64 a2]) (ok := fun _ => True) (okp := fun _ => True) ?hr ?hp (fun _ hk => hk) trivial (Below.refl _ _) (Nat.le_refl _) (by simp) ?_; (case hd => rfl); (case hg => rfl); (case hr => (go_simp; done)); (case hp => exact (Reps.one (show Kd.M (Kd.int .i64) _ _ _ a1 [.int .i64 a1] from rfl) (Reps.one (show Kd.M (Kd.int .i64) _ _ _ a2 [.int .i64 a2] from rfl) (Reps.none _ _)))); intro v281 w14 ho15 hb hg_ hnew_; clear hg_ hnew_; (rw [← Ny280.out] at ho15); have HO282 := ak (Kd.R_lower ho15 (below_size (bl1 HB GE279))); replace BK279 := ak (blk_below (bk BK279) hb); replace HB := ak (below_step (bl1 HB GE279) hb); clear hb ho15; obtain ⟨Ao16, co16, eo16⟩ := Kd.R_slice HO282.out; subst eo16) | ((with_reducible refine gate_callee (f := 44) rfl ?_); refine goesL_ (some 19) rfl rfl Try.func44 (by kernel_rfl) rfl #[.agg #[.int .i64 a0_0, .slice A0_1 l0_1.length c0_1], .slice Ao16 y280.length co16] rfl (by (try simp only [List.map_toArray, List.map_cons, List.map_nil]); rfl) ?_; (with_reducible refine (impl_nodesIn.calls a0_0 _ _ l0_1 _ _ y280 true _ ?side1 ?side2 ?side3 ?side4 A8.out).mono ?_); (case side1 => repeat (exact (Kd.C_below HR0_1.out HB.out))); (case side2 => exact HC0_1.out); (case side3 => repeat (exact (Kd.R_reads' HO282.out).2.2)); (case side4 => exact (Kd.R_reads' HO282.out).2.1); rintro e w17 ⟨rfl, hb⟩; refine ⟨_, rfl, ?_⟩; replace HO282 := ak (Kd.R_below (rk HO282) hb); replace BK279 := ak (blk_below (bk BK279) hb); replace HB := ak (below_step (bl1 HB GE279) hb); (try clear hb); (try clear hb2); (try clear hk); (try clear hi)) | (go_at_call 41; (with_reducible refine (impl_within.calls a3 0 100 true _ A10.out).mono ?_); rintro e w' ⟨rfl, ⟨nd, rfl⟩⟩) | (go_at_call 41; (with_reducible refine (impl_within.calls a4 0 100 t285 _ A12.out).mono ?_); rintro e w' ⟨rfl, ⟨nd, rfl⟩⟩))
  go_meet
  case rel => exact ⟨_, (!t285), (by rfl), H', ⟨by omega⟩, ⟨bk BK279⟩, ⟨bl1 HB GE279⟩⟩
 clear HC6
 try clear c1
 try clear p2
 try clear c3
 try clear c4
 try clear c9
 try clear c11
 try clear hcz13_0
 try clear hcz13_1
 try clear hcz18_0
 try clear hcz18_1
 try clear hcz23_0
 try clear hcz23_1
 try clear hfz13_0
 try clear hfz13_1
 try clear hfz18_0
 try clear hfz18_1
 try clear hfz23_0
 try clear hfz23_1
 obtain ⟨kq, x30_5, rfl, HA, HJ5, BK279, HB⟩ := hcut
 cases kq with
 | zero => exact absurd HA.out (by simp [impl_PairSum.j0])
 | succ kj5 =>
  have H := HA.out
  clear HA
  simp only [impl_PairSum.j0] at H
  by_cases c28 : x30_5 = true
  ·subst c28
   rw [if_pos rfl] at H
   obtain rfl := Option.some.inj H
   go_wp2
   go_ret
   exact ⟨by rfl, bl1 HB GE279⟩
  replace c28 := Bool.eq_false_iff.mpr c28
  subst c28
  rw [if_neg (show ¬ (false = true) by decide)] at H
  replace H := Option.bind_eq_some_iff.mp H
  obtain ⟨t286, A290, H⟩ := H
  have A29 := ak A290
  clear A290
  have H' := ak H
  clear H
  have hcz30_0 := bc wc BK279 0 (.int .i64 a0_0) rfl
  have hcz30_1 := bc wc BK279 1 (.slice A0_1 l0_1.length c0_1) rfl
  have hfz30_0 := fz BK279 0
  have hfz30_1 := fz BK279 1
  go_wp2_with (((with_reducible refine gate_callee (f := 45) rfl ?_); refine goesL_ (some 34) rfl rfl Try.func45 (by kernel_rfl) rfl #[.agg #[.int .i64 a0_0, .slice A0_1 l0_1.length c0_1], .int .i64 a1, .int .i64 a2] rfl (by (try simp only [List.map_toArray, List.map_cons, List.map_nil]); rfl) ?_; (with_reducible refine (impl_Net_pairs.calls kj5 a0_0 _ _ l0_1 a1 a2 t286 _ ?side1 ?side2 A29.out).mono ?_); (case side1 => repeat (exact (Kd.C_below HR0_1.out HB.out))); (case side2 => exact HC0_1.out); rintro e w31 ⟨v287, rfl, ho0, hb⟩; refine ⟨_, rfl, ?_⟩; have HO288 := ak (Kd.R_lower ho0 (below_size (bl1 HB GE279))); replace BK279 := ak (blk_below (bk BK279) hb); replace HB := ak (below_step (bl1 HB GE279) hb); (try clear hb); (try clear hb2); (try clear hk); (try clear hi); (try clear ho0); obtain ⟨Ao32, co32, eo32⟩ := Kd.R_slice HO288.out; subst eo32))
  go_loopg [11, 36] kj5 (fun kq v11 v36 w' => ∃ (x11_2 : Int) (x36_2 : Int), v11 = .int .i64 x11_2 ∧ v36 = .int .i64 x36_2 ∧ Aside0 (impl_PairSum.l0 kq a3 a4 x11_2 t286 (t286.length : Int) x36_2 = some r) ∧ Aside0 (kq ≤ kj5) ∧ Aside0 (Kd.R k35 35 w' w.heap.size (fun _ => True) (.slice Ao32 t286.length co32) t286) ∧ Aside0 (w'.heap[gb279]? = some (.cells #[.int .i64 a0_0, (.slice A0_1 l0_1.length c0_1)] 25 (0, 0))) ∧ Aside0 (Below w.heap.size w w'))
  case atStart => exact ⟨((-1)), (0), (by rfl), (by rfl), H', ⟨Nat.le_refl _⟩, ⟨rk HO288⟩, ⟨bk BK279⟩, ⟨bl1 HB GE279⟩⟩
  clear H'
  try clear c1
  try clear c2
  try clear p2
  try clear c3
  try clear c4
  try clear c9
  try clear c11
  try clear c28
  try clear hcz13_0
  try clear hcz13_1
  try clear hcz18_0
  try clear hcz18_1
  try clear hcz23_0
  try clear hcz23_1
  try clear hcz30_0
  try clear hcz30_1
  try clear hfz13_0
  try clear hfz13_1
  try clear hfz18_0
  try clear hfz18_1
  try clear hfz23_0
  try clear hfz23_1
  try clear hfz30_0
  try clear hfz30_1
  try clear p2
  obtain ⟨x11_2, x36_2, rfl, rfl, HA, HK2, HO_34, BK279, HB⟩ := hrel
  cases gk with
  | zero => exact absurd HA.out (by simp [impl_PairSum.l0])
  | succ k2 =>
   have H := HA.out
   clear HA
   simp only [impl_PairSum.l0] at H
   by_cases c33 : x36_2 < (t286.length : Int)
   rotate_left
   ·rw [if_neg c33] at H
    have c33b0 : decide (x36_2 < (t286.length : Int)) = false := decide_eq_false c33
    clear c33
    obtain rfl := Option.some.inj H
    go_wp2
    go_ret
    exact ⟨by rfl, bl1 HB GE279⟩
   rw [if_pos c33] at H
   have c33b0 : decide (x36_2 < (t286.length : Int)) = true := decide_eq_true c33
   clear c33
   by_cases c34 : 0 ≤ x36_2
   rotate_left
   ·rw [if_neg c34] at H
    exact absurd H (by simp)
   rw [if_pos c34] at H
   have c34b0 : decide (0 ≤ x36_2) = true := decide_eq_true c34
   clear c34
   by_cases c35 : x36_2 < (t286.length : Int)
   rotate_left
   ·rw [if_neg c35] at H
    exact absurd H (by simp)
   rw [if_pos c35] at H
   have c35b0 : decide (x36_2 < (t286.length : Int)) = true := decide_eq_true c35
   clear c35
   by_cases c36 : x11_2 < 0
   ·rw [if_pos c36] at H
    have c36b0 : decide (x11_2 < 0) = true := decide_eq_true c36
    clear c36
    have H' := ak H
    clear H
    have p289 : 0 ≤ (x36_2 : Int) := oT (by (with_reducible assumption))
    have q289 : x36_2 < (t286.length : Int) := oT (by (with_reducible assumption))
    obtain ⟨ad289, e289, hx289_0, hx289_1⟩ := at_T35 (Kd.R_reads' HO_34.out).2.2 x36_2 p289 q289
    cases e289
    replace p289 := eq_true p289
    replace q289 := eq_true q289
    go_wp2_with (((with_reducible refine gate_dst (N := 13) rfl ?_); refine box_event ?hg (N := 13) ?hd (cs := #[.int .i64 0, .int .i64 0]) (t := 35) ?hr ?_; (case hd => rfl); (case hg => rfl); (case hr => (go_simp; done)); intro gb290 hg w37 hbox hb; replace HO_34 := ak (Kd.R_below (Kd.R_elderB (rk HO_34) gb290 (Nat.le_of_eq hg.symm)) hb); have BK290 := ak (hbox); have GW290 := ak ((by rw [hg]; exact (below_size (bl1 HB GE279)) : w.heap.size ≤ gb290)); have GE290 := ak ((by rw [hg]; exact (below_size (bl1 HB GE279)) : w.heap.size ≤ gb290)); replace HB := ak (below_step (bl1 HB GE279) hb); have NB279_290 := ak ((by rw [hg]; exact Nat.ne_of_lt (blk_lt (bk BK279)) : gb279 ≠ gb290)); have NB290_279 := ak ((by rw [hg]; exact Nat.ne_of_gt (blk_lt (bk BK279)) : gb290 ≠ gb279)); replace BK279 := ak (blk_below (bk BK279) hb); clear hb hbox hg; have hnb38 := NB290_279.out; have hnc38 := NB279_290.out; have hcz39_0 := bc w37 BK290 0 (.int .i64 0) rfl; have hcz39_1 := bc w37 BK290 1 (.int .i64 0) rfl; have hfz39_0 := fz BK290 0; have hfz39_1 := fz BK290 1))
    go_roundg k2
    case measure => have := HJ5.out; have := HK2.out; omega
    case rel => exact ⟨(wrap64 ((wrap64 (((rd_T35 t286 x36_2).f0) * a3)) + (wrap64 (((rd_T35 t286 x36_2).f1) * a4)))), (wrap64 (x36_2 + 1)), (by rfl), (by rfl), H', ⟨by have := HJ5.out; have := HK2.out; omega⟩, ⟨by exact Kd.R_mono (Kd.R_far (p := ⟨gb290, 1, none⟩) (Kd.R_far (p := ⟨gb290, 0, none⟩) (Kd.R_mono HO_34.out (fun k_ hk => (⟨hk, hk.2⟩ : _ ∧ k_ ≠ gb290))) (fun _ hk => hk.2) (.int .i64 ((rd_T35 t286 x36_2).f0))) (fun _ hk => hk.2) (.int .i64 ((rd_T35 t286 x36_2).f1))) (fun _ hk => trivial)⟩, ⟨by refine blk_far ?_ NB279_290.out _; refine blk_far ?_ NB279_290.out _; exact BK279.out⟩, ⟨bl2 HB GE279 GE290⟩⟩
   rw [if_neg c36] at H
   have c36b0 : decide (x11_2 < 0) = false := decide_eq_false c36
   clear c36
   by_cases c40 : (wrap64 ((wrap64 (((rd_T35 t286 x36_2).f0) * a3)) + (wrap64 (((rd_T35 t286 x36_2).f1) * a4)))) < x11_2
   rotate_left
   ·rw [if_neg c40] at H
    have c40b0 : decide ((wrap64 ((wrap64 (((rd_T35 t286 x36_2).f0) * a3)) + (wrap64 (((rd_T35 t286 x36_2).f1) * a4)))) < x11_2) = false := decide_eq_false c40
    clear c40
    have H' := ak H
    clear H
    have p289 : 0 ≤ (x36_2 : Int) := oT (by (with_reducible assumption))
    have q289 : x36_2 < (t286.length : Int) := oT (by (with_reducible assumption))
    obtain ⟨ad289, e289, hx289_0, hx289_1⟩ := at_T35 (Kd.R_reads' HO_34.out).2.2 x36_2 p289 q289
    cases e289
    replace p289 := eq_true p289
    replace q289 := eq_true q289
    go_wp2_with (((with_reducible refine gate_dst (N := 13) rfl ?_); refine box_event ?hg (N := 13) ?hd (cs := #[.int .i64 0, .int .i64 0]) (t := 35) ?hr ?_; (case hd => rfl); (case hg => rfl); (case hr => (go_simp; done)); intro gb290 hg w44 hbox hb; replace HO_34 := ak (Kd.R_below (Kd.R_elderB (rk HO_34) gb290 (Nat.le_of_eq hg.symm)) hb); have BK290 := ak (hbox); have GW290 := ak ((by rw [hg]; exact (below_size (bl1 HB GE279)) : w.heap.size ≤ gb290)); have GE290 := ak ((by rw [hg]; exact (below_size (bl1 HB GE279)) : w.heap.size ≤ gb290)); replace HB := ak (below_step (bl1 HB GE279) hb); have NB279_290 := ak ((by rw [hg]; exact Nat.ne_of_lt (blk_lt (bk BK279)) : gb279 ≠ gb290)); have NB290_279 := ak ((by rw [hg]; exact Nat.ne_of_gt (blk_lt (bk BK279)) : gb290 ≠ gb279)); replace BK279 := ak (blk_below (bk BK279) hb); clear hb hbox hg; have hnb45 := NB290_279.out; have hnc45 := NB279_290.out; have hcz46_0 := bc w44 BK290 0 (.int .i64 0) rfl; have hcz46_1 := bc w44 BK290 1 (.int .i64 0) rfl; have hfz46_0 := fz BK290 0; have hfz46_1 := fz BK290 1))
    go_roundg k2
    case measure => have := HJ5.out; have := HK2.out; omega
    case rel => exact ⟨(x11_2), (wrap64 (x36_2 + 1)), (by rfl), (by rfl), H', ⟨by have := HJ5.out; have := HK2.out; omega⟩, ⟨by exact Kd.R_mono (Kd.R_far (p := ⟨gb290, 1, none⟩) (Kd.R_far (p := ⟨gb290, 0, none⟩) (Kd.R_mono HO_34.out (fun k_ hk => (⟨hk, hk.2⟩ : _ ∧ k_ ≠ gb290))) (fun _ hk => hk.2) (.int .i64 ((rd_T35 t286 x36_2).f0))) (fun _ hk => hk.2) (.int .i64 ((rd_T35 t286 x36_2).f1))) (fun _ hk => trivial)⟩, ⟨by refine blk_far ?_ NB279_290.out _; refine blk_far ?_ NB279_290.out _; exact BK279.out⟩, ⟨bl2 HB GE279 GE290⟩⟩
   rw [if_pos c40] at H
   have c40b0 : decide ((wrap64 ((wrap64 (((rd_T35 t286 x36_2).f0) * a3)) + (wrap64 (((rd_T35 t286 x36_2).f1) * a4)))) < x11_2) = true := decide_eq_true c40
   clear c40
   have H' := ak H
   clear H
   have p289 : 0 ≤ (x36_2 : Int) := oT (by (with_reducible assumption))
   have q289 : x36_2 < (t286.length : Int) := oT (by (with_reducible assumption))
   obtain ⟨ad289, e289, hx289_0, hx289_1⟩ := at_T35 (Kd.R_reads' HO_34.out).2.2 x36_2 p289 q289
   cases e289
   replace p289 := eq_true p289
   replace q289 := eq_true q289
   go_wp2_with (((with_reducible refine gate_dst (N := 13) rfl ?_); refine box_event ?hg (N := 13) ?hd (cs := #[.int .i64 0, .int .i64 0]) (t := 35) ?hr ?_; (case hd => rfl); (case hg => rfl); (case hr => (go_simp; done)); intro gb290 hg w41 hbox hb; replace HO_34 := ak (Kd.R_below (Kd.R_elderB (rk HO_34) gb290 (Nat.le_of_eq hg.symm)) hb); have BK290 := ak (hbox); have GW290 := ak ((by rw [hg]; exact (below_size (bl1 HB GE279)) : w.heap.size ≤ gb290)); have GE290 := ak ((by rw [hg]; exact (below_size (bl1 HB GE279)) : w.heap.size ≤ gb290)); replace HB := ak (below_step (bl1 HB GE279) hb); have NB279_290 := ak ((by rw [hg]; exact Nat.ne_of_lt (blk_lt (bk BK279)) : gb279 ≠ gb290)); have NB290_279 := ak ((by rw [hg]; exact Nat.ne_of_gt (blk_lt (bk BK279)) : gb290 ≠ gb279)); replace BK279 := ak (blk_below (bk BK279) hb); clear hb hbox hg; have hnb42 := NB290_279.out; have hnc42 := NB279_290.out; have hcz43_0 := bc w41 BK290 0 (.int .i64 0) rfl; have hcz43_1 := bc w41 BK290 1 (.int .i64 0) rfl; have hfz43_0 := fz BK290 0; have hfz43_1 := fz BK290 1))
   go_roundg k2
   case measure => have := HJ5.out; have := HK2.out; omega
   case rel => exact ⟨(wrap64 ((wrap64 (((rd_T35 t286 x36_2).f0) * a3)) + (wrap64 (((rd_T35 t286 x36_2).f1) * a4)))), (wrap64 (x36_2 + 1)), (by rfl), (by rfl), H', ⟨by have := HJ5.out; have := HK2.out; omega⟩, ⟨by exact Kd.R_mono (Kd.R_far (p := ⟨gb290, 1, none⟩) (Kd.R_far (p := ⟨gb290, 0, none⟩) (Kd.R_mono HO_34.out (fun k_ hk => (⟨hk, hk.2⟩ : _ ∧ k_ ≠ gb290))) (fun _ hk => hk.2) (.int .i64 ((rd_T35 t286 x36_2).f0))) (fun _ hk => hk.2) (.int .i64 ((rd_T35 t286 x36_2).f1))) (fun _ hk => trivial)⟩, ⟨by refine blk_far ?_ NB279_290.out _; refine blk_far ?_ NB279_290.out _; exact BK279.out⟩, ⟨bl2 HB GE279 GE290⟩⟩

end Go.Proofs.Ytddkaiegnohkcaa.F
