-- Printed by wip/px/px.py of this claim's repository (the kit's printer, extended there). Lean checks it.
import Derived.Test.YtgickejeakmenaaFKinds
import Derived.Test.YtgickejeakmenaaFimplArc110
namespace Go.Proofs.Ytgickejeakmenaa.F
open Go.RowKit Go.Proofs.YtgickejeakmenaaW.PrintWords Go.Proofs.YtgickejeakmenaaW.PrintLast Go.Proofs.YtgickejeakmenaaW.PrintMore
attribute [local go_sem] max2_int min2_int max_two min_two max_three min_three max_four min_four   -- for this text's walks alone
set_option linter.unusedVariables false
set_option linter.unusedSimpArgs false

/-! ### impl_Net_loaded: function 67 -/
def impl_Net_loaded.l0 : Nat → Int → List Int → List (S41) → Int → Int → Int → List (S41) → Option (Int × (List (S41)) × List Int)
 | 0, _, _, _, _, _, _, _ => none
 | k + 1, x1, x7, x15, x16, x17, x400000, x400001 => if x17 < x16 then (if 0 ≤ x17 then (if x17 < (x15.length : Int) then (if ((rd_T41 x15 x17).f4) ≥ x1 then (if x400001.length < 3518437208883 then (if x7.length < 17592186044416 then (impl_Net_loaded.l0 k x1 (x7 ++ [x17]) x15 x16 (wrap64 (x17 + 1)) x400000 (x400001 ++ [(⟨(rd_T41 x15 x17).f0, (rd_T41 x15 x17).f1, (rd_T41 x15 x17).f2, (rd_T41 x15 x17).f3, (rd_T41 x15 x17).f4⟩ : S41)])) else (none)) else (none)) else (impl_Net_loaded.l0 k x1 x7 x15 x16 (wrap64 (x17 + 1)) x400000 x400001)) else (none)) else (none)) else ((impl_Arc_110.f x400001).bind fun t411 => (some (x400000, t411, x7)))
def impl_Net_loaded.f (k : Nat) (a0_0 : Int) (l0_1 : List (S41)) (a1 : Int) : Option (Int × (List (S41)) × List Int) := impl_Net_loaded.l0 k a1 (([] : List Int)) l0_1 (l0_1.length : Int) 0 a0_0 ([] : List (S41))
theorem impl_Net_loaded.mono_l : ∀ k, (∀ y0 y1 y2 y3 y4 y5 y6, LeO (impl_Net_loaded.l0 k y0 y1 y2 y3 y4 y5 y6) (impl_Net_loaded.l0 (k + 1) y0 y1 y2 y3 y4 y5 y6))
 | 0 => fun _ _ _ _ _ _ _ r h => by simp [impl_Net_loaded.l0] at h
 | k + 1 => by
  have ih0 := impl_Net_loaded.mono_l k
  ·intro y0 y1 y2 y3 y4 y5 y6
   unfold impl_Net_loaded.l0
   repeat' first | (with_reducible exact ih0 _ _ _ _ _ _ _) | (with_reducible exact LeO.refl _) | (with_reducible refine LeO.ite ?_ ?_)
theorem impl_Net_loaded.mono : ∀ a0 a1 a2 k, LeO (impl_Net_loaded.f k a0 a1 a2) (impl_Net_loaded.f (k + 1) a0 a1 a2) := by
 intro a0 a1 a2 k
 have ih0 := impl_Net_loaded.mono_l k
 unfold impl_Net_loaded.f
 repeat' (with_reducible exact ih0 _ _ _ _ _ _ _)
set_option maxHeartbeats 8000000 in
set_option maxRecDepth 100000 in
theorem impl_Net_loaded.calls (k : Nat) (a0_0 : Int) (A0_1 : Option Addr) (c0_1 : Nat) (l0_1 : List (S41)) (a1 : Int) (r1 : Int) (r2 : List (S41)) (r3 : List Int) (w : World) (hr0_1 : Kd.C k41 w A0_1 l0_1.length l0_1) (hc0_1 : l0_1.length ≤ c0_1) (h : impl_Net_loaded.f k a0_0 l0_1 a1 = some (r1, r2, r3)) :
  Calls Try.prog 67 #[.agg #[.int .i64 a0_0, .slice A0_1 l0_1.length c0_1], .int .i64 a1] w fun e w' => ∃ v1_ v2_ : Value, e = .returned (.tuple #[.agg #[.int .i64 r1, v1_], v2_]) ∧ Kd.R k41 41 w' w.heap.size (fun _ => True) v1_ r2 ∧ Kd.R (Kd.int .i64) 3 w' w.heap.size (fun _ => True) v2_ r3 ∧ Below w.heap.size w w' := by
 have hu25 := Try.underlying25
 have hu41 := Try.underlying41
 have HR0_1 := Aside0.mk hr0_1
 have HC0_1 := Aside0.mk hc0_1
 clear hr0_1 hc0_1
 have HB := Aside0.mk (Below.refl w.heap.size w)
 have H : (impl_Net_loaded.l0 k a1 (([] : List Int)) l0_1 (l0_1.length : Int) 0 a0_0 ([] : List (S41))) = some (r1, r2, r3) := h
 clear h
 obtain ⟨y400, hy400⟩ : ∃ y_ : List Int, y_ = (([] : List Int)) := ⟨_, rfl⟩
 replace H : (impl_Net_loaded.l0 k a1 y400 l0_1 (l0_1.length : Int) 0 a0_0 ([] : List (S41))) = some (r1, r2, r3) := by (rw [hy400]; with_reducible exact H)
 have Ny400 := Aside0.mk hy400
 clear hy400
 have H' := Aside0.mk H
 clear H
 go_enter Try.func67, Try.ntmps67
 go_wp2_with (first | ((with_reducible refine gate_dst (N := 2) rfl ?_); refine box_event ?hg (N := 2) ?hd (cs := #[.int .i64 a0_0, .slice A0_1 l0_1.length c0_1]) (t := 25) ?hr ?_; (case hd => rfl); (case hg => rfl); (case hr => (go_simp; done)); intro gb397 hg w3 hbox hb; have BK397 := Aside0.mk (hbox); have GW397 := Aside0.mk ((by rw [hg]; exact (below_size (bl HB)) : w.heap.size ≤ gb397)); have GE397 := Aside0.mk ((by rw [hg]; exact (below_size (bl HB)) : w.heap.size ≤ gb397)); replace HB := Aside0.mk (below_step (bl HB) hb); clear hb hbox hg) | ((with_reducible refine gate_dst (N := 4) rfl ?_); refine box_event ?hg (N := 4) ?hd (cs := #[.int .i64 0, .slice none 0 0]) (t := 25) ?hr ?_; (case hd => rfl); (case hg => rfl); (case hr => (go_simp; done)); intro gb398 hg w4 hbox hb; have BK398 := Aside0.mk (hbox); have GW398 := Aside0.mk ((by rw [hg]; exact (below_size (bl1 HB GE397)) : w.heap.size ≤ gb398)); have GE398 := Aside0.mk ((by rw [hg]; exact (below_size (bl1 HB GE397)) : w.heap.size ≤ gb398)); replace HB := Aside0.mk (below_step (bl1 HB GE397) hb); have NB397_398 := Aside0.mk ((by rw [hg]; exact Nat.ne_of_lt (blk_lt (bk BK397)) : gb397 ≠ gb398)); have NB398_397 := Aside0.mk ((by rw [hg]; exact Nat.ne_of_gt (blk_lt (bk BK397)) : gb398 ≠ gb397)); replace BK397 := Aside0.mk (blk_below (bk BK397) hb); clear hb hbox hg; have hnb5 := NB397_398.out; have hnc5 := NB398_397.out; have hcz6_0 := bc w4 BK397 0 (.int .i64 a0_0) rfl; have hcz6_1 := bc w4 BK397 1 (.slice A0_1 l0_1.length c0_1) rfl; have hfz6_0 := fz BK397 0; have hfz6_1 := fz BK397 1) | ((with_reducible refine gate_dst (N := 6) rfl ?_); refine box_event ?hg (N := 6) ?hd (cs := #[.int .i64 0, .slice none 0 0]) (t := 25) ?hr ?_; (case hd => rfl); (case hg => rfl); (case hr => (go_simp; done)); intro gb399 hg w7 hbox hb; have BK399 := Aside0.mk (hbox); have GW399 := Aside0.mk ((by rw [hg]; exact (below_size (bl2 HB GE397 GE398)) : w.heap.size ≤ gb399)); have GE399 := Aside0.mk ((by rw [hg]; exact (below_size (bl2 HB GE397 GE398)) : w.heap.size ≤ gb399)); replace HB := Aside0.mk (below_step (bl2 HB GE397 GE398) hb); have NB397_399 := Aside0.mk ((by rw [hg]; exact Nat.ne_of_lt (blk_lt (bk BK397)) : gb397 ≠ gb399)); have NB399_397 := Aside0.mk ((by rw [hg]; exact Nat.ne_of_gt (blk_lt (bk BK397)) : gb399 ≠ gb397)); replace BK397 := Aside0.mk (blk_below (bk BK397) hb); have NB398_399 := Aside0.mk ((by rw [hg]; exact Nat.ne_of_lt (blk_lt (bk BK398)) : gb398 ≠ gb399)); have NB399_398 := Aside0.mk ((by rw [hg]; exact Nat.ne_of_gt (blk_lt (bk BK398)) : gb399 ≠ gb398)); replace BK398 := Aside0.mk (blk_below (bk BK398) hb); clear hb hbox hg; have hnb8 := NB399_397.out; have hnc8 := NB397_399.out; have hnb9 := NB399_398.out; have hnc9 := NB398_399.out; have hcz10_0 := bc w7 BK399 0 (.int .i64 0) rfl; have hcz10_1 := bc w7 BK399 1 (.slice none 0 0) rfl; have hfz10_0 := fz BK399 0; have hfz10_1 := fz BK399 1) | ((with_reducible refine gate_dst (N := 13) rfl ?_); refine Kd.R_lit (Kd.int .i64) _ 3 ?hg (N := 13) ?hd (xs := ([] : List Int)) (inner := []) (ok := fun _ => True) (okp := fun _ => True) ?hr ?hp (fun _ hk => hk) trivial (Below.refl _ _) (Nat.le_refl _) (by simp) ?_; (case hd => rfl); (case hg => rfl); (case hr => (go_simp; done)); (case hp => exact (Reps.none _ _)); intro v401 w11 ho12 hb hg_ hnew_; clear hg_ hnew_; (rw [← Ny400.out] at ho12); have HO402 := Aside0.mk (Kd.R_lower ho12 (below_size (bl3 HB GE397 GE398 GE399))); replace BK397 := Aside0.mk (blk_below (g := gb397) (o := .cells #[.int .i64 a0_0, .slice A0_1 l0_1.length c0_1] 25 (0, 0)) (by (with_reducible repeat (fail)); refine blk_far ?_ NB397_399.out _; refine blk_far ?_ NB397_399.out _; (with_reducible repeat (fail)); exact BK397.out) hb); replace BK398 := Aside0.mk (blk_below (g := gb398) (o := .cells #[.int .i64 0, .slice none 0 0] 25 (0, 0)) (by (with_reducible repeat (fail)); refine blk_far ?_ NB398_399.out _; refine blk_far ?_ NB398_399.out _; (with_reducible repeat (fail)); exact BK398.out) hb); replace BK399 := Aside0.mk (blk_below (g := gb399) (o := .cells #[.int .i64 a0_0, .slice none 0 0] 25 (0, 0)) (by (with_reducible repeat (fail)); refine blk_put (cs := #[.int .i64 a0_0, .slice none 0 0]) ?_ 1 _ rfl; refine blk_put (cs := #[.int .i64 0, .slice none 0 0]) ?_ 0 _ rfl; (with_reducible repeat (fail)); exact BK399.out) hb); replace HB := Aside0.mk (below_step (bl3 HB GE397 GE398 GE399) hb); clear hb ho12; have hcz13_0 := bc w11 BK397 0 (.int .i64 a0_0) rfl; have hcz13_1 := bc w11 BK397 1 (.slice A0_1 l0_1.length c0_1) rfl; have hfz13_0 := fz BK397 0; have hfz13_1 := fz BK397 1))
 go_loopg [7, 17] k (fun kq v7 v17 w' => ∃ (x7_1 : List Int) (x17_1 : Int) (x400001_1 : List (S41)) (u400001 : Value), v17 = .int .i64 x17_1 ∧ Aside0 (impl_Net_loaded.l0 kq a1 x7_1 l0_1 (l0_1.length : Int) x17_1 a0_0 x400001_1 = some (r1, r2, r3)) ∧ Aside0 (kq ≤ k) ∧ Aside0 (Kd.R (Kd.int .i64) 3 w' w.heap.size (fun _ => True) v7 x7_1) ∧ Aside0 (Kd.R k41 41 w' w.heap.size (fun _ => True) u400001 x400001_1) ∧ Aside0 (w'.heap[gb397]? = some (.cells #[.int .i64 a0_0, (.slice A0_1 l0_1.length c0_1)] 25 (0, 0))) ∧ Aside0 (w'.heap[gb398]? = some (.cells #[.int .i64 0, (.slice none 0 0)] 25 (0, 0))) ∧ Aside0 (w'.heap[gb399]? = some (.cells #[.int .i64 a0_0, u400001] 25 (0, 0))) ∧ Aside0 (Below w.heap.size w w'))
 case atStart => exact ⟨(y400), (0), (([] : List (S41))), (.slice none 0 0), (by rfl), H', ⟨Nat.le_refl _⟩, ⟨rk HO402⟩, ⟨by exact Kd.R_nil _ _ _ _ _⟩, ⟨bk BK397⟩, ⟨bk BK398⟩, ⟨bk BK399⟩, ⟨bl3 HB GE397 GE398 GE399⟩⟩
 clear H'
 try clear p2
 try clear c5
 try clear c6
 try clear c8
 try clear c9
 try clear hcz10_0
 try clear hcz10_1
 try clear hcz13_0
 try clear hcz13_1
 try clear hcz6_0
 try clear hcz6_1
 try clear hfz10_0
 try clear hfz10_1
 try clear hfz13_0
 try clear hfz13_1
 try clear hfz6_0
 try clear hfz6_1
 obtain ⟨x7_1, x17_1, x400001_1, u400001, rfl, HA, HK1, HO_7, HO_400001, BK397, BK398, BK399, HB⟩ := hrel
 cases gk with
 | zero => exact absurd HA.out (by simp [impl_Net_loaded.l0])
 | succ k1 =>
  have H := HA.out
  clear HA
  simp only [impl_Net_loaded.l0] at H
  by_cases c14 : x17_1 < (l0_1.length : Int)
  rotate_left
  ·rw [if_neg c14] at H
   have c14b0 : decide (x17_1 < (l0_1.length : Int)) = false := decide_eq_false c14
   clear c14
   replace H := Option.bind_eq_some_iff.mp H
   obtain ⟨t411, A370, H⟩ := H
   have A37 := Aside0.mk A370
   clear A370
   simp only [Option.some.injEq, Prod.mk.injEq] at H
   obtain ⟨rfl, rfl, rfl⟩ := H
   have hnb38 := NB399_397.out
   have hnc38 := NB397_399.out
   have hnb39 := NB399_398.out
   have hnc39 := NB398_399.out
   have hcz40_0 := bc wr BK399 0 (.int .i64 a0_0) rfl
   have hcz40_1 := bc wr BK399 1 (u400001) rfl
   have hfz40_0 := fz BK399 0
   have hfz40_1 := fz BK399 1
   obtain ⟨Ao41, co41, eo41⟩ := Kd.R_slice HO_400001.out
   subst eo41
   go_wp2_with (((with_reducible refine gate_callee (f := 110) rfl ?_); refine goesL_ (some 39) rfl rfl Try.func110 (by kernel_rfl) rfl #[.slice Ao41 x400001_1.length co41] rfl (by (try simp only [List.map_toArray, List.map_cons, List.map_nil]); rfl) ?_; (with_reducible refine (impl_Arc_110.calls (fun k_ => some k_ = (.slice Ao41 x400001_1.length co41 : Value).ownBlock) (.slice Ao41 x400001_1.length co41) x400001_1 t411 w _ ?side1 ?side2 A37.out).mono ?_); (case side1 => repeat ((with_reducible exact HB.out))); (case side2 => exact Kd.R_tight rfl HO_400001.out); rintro e w42 ⟨v412, rfl, ho0, hb, hkp⟩; refine ⟨_, rfl, ?_⟩; have n0_ := Aside0.mk (Kd.R_mono (ok' := fun k_ => True) (Kd.R_keptB ((Kd.R_apart' HO_7.out (Kd.R_typed HO_400001.out) (by decide))) hkp (fun k_ hk_ hs_ => (hk_.2) hs_)) (fun k_ hk_ => trivial)); have n1_ := Aside0.mk (blk_kept (bk BK397) hkp (fun hs_ => (fun e_ => (Kd.R_ne HO_400001.out BK397.out (by decide)) e_) hs_)); have n2_ := Aside0.mk (blk_kept (bk BK398) hkp (fun hs_ => (fun e_ => (Kd.R_ne HO_400001.out BK398.out (by decide)) e_) hs_)); have n3_ := Aside0.mk (blk_kept (bk BK399) hkp (fun hs_ => (fun e_ => (Kd.R_ne HO_400001.out BK399.out (by decide)) e_) hs_)); have n4_ := Aside0.mk (Kd.R_mono (ok' := fun k_ => True) ho0 (fun k_ hk_ => trivial)); have n5_ := Aside0.mk (hb); clear HO_7; clear BK397; clear BK398; clear BK399; clear HB; clear HO_400001; have HO_7 := n0_; have BK397 := n1_; have BK398 := n2_; have BK399 := n3_; have HO413 := n4_; have HB := n5_; clear n0_ n1_ n2_ n3_ n4_ n5_; (try clear hb); (try clear hkp); (try clear ho0); obtain ⟨Ao43, co43, eo43⟩ := Kd.R_slice HO413.out; subst eo43; have hcz44_0 := bc w42 BK399 0 (.int .i64 a0_0) rfl; have hcz44_1 := bc w42 BK399 1 (.slice Ao41 x400001_1.length co41) rfl; have hfz44_0 := fz BK399 0; have hfz44_1 := fz BK399 1; have hnb45 := NB398_397.out; have hnc45 := NB397_398.out; have hcz46_0 := bc w42 BK398 0 (.int .i64 0) rfl; have hcz46_1 := bc w42 BK398 1 (.slice none 0 0) rfl; have hfz46_0 := fz BK398 0; have hfz46_1 := fz BK398 1))
   refine bodyPost_ret (results_ct rfl _ _ gb398 25 #[.int .i64 a0_0, .slice Ao43 t411.length co43] (0, 0) _ rfl (by (with_reducible repeat (fail)); refine blk_put (cs := #[.int .i64 a0_0, .slice none 0 0]) ?_ 1 _ rfl; refine blk_put (cs := #[.int .i64 0, .slice none 0 0]) ?_ 0 _ rfl; refine blk_far ?_ NB398_399.out _; (with_reducible repeat (fail)); exact BK398.out) Try.underlying25 rfl (by kernel_rfl)) rfl ?_
   exact ⟨_, _, by rfl, by (with_reducible repeat (fail)); exact Kd.R_mono (Kd.R_far (p := ⟨gb398, 1, none⟩) (Kd.R_far (p := ⟨gb398, 0, none⟩) (Kd.R_far (p := ⟨gb399, 1, none⟩) (Kd.R_types (Kd.R_types HO413.out BK399.out (by decide)) BK398.out (by decide)) (fun _ hk => hk.1.2) (.slice Ao43 t411.length co43)) (fun _ hk => hk.2) (.int .i64 a0_0)) (fun _ hk => hk.2) (.slice Ao43 t411.length co43)) (fun _ hk => trivial), by (with_reducible repeat (fail)); exact Kd.R_mono (Kd.R_far (p := ⟨gb398, 1, none⟩) (Kd.R_far (p := ⟨gb398, 0, none⟩) (Kd.R_far (p := ⟨gb399, 1, none⟩) (Kd.R_types (Kd.R_types HO_7.out BK399.out (by decide)) BK398.out (by decide)) (fun _ hk => hk.1.2) (.slice Ao43 t411.length co43)) (fun _ hk => hk.2) (.int .i64 a0_0)) (fun _ hk => hk.2) (.slice Ao43 t411.length co43)) (fun _ hk => trivial), bl3 HB GE397 GE398 GE399⟩
  rw [if_pos c14] at H
  have c14b0 : decide (x17_1 < (l0_1.length : Int)) = true := decide_eq_true c14
  clear c14
  by_cases c15 : 0 ≤ x17_1
  rotate_left
  ·rw [if_neg c15] at H
   exact absurd H (by simp)
  rw [if_pos c15] at H
  have c15b0 : decide (0 ≤ x17_1) = true := decide_eq_true c15
  clear c15
  by_cases c16 : x17_1 < (l0_1.length : Int)
  rotate_left
  ·rw [if_neg c16] at H
   exact absurd H (by simp)
  rw [if_pos c16] at H
  have c16b0 : decide (x17_1 < (l0_1.length : Int)) = true := decide_eq_true c16
  clear c16
  by_cases c17 : ((rd_T41 l0_1 x17_1).f4) ≥ a1
  rotate_left
  ·rw [if_neg c17] at H
   have c17b0 : decide (a1 ≤ ((rd_T41 l0_1 x17_1).f4)) = false := decide_eq_false c17
   clear c17
   have H' := Aside0.mk H
   clear H
   have p403 : 0 ≤ (x17_1 : Int) := oT (by (with_reducible assumption))
   have q403 : x17_1 < (l0_1.length : Int) := oT (by (with_reducible assumption))
   obtain ⟨ad403, e403, hx403_0, hx403_1, hx403_2, hx403_3, hx403_4⟩ := at_T41 HR0_1.out x17_1 p403 q403
   cases e403
   replace hx403_0 := hcb HB.out hx403_0
   replace hx403_1 := hcb HB.out hx403_1
   replace hx403_2 := hcb HB.out hx403_2
   replace hx403_3 := hcb HB.out hx403_3
   replace hx403_4 := hcb HB.out hx403_4
   replace p403 := eq_true p403
   replace q403 := eq_true q403
   go_wp2_with (((with_reducible refine gate_dst (N := 9) rfl ?_); refine box_event ?hg (N := 9) ?hd (cs := #[.int .i64 0, .int .i64 0, .int .i64 0, .int .i64 0, .int .i64 0]) (t := 41) ?hr ?_; (case hd => rfl); (case hg => rfl); (case hr => (go_simp; done)); intro gb404 hg w32 hbox hb; replace HO_7 := Aside0.mk (Kd.R_below (rk HO_7) hb); replace HO_400001 := Aside0.mk (Kd.R_below (Kd.R_elderB (rk HO_400001) gb404 (Nat.le_of_eq hg.symm)) hb); have BK404 := Aside0.mk (hbox); have GW404 := Aside0.mk ((by rw [hg]; exact (below_size (bl3 HB GE397 GE398 GE399)) : w.heap.size ≤ gb404)); have GE404 := Aside0.mk ((by rw [hg]; exact (below_size (bl3 HB GE397 GE398 GE399)) : w.heap.size ≤ gb404)); replace HB := Aside0.mk (below_step (bl3 HB GE397 GE398 GE399) hb); have NB397_404 := Aside0.mk ((by rw [hg]; exact Nat.ne_of_lt (blk_lt (bk BK397)) : gb397 ≠ gb404)); have NB404_397 := Aside0.mk ((by rw [hg]; exact Nat.ne_of_gt (blk_lt (bk BK397)) : gb404 ≠ gb397)); replace BK397 := Aside0.mk (blk_below (bk BK397) hb); have NB398_404 := Aside0.mk ((by rw [hg]; exact Nat.ne_of_lt (blk_lt (bk BK398)) : gb398 ≠ gb404)); have NB404_398 := Aside0.mk ((by rw [hg]; exact Nat.ne_of_gt (blk_lt (bk BK398)) : gb404 ≠ gb398)); replace BK398 := Aside0.mk (blk_below (bk BK398) hb); have NB399_404 := Aside0.mk ((by rw [hg]; exact Nat.ne_of_lt (blk_lt (bk BK399)) : gb399 ≠ gb404)); have NB404_399 := Aside0.mk ((by rw [hg]; exact Nat.ne_of_gt (blk_lt (bk BK399)) : gb404 ≠ gb399)); replace BK399 := Aside0.mk (blk_below (bk BK399) hb); clear hb hbox hg; have hnb33 := NB404_397.out; have hnc33 := NB397_404.out; have hnb34 := NB404_398.out; have hnc34 := NB398_404.out; have hnb35 := NB404_399.out; have hnc35 := NB399_404.out; have hcz36_0 := bc w32 BK404 0 (.int .i64 0) rfl; have hcz36_1 := bc w32 BK404 1 (.int .i64 0) rfl; have hcz36_2 := bc w32 BK404 2 (.int .i64 0) rfl; have hcz36_3 := bc w32 BK404 3 (.int .i64 0) rfl; have hcz36_4 := bc w32 BK404 4 (.int .i64 0) rfl; have hfz36_0 := fz BK404 0; have hfz36_1 := fz BK404 1; have hfz36_2 := fz BK404 2; have hfz36_3 := fz BK404 3; have hfz36_4 := fz BK404 4))
   go_roundg k1
   case measure => have := HK1.out; omega
   case rel => exact ⟨(x7_1), (wrap64 (x17_1 + 1)), (x400001_1), (u400001), (by rfl), H', ⟨by have := HK1.out; omega⟩, ⟨by (with_reducible repeat (fail)); exact Kd.R_mono (Kd.R_far (p := ⟨gb404, 4, none⟩) (Kd.R_far (p := ⟨gb404, 3, none⟩) (Kd.R_far (p := ⟨gb404, 2, none⟩) (Kd.R_far (p := ⟨gb404, 1, none⟩) (Kd.R_far (p := ⟨gb404, 0, none⟩) (Kd.R_types HO_7.out BK404.out (by decide)) (fun _ hk => hk.2) (.int .i64 ((rd_T41 l0_1 x17_1).f0))) (fun _ hk => hk.2) (.int .i64 ((rd_T41 l0_1 x17_1).f1))) (fun _ hk => hk.2) (.int .i64 ((rd_T41 l0_1 x17_1).f2))) (fun _ hk => hk.2) (.int .i64 ((rd_T41 l0_1 x17_1).f3))) (fun _ hk => hk.2) (.int .i64 ((rd_T41 l0_1 x17_1).f4))) (fun _ hk => trivial)⟩, ⟨by (with_reducible repeat (fail)); exact Kd.R_mono (Kd.R_far (p := ⟨gb404, 4, none⟩) (Kd.R_far (p := ⟨gb404, 3, none⟩) (Kd.R_far (p := ⟨gb404, 2, none⟩) (Kd.R_far (p := ⟨gb404, 1, none⟩) (Kd.R_far (p := ⟨gb404, 0, none⟩) (Kd.R_mono HO_400001.out (fun k_ hk => (⟨hk, hk.2⟩ : _ ∧ k_ ≠ gb404))) (fun _ hk => hk.2) (.int .i64 ((rd_T41 l0_1 x17_1).f0))) (fun _ hk => hk.2) (.int .i64 ((rd_T41 l0_1 x17_1).f1))) (fun _ hk => hk.2) (.int .i64 ((rd_T41 l0_1 x17_1).f2))) (fun _ hk => hk.2) (.int .i64 ((rd_T41 l0_1 x17_1).f3))) (fun _ hk => hk.2) (.int .i64 ((rd_T41 l0_1 x17_1).f4))) (fun _ hk => trivial)⟩, ⟨by (with_reducible repeat (fail)); refine blk_far ?_ NB397_404.out _; refine blk_far ?_ NB397_404.out _; refine blk_far ?_ NB397_404.out _; refine blk_far ?_ NB397_404.out _; refine blk_far ?_ NB397_404.out _; (with_reducible repeat (fail)); exact BK397.out⟩, ⟨by (with_reducible repeat (fail)); refine blk_far ?_ NB398_404.out _; refine blk_far ?_ NB398_404.out _; refine blk_far ?_ NB398_404.out _; refine blk_far ?_ NB398_404.out _; refine blk_far ?_ NB398_404.out _; (with_reducible repeat (fail)); exact BK398.out⟩, ⟨by (with_reducible repeat (fail)); refine blk_far ?_ NB399_404.out _; refine blk_far ?_ NB399_404.out _; refine blk_far ?_ NB399_404.out _; refine blk_far ?_ NB399_404.out _; refine blk_far ?_ NB399_404.out _; (with_reducible repeat (fail)); exact BK399.out⟩, ⟨bl4 HB GE397 GE398 GE399 GE404⟩⟩
  rw [if_pos c17] at H
  have c17b0 : decide (a1 ≤ ((rd_T41 l0_1 x17_1).f4)) = true := decide_eq_true c17
  clear c17
  by_cases c18 : x400001_1.length < 3518437208883
  rotate_left
  ·rw [if_neg c18] at H
   exact absurd H (by simp)
  rw [if_pos c18] at H
  have LMc18 := Aside0.mk c18
  clear c18
  obtain ⟨y405, hy405⟩ : ∃ y_ : List (S41), y_ = (x400001_1 ++ [(⟨(rd_T41 l0_1 x17_1).f0, (rd_T41 l0_1 x17_1).f1, (rd_T41 l0_1 x17_1).f2, (rd_T41 l0_1 x17_1).f3, (rd_T41 l0_1 x17_1).f4⟩ : S41)]) := ⟨_, rfl⟩
  replace H : (if x7_1.length < 17592186044416 then (impl_Net_loaded.l0 k1 a1 (x7_1 ++ [x17_1]) l0_1 (l0_1.length : Int) (wrap64 (x17_1 + 1)) a0_0 y405) else (none)) = some (r1, r2, r3) := by (rw [hy405]; with_reducible exact H)
  have Ny405 := Aside0.mk hy405
  clear hy405
  by_cases c19 : x7_1.length < 17592186044416
  rotate_left
  ·rw [if_neg c19] at H
   exact absurd H (by simp)
  rw [if_pos c19] at H
  have LMc19 := Aside0.mk c19
  clear c19
  obtain ⟨y408, hy408⟩ : ∃ y_ : List Int, y_ = (x7_1 ++ [x17_1]) := ⟨_, rfl⟩
  replace H : (impl_Net_loaded.l0 k1 a1 y408 l0_1 (l0_1.length : Int) (wrap64 (x17_1 + 1)) a0_0 y405) = some (r1, r2, r3) := by (rw [hy408]; with_reducible exact H)
  have Ny408 := Aside0.mk hy408
  clear hy408
  have H' := Aside0.mk H
  clear H
  have p403 : 0 ≤ (x17_1 : Int) := oT (by (with_reducible assumption))
  have q403 : x17_1 < (l0_1.length : Int) := oT (by (with_reducible assumption))
  obtain ⟨ad403, e403, hx403_0, hx403_1, hx403_2, hx403_3, hx403_4⟩ := at_T41 HR0_1.out x17_1 p403 q403
  cases e403
  replace hx403_0 := hcb HB.out hx403_0
  replace hx403_1 := hcb HB.out hx403_1
  replace hx403_2 := hcb HB.out hx403_2
  replace hx403_3 := hcb HB.out hx403_3
  replace hx403_4 := hcb HB.out hx403_4
  replace p403 := eq_true p403
  replace q403 := eq_true q403
  go_wp2_with (first | ((with_reducible refine gate_dst (N := 9) rfl ?_); refine box_event ?hg (N := 9) ?hd (cs := #[.int .i64 0, .int .i64 0, .int .i64 0, .int .i64 0, .int .i64 0]) (t := 41) ?hr ?_; (case hd => rfl); (case hg => rfl); (case hr => (go_simp; done)); intro gb404 hg w20 hbox hb; replace HO_7 := Aside0.mk (Kd.R_below (rk HO_7) hb); replace HO_400001 := Aside0.mk (Kd.R_below (Kd.R_elderB (rk HO_400001) gb404 (Nat.le_of_eq hg.symm)) hb); have BK404 := Aside0.mk (hbox); have GW404 := Aside0.mk ((by rw [hg]; exact (below_size (bl3 HB GE397 GE398 GE399)) : w.heap.size ≤ gb404)); have GE404 := Aside0.mk ((by rw [hg]; exact (below_size (bl3 HB GE397 GE398 GE399)) : w.heap.size ≤ gb404)); replace HB := Aside0.mk (below_step (bl3 HB GE397 GE398 GE399) hb); have NB397_404 := Aside0.mk ((by rw [hg]; exact Nat.ne_of_lt (blk_lt (bk BK397)) : gb397 ≠ gb404)); have NB404_397 := Aside0.mk ((by rw [hg]; exact Nat.ne_of_gt (blk_lt (bk BK397)) : gb404 ≠ gb397)); replace BK397 := Aside0.mk (blk_below (bk BK397) hb); have NB398_404 := Aside0.mk ((by rw [hg]; exact Nat.ne_of_lt (blk_lt (bk BK398)) : gb398 ≠ gb404)); have NB404_398 := Aside0.mk ((by rw [hg]; exact Nat.ne_of_gt (blk_lt (bk BK398)) : gb404 ≠ gb398)); replace BK398 := Aside0.mk (blk_below (bk BK398) hb); have NB399_404 := Aside0.mk ((by rw [hg]; exact Nat.ne_of_lt (blk_lt (bk BK399)) : gb399 ≠ gb404)); have NB404_399 := Aside0.mk ((by rw [hg]; exact Nat.ne_of_gt (blk_lt (bk BK399)) : gb404 ≠ gb399)); replace BK399 := Aside0.mk (blk_below (bk BK399) hb); clear hb hbox hg; have hnb21 := NB404_397.out; have hnc21 := NB397_404.out; have hnb22 := NB404_398.out; have hnc22 := NB398_404.out; have hnb23 := NB404_399.out; have hnc23 := NB399_404.out; have hcz24_0 := bc w20 BK404 0 (.int .i64 0) rfl; have hcz24_1 := bc w20 BK404 1 (.int .i64 0) rfl; have hcz24_2 := bc w20 BK404 2 (.int .i64 0) rfl; have hcz24_3 := bc w20 BK404 3 (.int .i64 0) rfl; have hcz24_4 := bc w20 BK404 4 (.int .i64 0) rfl; have hfz24_0 := fz BK404 0; have hfz24_1 := fz BK404 1; have hfz24_2 := fz BK404 2; have hfz24_3 := fz BK404 3; have hfz24_4 := fz BK404 4; have hnb25 := NB399_397.out; have hnc25 := NB397_399.out; have hnb26 := NB399_398.out; have hnc26 := NB398_399.out; have hcz27_0 := bc w20 BK399 0 (.int .i64 a0_0) rfl; have hcz27_1 := bc w20 BK399 1 (u400001) rfl; have hfz27_0 := fz BK399 0; have hfz27_1 := fz BK399 1) | ((with_reducible refine gate_builtin (b := .append) (xs := #[.tmp 27, .tmp 29]) rfl ?_); at_builtin; refine Kd.R_append k41 (w0 := w) w.heap.size rfl (.tmp 27) (.tmp 29) 23 41 (.agg #[(.int .i64 0), (.int .i64 0), (.int .i64 0), (.int .i64 0), (.int .i64 0)]) 40 rfl Try.underlying23 info41 rfl (by decide) (by omega) u400001 x400001_1 (⟨(rd_T41 l0_1 x17_1).f0, (rd_T41 l0_1 x17_1).f1, (rd_T41 l0_1 x17_1).f2, (rd_T41 l0_1 x17_1).f3, (rd_T41 l0_1 x17_1).f4⟩ : S41) [.int .i64 ((rd_T41 l0_1 x17_1).f0), .int .i64 ((rd_T41 l0_1 x17_1).f1), .int .i64 ((rd_T41 l0_1 x17_1).f2), .int .i64 ((rd_T41 l0_1 x17_1).f3), .int .i64 ((rd_T41 l0_1 x17_1).f4)] (fun k_ => k_ ≠ gb404) (fun _ => False) rfl (by (go_simp; done)) ?aP (fun _ hk => hk.elim) ?aF ?aO ?aB ?aS ?aL ?_; (case aP => exact k41_mkM _ _ _ (⟨(rd_T41 l0_1 x17_1).f0, (rd_T41 l0_1 x17_1).f1, (rd_T41 l0_1 x17_1).f2, (rd_T41 l0_1 x17_1).f3, (rd_T41 l0_1 x17_1).f4⟩ : S41)); (case aB => exact (bl4 HB GE397 GE398 GE399 GE404)); (case aF => exact (fun k_ hk => Kd.freshB (g := gb404) (o := .cells #[.int .i64 ((rd_T41 l0_1 x17_1).f0), .int .i64 ((rd_T41 l0_1 x17_1).f1), .int .i64 ((rd_T41 l0_1 x17_1).f2), .int .i64 ((rd_T41 l0_1 x17_1).f3), .int .i64 ((rd_T41 l0_1 x17_1).f4)] 41 (0, 0)) (by (with_reducible repeat (fail)); refine blk_put (cs := #[.int .i64 ((rd_T41 l0_1 x17_1).f0), .int .i64 ((rd_T41 l0_1 x17_1).f1), .int .i64 ((rd_T41 l0_1 x17_1).f2), .int .i64 ((rd_T41 l0_1 x17_1).f3), .int .i64 0]) ?_ 4 _ rfl; refine blk_put (cs := #[.int .i64 ((rd_T41 l0_1 x17_1).f0), .int .i64 ((rd_T41 l0_1 x17_1).f1), .int .i64 ((rd_T41 l0_1 x17_1).f2), .int .i64 0, .int .i64 0]) ?_ 3 _ rfl; refine blk_put (cs := #[.int .i64 ((rd_T41 l0_1 x17_1).f0), .int .i64 ((rd_T41 l0_1 x17_1).f1), .int .i64 0, .int .i64 0, .int .i64 0]) ?_ 2 _ rfl; refine blk_put (cs := #[.int .i64 ((rd_T41 l0_1 x17_1).f0), .int .i64 0, .int .i64 0, .int .i64 0, .int .i64 0]) ?_ 1 _ rfl; refine blk_put (cs := #[.int .i64 0, .int .i64 0, .int .i64 0, .int .i64 0, .int .i64 0]) ?_ 0 _ rfl; (with_reducible repeat (fail)); exact BK404.out) k_ hk)); (case aO => exact (by (with_reducible repeat (fail)); exact Kd.R_mono (Kd.R_far (p := ⟨gb404, 4, none⟩) (Kd.R_far (p := ⟨gb404, 3, none⟩) (Kd.R_far (p := ⟨gb404, 2, none⟩) (Kd.R_far (p := ⟨gb404, 1, none⟩) (Kd.R_far (p := ⟨gb404, 0, none⟩) (Kd.R_mono HO_400001.out (fun k_ hk => (⟨hk, hk.2⟩ : _ ∧ k_ ≠ gb404))) (fun _ hk => hk.2) (.int .i64 ((rd_T41 l0_1 x17_1).f0))) (fun _ hk => hk.2) (.int .i64 ((rd_T41 l0_1 x17_1).f1))) (fun _ hk => hk.2) (.int .i64 ((rd_T41 l0_1 x17_1).f2))) (fun _ hk => hk.2) (.int .i64 ((rd_T41 l0_1 x17_1).f3))) (fun _ hk => hk.2) (.int .i64 ((rd_T41 l0_1 x17_1).f4))) (fun _ hk => hk.1.2))); (case aS => exact (below_size (bl4 HB GE397 GE398 GE399 GE404))); (case aL => have := LMc18.out; omega); intro v406 w28 ho hb hg hat; rw [← Ny405.out] at ho; have n0_ := Aside0.mk (Kd.R_over' (by (with_reducible repeat (fail)); exact (Kd.R_mono (Kd.R_far (p := ⟨gb404, 4, none⟩) (Kd.R_far (p := ⟨gb404, 3, none⟩) (Kd.R_far (p := ⟨gb404, 2, none⟩) (Kd.R_far (p := ⟨gb404, 1, none⟩) (Kd.R_far (p := ⟨gb404, 0, none⟩) (Kd.R_types HO_7.out BK404.out (by decide)) (fun _ hk => hk.2) (.int .i64 ((rd_T41 l0_1 x17_1).f0))) (fun _ hk => hk.2) (.int .i64 ((rd_T41 l0_1 x17_1).f1))) (fun _ hk => hk.2) (.int .i64 ((rd_T41 l0_1 x17_1).f2))) (fun _ hk => hk.2) (.int .i64 ((rd_T41 l0_1 x17_1).f3))) (fun _ hk => hk.2) (.int .i64 ((rd_T41 l0_1 x17_1).f4))) (fun _ h_ => h_.1))) (Kd.R_typed (by (with_reducible repeat (fail)); exact (Kd.R_mono (Kd.R_far (p := ⟨gb404, 4, none⟩) (Kd.R_far (p := ⟨gb404, 3, none⟩) (Kd.R_far (p := ⟨gb404, 2, none⟩) (Kd.R_far (p := ⟨gb404, 1, none⟩) (Kd.R_far (p := ⟨gb404, 0, none⟩) (Kd.R_mono HO_400001.out (fun k_ hk => (⟨hk, hk.2⟩ : _ ∧ k_ ≠ gb404))) (fun _ hk => hk.2) (.int .i64 ((rd_T41 l0_1 x17_1).f0))) (fun _ hk => hk.2) (.int .i64 ((rd_T41 l0_1 x17_1).f1))) (fun _ hk => hk.2) (.int .i64 ((rd_T41 l0_1 x17_1).f2))) (fun _ hk => hk.2) (.int .i64 ((rd_T41 l0_1 x17_1).f3))) (fun _ hk => hk.2) (.int .i64 ((rd_T41 l0_1 x17_1).f4))) (fun _ h_ => h_.1)))) (by decide) hg); have n1_ := Aside0.mk (blk_grown (g := gb397) (o := .cells #[.int .i64 a0_0, .slice (some ad403) l0_1.length c0_1] 25 (0, 0)) (by (with_reducible repeat (fail)); refine blk_far ?_ NB397_404.out _; refine blk_far ?_ NB397_404.out _; refine blk_far ?_ NB397_404.out _; refine blk_far ?_ NB397_404.out _; refine blk_far ?_ NB397_404.out _; (with_reducible repeat (fail)); exact BK397.out) hg (Kd.R_ne HO_400001.out BK397.out (by decide))); have n2_ := Aside0.mk (blk_grown (g := gb398) (o := .cells #[.int .i64 0, .slice none 0 0] 25 (0, 0)) (by (with_reducible repeat (fail)); refine blk_far ?_ NB398_404.out _; refine blk_far ?_ NB398_404.out _; refine blk_far ?_ NB398_404.out _; refine blk_far ?_ NB398_404.out _; refine blk_far ?_ NB398_404.out _; (with_reducible repeat (fail)); exact BK398.out) hg (Kd.R_ne HO_400001.out BK398.out (by decide))); have n3_ := Aside0.mk (blk_grown (g := gb399) (o := .cells #[.int .i64 a0_0, u400001] 25 (0, 0)) (by (with_reducible repeat (fail)); refine blk_far ?_ NB399_404.out _; refine blk_far ?_ NB399_404.out _; refine blk_far ?_ NB399_404.out _; refine blk_far ?_ NB399_404.out _; refine blk_far ?_ NB399_404.out _; (with_reducible repeat (fail)); exact BK399.out) hg (Kd.R_ne HO_400001.out BK399.out (by decide))); have n4_ := Aside0.mk (blk_grown (g := gb404) (o := .cells #[.int .i64 ((rd_T41 l0_1 x17_1).f0), .int .i64 ((rd_T41 l0_1 x17_1).f1), .int .i64 ((rd_T41 l0_1 x17_1).f2), .int .i64 ((rd_T41 l0_1 x17_1).f3), .int .i64 ((rd_T41 l0_1 x17_1).f4)] 41 (0, 0)) (by (with_reducible repeat (fail)); refine blk_put (cs := #[.int .i64 ((rd_T41 l0_1 x17_1).f0), .int .i64 ((rd_T41 l0_1 x17_1).f1), .int .i64 ((rd_T41 l0_1 x17_1).f2), .int .i64 ((rd_T41 l0_1 x17_1).f3), .int .i64 0]) ?_ 4 _ rfl; refine blk_put (cs := #[.int .i64 ((rd_T41 l0_1 x17_1).f0), .int .i64 ((rd_T41 l0_1 x17_1).f1), .int .i64 ((rd_T41 l0_1 x17_1).f2), .int .i64 0, .int .i64 0]) ?_ 3 _ rfl; refine blk_put (cs := #[.int .i64 ((rd_T41 l0_1 x17_1).f0), .int .i64 ((rd_T41 l0_1 x17_1).f1), .int .i64 0, .int .i64 0, .int .i64 0]) ?_ 2 _ rfl; refine blk_put (cs := #[.int .i64 ((rd_T41 l0_1 x17_1).f0), .int .i64 0, .int .i64 0, .int .i64 0, .int .i64 0]) ?_ 1 _ rfl; refine blk_put (cs := #[.int .i64 0, .int .i64 0, .int .i64 0, .int .i64 0, .int .i64 0]) ?_ 0 _ rfl; (with_reducible repeat (fail)); exact BK404.out) hg (Kd.R_away HO_400001.out (fun _ hk => hk.2))); have n5_ := Aside0.mk (hb); have n6_ := Aside0.mk (ho); clear HO_7; clear BK397; clear BK398; clear BK399; clear BK404; clear HB; clear HO_400001; have HO_7 := n0_; have BK397 := n1_; have BK398 := n2_; have BK399 := n3_; have BK404 := n4_; have HB := n5_; have HO407 := n6_; clear n0_ n1_ n2_ n3_ n4_ n5_ n6_; clear ho hb hg hat; obtain ⟨Ao29, co29, eo29⟩ := Kd.R_slice HO407.out; subst eo29; have hcz30_0 := bc w28 BK399 0 (.int .i64 a0_0) rfl; have hcz30_1 := bc w28 BK399 1 (u400001) rfl; have hfz30_0 := fz BK399 0; have hfz30_1 := fz BK399 1) | ((with_reducible refine gate_builtin (b := .append) (xs := #[.tmp 32, .tmp 34]) rfl ?_); at_builtin; refine Kd.R_append (Kd.int .i64) (w0 := w) w.heap.size rfl (.tmp 32) (.tmp 34) 26 3 (.int .i64 0) 8 rfl Try.underlying26 info3 rfl (by decide) (by omega) u7 x7_1 x17_1 [.int .i64 x17_1] (fun _ => True) (fun _ => False) rfl (by (go_simp; done)) ?aP (fun _ hk => hk.elim) ?aF ?aO ?aB ?aS ?aL ?_; (case aP => exact rfl); (case aB => exact (bl4 HB GE397 GE398 GE399 GE404)); (case aF => exact (fun _ _ => trivial)); (case aO => exact (by (with_reducible repeat (fail)); exact Kd.R_mono (Kd.R_far (p := ⟨gb399, 1, none⟩) (Kd.R_types HO_7.out BK399.out (by decide)) (fun _ hk => hk.2) (.slice Ao29 y405.length co29)) (fun _ hk => trivial))); (case aS => exact (below_size (bl4 HB GE397 GE398 GE399 GE404))); (case aL => have := LMc19.out; omega); intro v409 w31 ho hb hg hat; rw [← Ny408.out] at ho; have n0_ := Aside0.mk (blk_grown (g := gb397) (o := .cells #[.int .i64 a0_0, .slice (some ad403) l0_1.length c0_1] 25 (0, 0)) (by (with_reducible repeat (fail)); refine blk_far ?_ NB397_399.out _; (with_reducible repeat (fail)); exact BK397.out) hg (Kd.R_ne HO_7.out BK397.out (by decide))); have n1_ := Aside0.mk (blk_grown (g := gb398) (o := .cells #[.int .i64 0, .slice none 0 0] 25 (0, 0)) (by (with_reducible repeat (fail)); refine blk_far ?_ NB398_399.out _; (with_reducible repeat (fail)); exact BK398.out) hg (Kd.R_ne HO_7.out BK398.out (by decide))); have n2_ := Aside0.mk (blk_grown (g := gb399) (o := .cells #[.int .i64 a0_0, .slice Ao29 y405.length co29] 25 (0, 0)) (by (with_reducible repeat (fail)); refine blk_put (cs := #[.int .i64 a0_0, u400001]) ?_ 1 _ rfl; (with_reducible repeat (fail)); exact BK399.out) hg (Kd.R_ne HO_7.out BK399.out (by decide))); have n3_ := Aside0.mk (blk_grown (g := gb404) (o := .cells #[.int .i64 ((rd_T41 l0_1 x17_1).f0), .int .i64 ((rd_T41 l0_1 x17_1).f1), .int .i64 ((rd_T41 l0_1 x17_1).f2), .int .i64 ((rd_T41 l0_1 x17_1).f3), .int .i64 ((rd_T41 l0_1 x17_1).f4)] 41 (0, 0)) (by (with_reducible repeat (fail)); refine blk_far ?_ NB404_399.out _; (with_reducible repeat (fail)); exact BK404.out) hg (Kd.R_ne HO_7.out BK404.out (by decide))); have n4_ := Aside0.mk (Kd.R_over' (by (with_reducible repeat (fail)); exact (Kd.R_mono (Kd.R_far (p := ⟨gb399, 1, none⟩) (Kd.R_types HO407.out BK399.out (by decide)) (fun _ hk => hk.2) (.slice Ao29 y405.length co29)) (fun _ h_ => h_.1))) (Kd.R_typed (by (with_reducible repeat (fail)); exact (Kd.R_mono (Kd.R_far (p := ⟨gb399, 1, none⟩) (Kd.R_types HO_7.out BK399.out (by decide)) (fun _ hk => hk.2) (.slice Ao29 y405.length co29)) (fun _ h_ => h_.1)))) (by decide) hg); have n5_ := Aside0.mk (hb); have n6_ := Aside0.mk (ho); clear BK397; clear BK398; clear BK399; clear BK404; clear HO407; clear HB; clear HO_7; have BK397 := n0_; have BK398 := n1_; have BK399 := n2_; have BK404 := n3_; have HO407 := n4_; have HB := n5_; have HO410 := n6_; clear n0_ n1_ n2_ n3_ n4_ n5_ n6_; clear ho hb hg hat))
  go_roundg k1
  case measure => have := HK1.out; omega
  case rel => exact ⟨(y408), (wrap64 (x17_1 + 1)), (y405), (.slice Ao29 y405.length co29), (by rfl), H', ⟨by have := HK1.out; omega⟩, ⟨rk HO410⟩, ⟨by (with_reducible repeat (fail)); exact Kd.R_mono HO407.out (fun _ hk => trivial)⟩, ⟨bk BK397⟩, ⟨bk BK398⟩, ⟨bk BK399⟩, ⟨bl4 HB GE397 GE398 GE399 GE404⟩⟩

end Go.Proofs.Ytgickejeakmenaa.F
