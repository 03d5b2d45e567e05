-- Printed by wip/px/px.py of this claim's repository (the kit's printer, extended there). Lean checks it.
import Derived.Test.YtddkaiegnohkcaaFKinds
namespace Go.Proofs.Ytddkaiegnohkcaa.F
open Go.RowKit Go.Proofs.YtddkaiegnohkcaaW.PrintWords Go.Proofs.YtddkaiegnohkcaaW.PrintLast Go.Proofs.YtddkaiegnohkcaaW.PrintMore
attribute [local go_sem] max2_int min2_int max_two min_two max_three min_three max_four min_four   -- for this text's walks alone
set_option linter.unusedVariables false
set_option linter.unusedSimpArgs false

/-! ### laws_szArcS: function 47 -/
def laws_szArcS.f (l0 : List (S95)) (a1 : Int) : Option (Int) := if (wrap64 (a1 - (l0.length : Int))) < 0 then (some (-1)) else (some (wrap64 (a1 - (l0.length : Int))))
set_option maxHeartbeats 8000000 in
set_option maxRecDepth 100000 in
theorem laws_szArcS.calls (A0 : Option Addr) (c0 : Nat) (l0 : List (S95)) (a1 : Int) (r : Int) (w : World) (hr0 : Kd.C k95 w A0 l0.length l0) (hc0 : l0.length ≤ c0) (h : laws_szArcS.f l0 a1 = some r) :
  Calls Try.prog 47 #[.slice A0 l0.length c0, .int .i64 a1] w fun e w' => e = .returned (.int .i64 r) ∧ Drawn0 w w' := by
 have HR0 := ak hr0
 have HC0 := ak hc0
 clear hr0 hc0
 have H : (if (wrap64 (a1 - (l0.length : Int))) < 0 then (some (-1)) else (some (wrap64 (a1 - (l0.length : Int))))) = some r := h
 clear h
 by_cases c3 : (wrap64 (a1 - (l0.length : Int))) < 0
 ·rw [if_pos c3] at H
  have c3b0 : decide ((wrap64 (a1 - (l0.length : Int))) < 0) = true := decide_eq_true c3
  clear c3
  obtain rfl := Option.some.inj H
  go_enter Try.func47, Try.ntmps47
  go_wp2
  go_ret
  exact ⟨by rfl, by repeat (exact Drawn0.refl _)⟩
 rw [if_neg c3] at H
 have c3b0 : decide ((wrap64 (a1 - (l0.length : Int))) < 0) = false := decide_eq_false c3
 clear c3
 obtain rfl := Option.some.inj H
 go_enter Try.func47, Try.ntmps47
 go_wp2
 go_ret
 exact ⟨by rfl, by repeat (exact Drawn0.refl _)⟩

/-! ### laws_szNet: function 17 -/
def laws_szNet.f (a0_0 : Int) (l0_1 : List (S95)) (a1 : Int) : Option (Int) := (laws_szArcS.f l0_1 a1).bind fun t305 => (if t305 < 0 then (some (-1)) else (some t305))
set_option maxHeartbeats 8000000 in
set_option maxRecDepth 100000 in
theorem laws_szNet.calls (a0_0 : Int) (A0_1 : Option Addr) (c0_1 : Nat) (l0_1 : List (S95)) (a1 : Int) (r : Int) (w : World) (hr0_1 : Kd.C k95 w A0_1 l0_1.length l0_1) (hc0_1 : l0_1.length ≤ c0_1) (h : laws_szNet.f a0_0 l0_1 a1 = some r) :
  Calls Try.prog 17 #[.agg #[.int .i64 a0_0, .slice A0_1 l0_1.length c0_1], .int .i64 a1] w fun e w' => e = .returned (.int .i64 r) ∧ Below w.heap.size w w' := by
 have hu40 := Try.underlying40
 have HR0_1 := ak hr0_1
 have HC0_1 := ak hc0_1
 clear hr0_1 hc0_1
 have HB := ak (Below.refl w.heap.size w)
 have H : ((laws_szArcS.f l0_1 a1).bind fun t305 => (if t305 < 0 then (some (-1)) else (some t305))) = some r := h
 clear h
 replace H := Option.bind_eq_some_iff.mp H
 obtain ⟨t305, A30, H⟩ := H
 have A3 := ak A30
 clear A30
 by_cases c4 : t305 < 0
 ·rw [if_pos c4] at H
  have c4b0 : decide (t305 < 0) = true := decide_eq_true c4
  clear c4
  obtain rfl := Option.some.inj H
  go_enter Try.func17, Try.ntmps17
  go_wp2_with (first | ((with_reducible refine gate_dst (N := 2) rfl ?_); refine box_event ?hg (N := 2) ?hd (cs := #[.int .i64 a0_0, .slice A0_1 l0_1.length c0_1]) (t := 40) ?hr ?_; (case hd => rfl); (case hg => rfl); (case hr => (go_simp; done)); intro gb304 hg w5 hbox hb; have BK304 := ak (hbox); have GW304 := ak ((by rw [hg]; exact (below_size (bl HB)) : w.heap.size ≤ gb304)); have GE304 := ak ((by rw [hg]; exact (below_size (bl HB)) : w.heap.size ≤ gb304)); replace HB := ak (below_step (bl HB) hb); clear hb hbox hg; have hcz6_0 := bc w5 BK304 0 (.int .i64 a0_0) rfl; have hcz6_1 := bc w5 BK304 1 (.slice A0_1 l0_1.length c0_1) rfl; have hfz6_0 := fz BK304 0; have hfz6_1 := fz BK304 1) | ((with_reducible refine gate_callee (f := 47) rfl ?_); refine goesL_ (some 8) rfl rfl Try.func47 (by kernel_rfl) rfl #[.slice A0_1 l0_1.length c0_1, .int .i64 a1] rfl (by (try simp only [List.map_toArray, List.map_cons, List.map_nil]); rfl) ?_; (with_reducible refine (laws_szArcS.calls _ _ l0_1 a1 t305 _ ?side1 ?side2 A3.out).mono ?_); (case side1 => repeat (exact (Kd.C_below HR0_1.out HB.out))); (case side2 => exact HC0_1.out); rintro e w' ⟨rfl, ⟨nd, rfl⟩⟩; refine ⟨_, rfl, ?_⟩))
  go_ret
  exact ⟨by rfl, bl1 HB GE304⟩
 rw [if_neg c4] at H
 have c4b0 : decide (t305 < 0) = false := decide_eq_false c4
 clear c4
 obtain rfl := Option.some.inj H
 go_enter Try.func17, Try.ntmps17
 go_wp2_with (first | ((with_reducible refine gate_dst (N := 2) rfl ?_); refine box_event ?hg (N := 2) ?hd (cs := #[.int .i64 a0_0, .slice A0_1 l0_1.length c0_1]) (t := 40) ?hr ?_; (case hd => rfl); (case hg => rfl); (case hr => (go_simp; done)); intro gb304 hg w7 hbox hb; have BK304 := ak (hbox); have GW304 := ak ((by rw [hg]; exact (below_size (bl HB)) : w.heap.size ≤ gb304)); have GE304 := ak ((by rw [hg]; exact (below_size (bl HB)) : w.heap.size ≤ gb304)); replace HB := ak (below_step (bl HB) hb); clear hb hbox hg; have hcz8_0 := bc w7 BK304 0 (.int .i64 a0_0) rfl; have hcz8_1 := bc w7 BK304 1 (.slice A0_1 l0_1.length c0_1) rfl; have hfz8_0 := fz BK304 0; have hfz8_1 := fz BK304 1) | ((with_reducible refine gate_callee (f := 47) rfl ?_); refine goesL_ (some 8) rfl rfl Try.func47 (by kernel_rfl) rfl #[.slice A0_1 l0_1.length c0_1, .int .i64 a1] rfl (by (try simp only [List.map_toArray, List.map_cons, List.map_nil]); rfl) ?_; (with_reducible refine (laws_szArcS.calls _ _ l0_1 a1 t305 _ ?side1 ?side2 A3.out).mono ?_); (case side1 => repeat (exact (Kd.C_below HR0_1.out HB.out))); (case side2 => exact HC0_1.out); rintro e w' ⟨rfl, ⟨nd, rfl⟩⟩; refine ⟨_, rfl, ?_⟩))
 go_ret
 exact ⟨by rfl, bl1 HB GE304⟩

/-! ### laws_toArc: function 73 -/
def laws_toArc.f (a0_0 : Int) (a0_1 : Int) (a0_2 : Int) (a0_3 : Int) (a0_4 : Int) : Option (Int × Int × Int × Int × Int) := some (a0_0, a0_1, a0_2, a0_3, a0_4)
set_option maxHeartbeats 8000000 in
set_option maxRecDepth 100000 in
theorem laws_toArc.calls (a0_0 : Int) (a0_1 : Int) (a0_2 : Int) (a0_3 : Int) (a0_4 : Int) (r1 : Int) (r2 : Int) (r3 : Int) (r4 : Int) (r5 : Int) (w : World) (h : laws_toArc.f a0_0 a0_1 a0_2 a0_3 a0_4 = some (r1, r2, r3, r4, r5)) :
  Calls Try.prog 73 #[.agg #[.int .i64 a0_0, .int .i64 a0_1, .int .i64 a0_2, .int .i64 a0_3, .int .i64 a0_4]] w fun e w' => e = .returned (.agg #[.int .i64 r1, .int .i64 r2, .int .i64 r3, .int .i64 r4, .int .i64 r5]) ∧ Below w.heap.size w w' := by
 have hu95 := Try.underlying95
 have hu33 := Try.underlying33
 have HB := ak (Below.refl w.heap.size w)
 have H : (some (a0_0, a0_1, a0_2, a0_3, a0_4)) = some (r1, r2, r3, r4, r5) := h
 clear h
 simp only [Option.some.injEq, Prod.mk.injEq] at H
 obtain ⟨rfl, rfl, rfl, rfl, rfl⟩ := H
 go_enter Try.func73, Try.ntmps73
 go_wp2_with (first | ((with_reducible refine gate_dst (N := 1) rfl ?_); refine box_event ?hg (N := 1) ?hd (cs := #[.int .i64 a0_0, .int .i64 a0_1, .int .i64 a0_2, .int .i64 a0_3, .int .i64 a0_4]) (t := 95) ?hr ?_; (case hd => rfl); (case hg => rfl); (case hr => (go_simp; done)); intro gb364 hg w2 hbox hb; have BK364 := ak (hbox); have GW364 := ak ((by rw [hg]; exact (below_size (bl HB)) : w.heap.size ≤ gb364)); have GE364 := ak ((by rw [hg]; exact (below_size (bl HB)) : w.heap.size ≤ gb364)); replace HB := ak (below_step (bl HB) hb); clear hb hbox hg) | ((with_reducible refine gate_dst (N := 2) rfl ?_); refine box_event ?hg (N := 2) ?hd (cs := #[.int .i64 0, .int .i64 0, .int .i64 0, .int .i64 0, .int .i64 0]) (t := 33) ?hr ?_; (case hd => rfl); (case hg => rfl); (case hr => (go_simp; done)); intro gb365 hg w3 hbox hb; have BK365 := ak (hbox); have GW365 := ak ((by rw [hg]; exact (below_size (bl1 HB GE364)) : w.heap.size ≤ gb365)); have GE365 := ak ((by rw [hg]; exact (below_size (bl1 HB GE364)) : w.heap.size ≤ gb365)); replace HB := ak (below_step (bl1 HB GE364) hb); have NB364_365 := ak ((by rw [hg]; exact Nat.ne_of_lt (blk_lt (bk BK364)) : gb364 ≠ gb365)); have NB365_364 := ak ((by rw [hg]; exact Nat.ne_of_gt (blk_lt (bk BK364)) : gb365 ≠ gb364)); replace BK364 := ak (blk_below (bk BK364) hb); clear hb hbox hg) | ((with_reducible refine gate_dst (N := 3) rfl ?_); refine box_event ?hg (N := 3) ?hd (cs := #[.int .i64 0, .int .i64 0, .int .i64 0, .int .i64 0, .int .i64 0]) (t := 33) ?hr ?_; (case hd => rfl); (case hg => rfl); (case hr => (go_simp; done)); intro gb366 hg w4 hbox hb; have BK366 := ak (hbox); have GW366 := ak ((by rw [hg]; exact (below_size (bl2 HB GE364 GE365)) : w.heap.size ≤ gb366)); have GE366 := ak ((by rw [hg]; exact (below_size (bl2 HB GE364 GE365)) : w.heap.size ≤ gb366)); replace HB := ak (below_step (bl2 HB GE364 GE365) hb); have NB364_366 := ak ((by rw [hg]; exact Nat.ne_of_lt (blk_lt (bk BK364)) : gb364 ≠ gb366)); have NB366_364 := ak ((by rw [hg]; exact Nat.ne_of_gt (blk_lt (bk BK364)) : gb366 ≠ gb364)); replace BK364 := ak (blk_below (bk BK364) hb); have NB365_366 := ak ((by rw [hg]; exact Nat.ne_of_lt (blk_lt (bk BK365)) : gb365 ≠ gb366)); have NB366_365 := ak ((by rw [hg]; exact Nat.ne_of_gt (blk_lt (bk BK365)) : gb366 ≠ gb365)); replace BK365 := ak (blk_below (bk BK365) hb); clear hb hbox hg; have hnb5 := NB364_365.out; have hnc5 := NB365_364.out; have hnb6 := NB364_366.out; have hnc6 := NB366_364.out; have hcz7_0 := bc w4 BK364 0 (.int .i64 a0_0) rfl; have hcz7_1 := bc w4 BK364 1 (.int .i64 a0_1) rfl; have hcz7_2 := bc w4 BK364 2 (.int .i64 a0_2) rfl; have hcz7_3 := bc w4 BK364 3 (.int .i64 a0_3) rfl; have hcz7_4 := bc w4 BK364 4 (.int .i64 a0_4) rfl; have hfz7_0 := fz BK364 0; have hfz7_1 := fz BK364 1; have hfz7_2 := fz BK364 2; have hfz7_3 := fz BK364 3; have hfz7_4 := fz BK364 4; have hnb8 := NB366_365.out; have hnc8 := NB365_366.out; have hcz9_0 := bc w4 BK366 0 (.int .i64 0) rfl; have hcz9_1 := bc w4 BK366 1 (.int .i64 0) rfl; have hcz9_2 := bc w4 BK366 2 (.int .i64 0) rfl; have hcz9_3 := bc w4 BK366 3 (.int .i64 0) rfl; have hcz9_4 := bc w4 BK366 4 (.int .i64 0) rfl; have hfz9_0 := fz BK366 0; have hfz9_1 := fz BK366 1; have hfz9_2 := fz BK366 2; have hfz9_3 := fz BK366 3; have hfz9_4 := fz BK366 4; have hcz10_0 := bc w4 BK365 0 (.int .i64 0) rfl; have hcz10_1 := bc w4 BK365 1 (.int .i64 0) rfl; have hcz10_2 := bc w4 BK365 2 (.int .i64 0) rfl; have hcz10_3 := bc w4 BK365 3 (.int .i64 0) rfl; have hcz10_4 := bc w4 BK365 4 (.int .i64 0) rfl; have hfz10_0 := fz BK365 0; have hfz10_1 := fz BK365 1; have hfz10_2 := fz BK365 2; have hfz10_3 := fz BK365 3; have hfz10_4 := fz BK365 4))
 refine bodyPost_ret (results_cell_row rfl _ _ gb365 33 #[.int .i64 a0_0, .int .i64 a0_1, .int .i64 a0_2, .int .i64 a0_3, .int .i64 a0_4] (0, 0) _ rfl (by refine blk_put (cs := #[.int .i64 a0_0, .int .i64 a0_1, .int .i64 a0_2, .int .i64 a0_3, .int .i64 0]) ?_ 4 _ rfl; refine blk_put (cs := #[.int .i64 a0_0, .int .i64 a0_1, .int .i64 a0_2, .int .i64 0, .int .i64 0]) ?_ 3 _ rfl; refine blk_put (cs := #[.int .i64 a0_0, .int .i64 a0_1, .int .i64 0, .int .i64 0, .int .i64 0]) ?_ 2 _ rfl; refine blk_put (cs := #[.int .i64 a0_0, .int .i64 0, .int .i64 0, .int .i64 0, .int .i64 0]) ?_ 1 _ rfl; refine blk_put (cs := #[.int .i64 0, .int .i64 0, .int .i64 0, .int .i64 0, .int .i64 0]) ?_ 0 _ rfl; refine blk_far ?_ NB365_366.out _; refine blk_far ?_ NB365_366.out _; refine blk_far ?_ NB365_366.out _; refine blk_far ?_ NB365_366.out _; refine blk_far ?_ NB365_366.out _; exact BK365.out) Try.underlying33 rfl (by kernel_rfl)) rfl ?_
 exact ⟨by rfl, bl3 HB GE364 GE365 GE366⟩

/-! ### laws_toArcS: function 50 -/
def laws_toArcS.l0 : Nat → List (S95) → List (S33) → Int → Option ((List (S33)))
 | 0, _, _, _ => none
 | k + 1, x0, x3, x4 => if x4 < (x0.length : Int) then (if 0 ≤ x4 then ((laws_toArc.f ((rd_T95 x0 x4).f0) ((rd_T95 x0 x4).f1) ((rd_T95 x0 x4).f2) ((rd_T95 x0 x4).f3) ((rd_T95 x0 x4).f4)).bind fun bt371 => (if x4 < (x3.length : Int) then (laws_toArcS.l0 k x0 (x3.set (x4 : Int).toNat (⟨bt371.1, bt371.2.1, bt371.2.2.1, bt371.2.2.2.1, bt371.2.2.2.2⟩ : S33)) (wrap64 (x4 + 1))) else (none))) else (none)) else (some x3)
def laws_toArcS.f (k : Nat) (l0 : List (S95)) : Option ((List (S33))) := if 0 ≤ (l0.length : Int) then (if ((l0.length : Int) : Int).toNat ≤ 7036874417766 then (laws_toArcS.l0 k l0 (List.replicate ((l0.length : Int) : Int).toNat z33) 0) else (none)) else (none)
theorem laws_toArcS.mono_l : ∀ k, (∀ y0 y1 y2, LeO (laws_toArcS.l0 k y0 y1 y2) (laws_toArcS.l0 (k + 1) y0 y1 y2))
 | 0 => fun _ _ _ r h => by simp [laws_toArcS.l0] at h
 | k + 1 => by
  have ih0 := laws_toArcS.mono_l k
  ·intro y0 y1 y2
   unfold laws_toArcS.l0
   repeat' first | (with_reducible exact ih0 _ _ _) | (with_reducible exact LeO.refl _) | (with_reducible refine LeO.ite ?_ ?_) | (with_reducible refine LeO.bind ?_ (fun _ => ?_))
theorem laws_toArcS.mono : ∀ a0 k, LeO (laws_toArcS.f k a0) (laws_toArcS.f (k + 1) a0) := by
 intro a0 k
 have ih0 := laws_toArcS.mono_l k
 unfold laws_toArcS.f
 repeat' first | (with_reducible exact ih0 _ _ _) | (with_reducible exact LeO.refl _) | (with_reducible refine LeO.ite ?_ ?_)
set_option maxHeartbeats 8000000 in
set_option maxRecDepth 100000 in
theorem laws_toArcS.calls (k : Nat) (A0 : Option Addr) (c0 : Nat) (l0 : List (S95)) (r : List (S33)) (w : World) (hr0 : Kd.C k95 w A0 l0.length l0) (hc0 : l0.length ≤ c0) (h : laws_toArcS.f k l0 = some r) :
  Calls Try.prog 50 #[.slice A0 l0.length c0] w fun e w' => ∃ v0_ : Value, e = .returned (v0_) ∧ Kd.R k33 33 w' w.heap.size (fun _ => True) v0_ r ∧ Below w.heap.size w w' := by
 have hu95 := Try.underlying95
 have hu33 := Try.underlying33
 have HR0 := ak hr0
 have HC0 := ak hc0
 clear hr0 hc0
 have HB := ak (Below.refl w.heap.size w)
 have H : (if 0 ≤ (l0.length : Int) then (if ((l0.length : Int) : Int).toNat ≤ 7036874417766 then (laws_toArcS.l0 k l0 (List.replicate ((l0.length : Int) : Int).toNat z33) 0) else (none)) else (none)) = some r := h
 clear h
 by_cases c2 : 0 ≤ (l0.length : Int)
 rotate_left
 ·rw [if_neg c2] at H
  exact absurd H (by simp)
 rw [if_pos c2] at H
 have c2b0 := eq_true c2
 have c2b1 : decide (0 ≤ (l0.length : Int)) = true := decide_eq_true c2
 clear c2
 by_cases c3 : ((l0.length : Int) : Int).toNat ≤ 7036874417766
 rotate_left
 ·rw [if_neg c3] at H
  exact absurd H (by simp)
 rw [if_pos c3] at H
 have c3b0 := eq_true c3
 have c3b1 : decide (((l0.length : Int) : Int).toNat ≤ 7036874417766) = true := decide_eq_true c3
 clear c3
 obtain ⟨y367, hy367⟩ : ∃ y_ : List (S33), y_ = (List.replicate ((l0.length : Int) : Int).toNat z33) := ⟨_, rfl⟩
 replace H : (laws_toArcS.l0 k l0 y367 0) = some r := by (rw [hy367]; with_reducible exact H)
 have Ny367 := ak hy367
 clear hy367
 have H' := ak H
 clear H
 go_enter Try.func50, Try.ntmps50
 go_wp2_with (((with_reducible refine gate_dst (N := 7) rfl ?_); refine Kd.R_make k33 _ 33 rfl (N := 7) rfl 23 _ _ rfl (l0.length : Int) rfl rfl Try.underlying23 (.agg #[(.int .i64 0), (.int .i64 0), (.int .i64 0), (.int .i64 0), (.int .i64 0)]) 40 info33 rfl (by decide) (by omega) z33 (ok := fun _ => True) (okp := fun _ => True) (k33_mkM _ _ _ z33 ) (fun _ hk => hk) trivial (oT (by (with_reducible assumption))) (Nat.le_trans (Nat.mul_le_mul_right _ (oT (by (with_reducible assumption)) : (l0.length : Int).toNat ≤ 7036874417766)) (by omega)) (Below.refl _ _) (Nat.le_refl _) ?_; intro v368 w4 ho5 hb hg_ hnew_; clear hg_ hnew_; (rw [← Ny367.out] at ho5); have HO369 := ak (Kd.R_lower ho5 (below_size (bl HB))); replace HB := ak (below_step (bl HB) hb); clear hb ho5))
 go_loopg [4] k (fun kq v4 w' => ∃ (x3_1 : List (S33)) (x4_1 : Int), v4 = .int .i64 x4_1 ∧ Aside0 (laws_toArcS.l0 kq l0 x3_1 x4_1 = some r) ∧ Aside0 (kq ≤ k) ∧ Aside0 (Kd.R k33 33 w' w.heap.size (fun _ => True) v368 x3_1) ∧ Aside0 (Below w.heap.size w w'))
 case atStart => exact ⟨(y367), (0), (by rfl), H', ⟨Nat.le_refl _⟩, ⟨rk HO369⟩, ⟨bl HB⟩⟩
 clear H'
 try clear c2
 try clear c2b0
 try clear c2b1
 try clear p2
 try clear c3
 try clear c3b0
 try clear c3b1
 try clear c5
 obtain ⟨x3_1, x4_1, rfl, HA, HK1, HO_3, HB⟩ := hrel
 cases gk with
 | zero => exact absurd HA.out (by simp [laws_toArcS.l0])
 | succ k1 =>
  have H := HA.out
  clear HA
  simp only [laws_toArcS.l0] at H
  by_cases c6 : x4_1 < (l0.length : Int)
  rotate_left
  ·rw [if_neg c6] at H
   have c6b0 : decide (x4_1 < (l0.length : Int)) = false := decide_eq_false c6
   clear c6
   obtain rfl := Option.some.inj H
   go_wp2
   go_ret
   exact ⟨_, by rfl, rk HO_3, bl HB⟩
  rw [if_pos c6] at H
  have c6b0 : decide (x4_1 < (l0.length : Int)) = true := decide_eq_true c6
  clear c6
  by_cases c7 : 0 ≤ x4_1
  rotate_left
  ·rw [if_neg c7] at H
   exact absurd H (by simp)
  rw [if_pos c7] at H
  have c7b0 : decide (0 ≤ x4_1) = true := decide_eq_true c7
  clear c7
  replace H := Option.bind_eq_some_iff.mp H
  obtain ⟨⟨t371, t372, t373, t374, t375⟩, A80, H⟩ := H
  have A8 := ak A80
  clear A80
  by_cases c9 : x4_1 < (x3_1.length : Int)
  rotate_left
  ·rw [if_neg c9] at H
   exact absurd H (by simp)
  rw [if_pos c9] at H
  have c9b0 : decide (x4_1 < (x3_1.length : Int)) = true := decide_eq_true c9
  clear c9
  obtain ⟨y376, hy376⟩ : ∃ y_ : List (S33), y_ = (x3_1.set (x4_1 : Int).toNat (⟨t371, t372, t373, t374, t375⟩ : S33)) := ⟨_, rfl⟩
  replace H : (laws_toArcS.l0 k1 l0 y376 (wrap64 (x4_1 + 1))) = some r := by (rw [hy376]; with_reducible exact H)
  have Ny376 := ak hy376
  clear hy376
  have H' := ak H
  clear H
  have p370 : 0 ≤ (x4_1 : Int) := oT (by (with_reducible assumption))
  have q370 : x4_1 < (l0.length : Int) := oT (by (with_reducible assumption))
  obtain ⟨ad370, e370, hx370_0, hx370_1, hx370_2, hx370_3, hx370_4⟩ := at_T95 HR0.out x4_1 p370 q370
  cases e370
  replace hx370_0 := hcb HB.out hx370_0
  replace hx370_1 := hcb HB.out hx370_1
  replace hx370_2 := hcb HB.out hx370_2
  replace hx370_3 := hcb HB.out hx370_3
  replace hx370_4 := hcb HB.out hx370_4
  replace p370 := eq_true p370
  replace q370 := eq_true q370
  go_wp2_with (first | ((with_reducible refine gate_callee (f := 73) rfl ?_); refine goesL_ (some 20) rfl rfl Try.func73 (by kernel_rfl) rfl #[.agg #[.int .i64 ((rd_T95 l0 x4_1).f0), .int .i64 ((rd_T95 l0 x4_1).f1), .int .i64 ((rd_T95 l0 x4_1).f2), .int .i64 ((rd_T95 l0 x4_1).f3), .int .i64 ((rd_T95 l0 x4_1).f4)]] rfl (by (try simp only [List.map_toArray, List.map_cons, List.map_nil]); rfl) ?_; (with_reducible refine (laws_toArc.calls ((rd_T95 l0 x4_1).f0) ((rd_T95 l0 x4_1).f1) ((rd_T95 l0 x4_1).f2) ((rd_T95 l0 x4_1).f3) ((rd_T95 l0 x4_1).f4) t371 t372 t373 t374 t375 _ A8.out).mono ?_); rintro e w11 ⟨rfl, hb⟩; refine ⟨_, rfl, ?_⟩; replace HO_3 := ak (Kd.R_below (rk HO_3) hb); replace HB := ak (below_step (bl HB) hb); (try clear hb); (try clear hb2); (try clear hk); (try clear hi); have p10 : 0 ≤ (x4_1 : Int) := oT (by (with_reducible assumption)); have q10 : (x4_1 : Int) < ((x3_1.length : Int) : Int) := oT (by (with_reducible assumption)); obtain ⟨go10, co10, eo10, gb10, gl10, cl10, HG10⟩ := Kd.R_form HO_3.out (by omega); (cases eo10); have GB10 := ak gb10; have GG10 := ak HG10; clear gb10 gl10 HG10; obtain ⟨ce10, hcl10, hM10, hcc10, hfr10⟩ := Kd.R_elem HO_3.out z33 (x4_1 : Int) p10 q10; obtain rfl := k33_openM hM10; have hx10_0 : w11.cell? ⟨go10, (x4_1 : Int).toNat * 5, none⟩ = some (.int .i64 ((rd_T33 x3_1 x4_1).f0)) := hcc10 0 _ rfl; have hx10_1 : w11.cell? ⟨go10, (x4_1 : Int).toNat * 5 + 1, none⟩ = some (.int .i64 ((rd_T33 x3_1 x4_1).f1)) := hcc10 1 _ rfl; have hx10_2 : w11.cell? ⟨go10, (x4_1 : Int).toNat * 5 + 2, none⟩ = some (.int .i64 ((rd_T33 x3_1 x4_1).f2)) := hcc10 2 _ rfl; have hx10_3 : w11.cell? ⟨go10, (x4_1 : Int).toNat * 5 + 3, none⟩ = some (.int .i64 ((rd_T33 x3_1 x4_1).f3)) := hcc10 3 _ rfl; have hx10_4 : w11.cell? ⟨go10, (x4_1 : Int).toNat * 5 + 4, none⟩ = some (.int .i64 ((rd_T33 x3_1 x4_1).f4)) := hcc10 4 _ rfl; have hf10_0 : w11.frozen? ⟨go10, (x4_1 : Int).toNat * 5, none⟩ = false := hfr10 0; have hf10_1 : w11.frozen? ⟨go10, (x4_1 : Int).toNat * 5 + 1, none⟩ = false := hfr10 1; have hf10_2 : w11.frozen? ⟨go10, (x4_1 : Int).toNat * 5 + 2, none⟩ = false := hfr10 2; have hf10_3 : w11.frozen? ⟨go10, (x4_1 : Int).toNat * 5 + 3, none⟩ = false := hfr10 3; have hf10_4 : w11.frozen? ⟨go10, (x4_1 : Int).toNat * 5 + 4, none⟩ = false := hfr10 4; clear hcl10 hcc10 hfr10 hM10; replace p10 := eq_true p10; replace q10 := eq_true q10; have HX12 := ak (show Kd.R k33 33 w11 w.heap.size (fun _ => True) (.slice (some ⟨go10, 0, none⟩) x3_1.length co10) x3_1 from (rk HO_3)); obtain ⟨ce12, hcl12, hM12, hcc12, hfr12⟩ := Kd.R_elem HX12.out z33 (x4_1 : Int) (oT (by (with_reducible assumption))) (by have h_ : (x4_1 : Int) < ((x3_1.length : Int) : Int) := oT (by (with_reducible assumption)); exact h_); obtain rfl := k33_openM hM12; have HP12 := Kd.R_seg HX12.out (x4_1 : Int) (oT (by (with_reducible assumption))) (by have h_ : (x4_1 : Int) < ((x3_1.length : Int) : Int) := oT (by (with_reducible assumption)); exact h_) (seg := [.int .i64 t371, .int .i64 t372, .int .i64 t373, .int .i64 t374, .int .i64 t375]) (j := 0) hcl12 hcc12 (show 5 ≤ 5 from by decide) (x' := (⟨t371, t372, t373, t374, t375⟩ : S33)) (k33_mkM _ _ _ (⟨t371, t372, t373, t374, t375⟩ : S33) ) (fun _ hk => hk); have hx12_0 := hcc12 0 _ rfl; (try simp only [show (k33).sz = 5 from rfl, Nat.mul_one, Nat.add_zero] at hx12_0); have hf12_0 := hfr12 0; (try simp only [show (k33).sz = 5 from rfl, Nat.mul_one, Nat.add_zero] at hf12_0); have hx12_1 := hcc12 1 _ rfl; (try simp only [show (k33).sz = 5 from rfl, Nat.mul_one, Nat.add_zero] at hx12_1); have hf12_1 := hfr12 1; (try simp only [show (k33).sz = 5 from rfl, Nat.mul_one, Nat.add_zero] at hf12_1); have hx12_2 := hcc12 2 _ rfl; (try simp only [show (k33).sz = 5 from rfl, Nat.mul_one, Nat.add_zero] at hx12_2); have hf12_2 := hfr12 2; (try simp only [show (k33).sz = 5 from rfl, Nat.mul_one, Nat.add_zero] at hf12_2); have hx12_3 := hcc12 3 _ rfl; (try simp only [show (k33).sz = 5 from rfl, Nat.mul_one, Nat.add_zero] at hx12_3); have hf12_3 := hfr12 3; (try simp only [show (k33).sz = 5 from rfl, Nat.mul_one, Nat.add_zero] at hf12_3); have hx12_4 := hcc12 4 _ rfl; (try simp only [show (k33).sz = 5 from rfl, Nat.mul_one, Nat.add_zero] at hx12_4); have hf12_4 := hfr12 4; (try simp only [show (k33).sz = 5 from rfl, Nat.mul_one, Nat.add_zero] at hf12_4); clear hcl12 hcc12 hfr12 hM12) | ((with_reducible refine gate_store (t := 33) (p := 21) rfl ?_); refine store_event (t := 33) (p := 21) (v := ?vo_w13) (w1 := (((((w11.setCell ⟨go10, (x4_1 : Int).toNat * 5, none⟩ (.int .i64 t371)).setCell ⟨go10, (x4_1 : Int).toNat * 5 + 1, none⟩ (.int .i64 t372)).setCell ⟨go10, (x4_1 : Int).toNat * 5 + 2, none⟩ (.int .i64 t373)).setCell ⟨go10, (x4_1 : Int).toNat * 5 + 3, none⟩ (.int .i64 t374)).setCell ⟨go10, (x4_1 : Int).toNat * 5 + 4, none⟩ (.int .i64 t375))) ?hg ?ho ?hn ?hr ?_; (case ho => rfl); (case hg => rfl); (case hn => rfl); (case hr => (go_simp; done)); intro w13 hw; have hg : w11.grownBy w13 (some go10) := (by rw [hw]; exact HP12.2); have hp_ : Kd.R k33 33 w13 w.heap.size (fun _ => True) (.slice (some ⟨go10, 0, none⟩) x3_1.length co10) y376 := (by rw [hw, Ny376.out]; exact HP12.1); clear HP12; replace HO_3 := ak (hp_); replace HB := ak ((by rw [hw]; exact below_set (below_set (below_set (below_set (below_set (HB.out) GB10.out) GB10.out) GB10.out) GB10.out) GB10.out : Below w.heap.size w w13)); clear hg hw hp_))
  go_roundg k1
  case measure => have := HK1.out; omega
  case rel => exact ⟨(y376), (wrap64 (x4_1 + 1)), (by rfl), H', ⟨by have := HK1.out; omega⟩, ⟨rk HO_3⟩, ⟨bl HB⟩⟩

/-! ### laws_toNet: function 19 -/
def laws_toNet.f (k : Nat) (a0_0 : Int) (l0_1 : List (S95)) : Option (Int × (List (S33))) := (laws_toArcS.f k l0_1).bind fun t380 => (some (a0_0, t380))
theorem laws_toNet.mono : ∀ a0 a1 k, LeO (laws_toNet.f k a0 a1) (laws_toNet.f (k + 1) a0 a1) := by
 intro a0 a1 k
 unfold laws_toNet.f
 repeat' first | (with_reducible exact laws_toArcS.mono _ _) | (with_reducible exact LeO.refl _) | (with_reducible refine LeO.bind ?_ (fun _ => ?_))
set_option maxHeartbeats 8000000 in
set_option maxRecDepth 100000 in
theorem laws_toNet.calls (k : Nat) (a0_0 : Int) (A0_1 : Option Addr) (c0_1 : Nat) (l0_1 : List (S95)) (r1 : Int) (r2 : List (S33)) (w : World) (hr0_1 : Kd.C k95 w A0_1 l0_1.length l0_1) (hc0_1 : l0_1.length ≤ c0_1) (h : laws_toNet.f k a0_0 l0_1 = some (r1, r2)) :
  Calls Try.prog 19 #[.agg #[.int .i64 a0_0, .slice A0_1 l0_1.length c0_1]] w fun e w' => ∃ v1_ : Value, e = .returned (.agg #[.int .i64 r1, v1_]) ∧ Kd.R k33 33 w' w.heap.size (fun _ => True) v1_ r2 ∧ Below w.heap.size w w' := by
 have hu40 := Try.underlying40
 have hu25 := Try.underlying25
 have HR0_1 := ak hr0_1
 have HC0_1 := ak hc0_1
 clear hr0_1 hc0_1
 have HB := ak (Below.refl w.heap.size w)
 have H : ((laws_toArcS.f k l0_1).bind fun t380 => (some (a0_0, t380))) = some (r1, r2) := h
 clear h
 replace H := Option.bind_eq_some_iff.mp H
 obtain ⟨t380, A20, H⟩ := H
 have A2 := ak A20
 clear A20
 simp only [Option.some.injEq, Prod.mk.injEq] at H
 obtain ⟨rfl, rfl⟩ := H
 go_enter Try.func19, Try.ntmps19
 go_wp2_with (first | ((with_reducible refine gate_dst (N := 1) rfl ?_); refine box_event ?hg (N := 1) ?hd (cs := #[.int .i64 a0_0, .slice A0_1 l0_1.length c0_1]) (t := 40) ?hr ?_; (case hd => rfl); (case hg => rfl); (case hr => (go_simp; done)); intro gb377 hg w3 hbox hb; have BK377 := ak (hbox); have GW377 := ak ((by rw [hg]; exact (below_size (bl HB)) : w.heap.size ≤ gb377)); have GE377 := ak ((by rw [hg]; exact (below_size (bl HB)) : w.heap.size ≤ gb377)); replace HB := ak (below_step (bl HB) hb); clear hb hbox hg) | ((with_reducible refine gate_dst (N := 2) rfl ?_); refine box_event ?hg (N := 2) ?hd (cs := #[.int .i64 0, .slice none 0 0]) (t := 25) ?hr ?_; (case hd => rfl); (case hg => rfl); (case hr => (go_simp; done)); intro gb378 hg w4 hbox hb; have BK378 := ak (hbox); have GW378 := ak ((by rw [hg]; exact (below_size (bl1 HB GE377)) : w.heap.size ≤ gb378)); have GE378 := ak ((by rw [hg]; exact (below_size (bl1 HB GE377)) : w.heap.size ≤ gb378)); replace HB := ak (below_step (bl1 HB GE377) hb); have NB377_378 := ak ((by rw [hg]; exact Nat.ne_of_lt (blk_lt (bk BK377)) : gb377 ≠ gb378)); have NB378_377 := ak ((by rw [hg]; exact Nat.ne_of_gt (blk_lt (bk BK377)) : gb378 ≠ gb377)); replace BK377 := ak (blk_below (bk BK377) hb); clear hb hbox hg) | ((with_reducible refine gate_dst (N := 3) rfl ?_); refine box_event ?hg (N := 3) ?hd (cs := #[.int .i64 0, .slice none 0 0]) (t := 25) ?hr ?_; (case hd => rfl); (case hg => rfl); (case hr => (go_simp; done)); intro gb379 hg w5 hbox hb; have BK379 := ak (hbox); have GW379 := ak ((by rw [hg]; exact (below_size (bl2 HB GE377 GE378)) : w.heap.size ≤ gb379)); have GE379 := ak ((by rw [hg]; exact (below_size (bl2 HB GE377 GE378)) : w.heap.size ≤ gb379)); replace HB := ak (below_step (bl2 HB GE377 GE378) hb); have NB377_379 := ak ((by rw [hg]; exact Nat.ne_of_lt (blk_lt (bk BK377)) : gb377 ≠ gb379)); have NB379_377 := ak ((by rw [hg]; exact Nat.ne_of_gt (blk_lt (bk BK377)) : gb379 ≠ gb377)); replace BK377 := ak (blk_below (bk BK377) hb); have NB378_379 := ak ((by rw [hg]; exact Nat.ne_of_lt (blk_lt (bk BK378)) : gb378 ≠ gb379)); have NB379_378 := ak ((by rw [hg]; exact Nat.ne_of_gt (blk_lt (bk BK378)) : gb379 ≠ gb378)); replace BK378 := ak (blk_below (bk BK378) hb); clear hb hbox hg; have hnb6 := NB377_378.out; have hnc6 := NB378_377.out; have hnb7 := NB377_379.out; have hnc7 := NB379_377.out; have hcz8_0 := bc w5 BK377 0 (.int .i64 a0_0) rfl; have hcz8_1 := bc w5 BK377 1 (.slice A0_1 l0_1.length c0_1) rfl; have hfz8_0 := fz BK377 0; have hfz8_1 := fz BK377 1; have hnb9 := NB379_378.out; have hnc9 := NB378_379.out; have hcz10_0 := bc w5 BK379 0 (.int .i64 0) rfl; have hcz10_1 := bc w5 BK379 1 (.slice none 0 0) rfl; have hfz10_0 := fz BK379 0; have hfz10_1 := fz BK379 1) | ((with_reducible refine gate_callee (f := 50) rfl ?_); refine goesL_ (some 9) rfl rfl Try.func50 (by kernel_rfl) rfl #[.slice A0_1 l0_1.length c0_1] rfl (by (try simp only [List.map_toArray, List.map_cons, List.map_nil]); rfl) ?_; (with_reducible refine (laws_toArcS.calls k _ _ l0_1 t380 _ ?side1 ?side2 A2.out).mono ?_); (case side1 => exact Kd.C_below HR0_1.out (bl3 HB GE377 GE378 GE379)); (case side2 => exact HC0_1.out); rintro e w11 ⟨v381, rfl, ho0, hb⟩; refine ⟨_, rfl, ?_⟩; have HO382 := ak (Kd.R_lower ho0 (below_size (bl3 HB GE377 GE378 GE379))); replace BK377 := ak (blk_below (g := gb377) (o := .cells #[.int .i64 a0_0, .slice A0_1 l0_1.length c0_1] 40 (0, 0)) (by refine blk_far ?_ NB377_379.out _; exact BK377.out) hb); replace BK378 := ak (blk_below (g := gb378) (o := .cells #[.int .i64 0, .slice none 0 0] 25 (0, 0)) (by refine blk_far ?_ NB378_379.out _; exact BK378.out) hb); replace BK379 := ak (blk_below (g := gb379) (o := .cells #[.int .i64 a0_0, .slice none 0 0] 25 (0, 0)) (by refine blk_put (cs := #[.int .i64 0, .slice none 0 0]) ?_ 0 _ rfl; exact BK379.out) hb); replace HB := ak (below_step (bl3 HB GE377 GE378 GE379) hb); (try clear hb); (try clear hb2); (try clear hk); (try clear hi); (try clear ho0); obtain ⟨Ao12, co12, eo12⟩ := Kd.R_slice HO382.out; subst eo12; have hcz13_0 := bc w11 BK379 0 (.int .i64 a0_0) rfl; have hcz13_1 := bc w11 BK379 1 (.slice none 0 0) rfl; have hfz13_0 := fz BK379 0; have hfz13_1 := fz BK379 1; have hcz14_0 := bc w11 BK378 0 (.int .i64 0) rfl; have hcz14_1 := bc w11 BK378 1 (.slice none 0 0) rfl; have hfz14_0 := fz BK378 0; have hfz14_1 := fz BK378 1))
 refine bodyPost_ret (results_cell_row rfl _ _ gb378 25 #[.int .i64 a0_0, .slice Ao12 t380.length co12] (0, 0) _ rfl (by refine blk_put (cs := #[.int .i64 a0_0, .slice none 0 0]) ?_ 1 _ rfl; refine blk_put (cs := #[.int .i64 0, .slice none 0 0]) ?_ 0 _ rfl; refine blk_far ?_ NB378_379.out _; exact BK378.out) Try.underlying25 rfl (by kernel_rfl)) rfl ?_
 exact ⟨_, by rfl, by exact Kd.R_mono (Kd.R_far (p := ⟨gb378, 1, none⟩) (Kd.R_far (p := ⟨gb378, 0, none⟩) (Kd.R_far (p := ⟨gb379, 1, none⟩) (Kd.R_types (Kd.R_types HO382.out BK379.out (by decide)) BK378.out (by decide)) (fun _ hk => hk.1.2) (.slice Ao12 t380.length co12)) (fun _ hk => hk.2) (.int .i64 a0_0)) (fun _ hk => hk.2) (.slice Ao12 t380.length co12)) (fun _ hk => trivial), bl3 HB GE377 GE378 GE379⟩

/-! ### laws_eqArc: function 74 -/
def laws_eqArc.f (a0_0 : Int) (a0_1 : Int) (a0_2 : Int) (a0_3 : Int) (a0_4 : Int) (a1_0 : Int) (a1_1 : Int) (a1_2 : Int) (a1_3 : Int) (a1_4 : Int) : Option (Bool) := if a0_0 = a1_0 then (if a0_1 = a1_1 then (if a0_2 = a1_2 then (if a0_3 = a1_3 then (if a0_4 = a1_4 then (some true) else (some false)) else (some false)) else (some false)) else (some false)) else (some false)
set_option maxHeartbeats 8000000 in
set_option maxRecDepth 100000 in
theorem laws_eqArc.calls (a0_0 : Int) (a0_1 : Int) (a0_2 : Int) (a0_3 : Int) (a0_4 : Int) (a1_0 : Int) (a1_1 : Int) (a1_2 : Int) (a1_3 : Int) (a1_4 : Int) (r : Bool) (w : World) (h : laws_eqArc.f a0_0 a0_1 a0_2 a0_3 a0_4 a1_0 a1_1 a1_2 a1_3 a1_4 = some r) :
  Calls Try.prog 74 #[.agg #[.int .i64 a0_0, .int .i64 a0_1, .int .i64 a0_2, .int .i64 a0_3, .int .i64 a0_4], .agg #[.int .i64 a1_0, .int .i64 a1_1, .int .i64 a1_2, .int .i64 a1_3, .int .i64 a1_4]] w fun e w' => e = .returned (.bool r) ∧ Below w.heap.size w w' := by
 have hu33 := Try.underlying33
 have HB := ak (Below.refl w.heap.size w)
 have H : (if a0_0 = a1_0 then (if a0_1 = a1_1 then (if a0_2 = a1_2 then (if a0_3 = a1_3 then (if a0_4 = a1_4 then (some true) else (some false)) else (some false)) else (some false)) else (some false)) else (some false)) = some r := h
 clear h
 by_cases c3 : a0_0 = a1_0
 rotate_left
 ·rw [if_neg c3] at H
  have c3b0 : (a0_0 == a1_0) = false := beq_eq_false_iff_ne.mpr c3
  have c3b1 : (a0_0 != a1_0) = true := bne_iff_ne.mpr c3
  obtain rfl := Option.some.inj H
  go_enter Try.func74, Try.ntmps74
  go_wp2_with (first | ((with_reducible refine gate_dst (N := 2) rfl ?_); refine box_event ?hg (N := 2) ?hd (cs := #[.int .i64 a0_0, .int .i64 a0_1, .int .i64 a0_2, .int .i64 a0_3, .int .i64 a0_4]) (t := 33) ?hr ?_; (case hd => rfl); (case hg => rfl); (case hr => (go_simp; done)); intro gb393 hg w33 hbox hb; have BK393 := ak (hbox); have GW393 := ak ((by rw [hg]; exact (below_size (bl HB)) : w.heap.size ≤ gb393)); have GE393 := ak ((by rw [hg]; exact (below_size (bl HB)) : w.heap.size ≤ gb393)); replace HB := ak (below_step (bl HB) hb); clear hb hbox hg) | ((with_reducible refine gate_dst (N := 3) rfl ?_); refine box_event ?hg (N := 3) ?hd (cs := #[.int .i64 a1_0, .int .i64 a1_1, .int .i64 a1_2, .int .i64 a1_3, .int .i64 a1_4]) (t := 33) ?hr ?_; (case hd => rfl); (case hg => rfl); (case hr => (go_simp; done)); intro gb394 hg w34 hbox hb; have BK394 := ak (hbox); have GW394 := ak ((by rw [hg]; exact (below_size (bl1 HB GE393)) : w.heap.size ≤ gb394)); have GE394 := ak ((by rw [hg]; exact (below_size (bl1 HB GE393)) : w.heap.size ≤ gb394)); replace HB := ak (below_step (bl1 HB GE393) hb); have NB393_394 := ak ((by rw [hg]; exact Nat.ne_of_lt (blk_lt (bk BK393)) : gb393 ≠ gb394)); have NB394_393 := ak ((by rw [hg]; exact Nat.ne_of_gt (blk_lt (bk BK393)) : gb394 ≠ gb393)); replace BK393 := ak (blk_below (bk BK393) hb); clear hb hbox hg; have hnb35 := NB393_394.out; have hnc35 := NB394_393.out; have hcz36_0 := bc w34 BK393 0 (.int .i64 a0_0) rfl; have hcz36_1 := bc w34 BK393 1 (.int .i64 a0_1) rfl; have hcz36_2 := bc w34 BK393 2 (.int .i64 a0_2) rfl; have hcz36_3 := bc w34 BK393 3 (.int .i64 a0_3) rfl; have hcz36_4 := bc w34 BK393 4 (.int .i64 a0_4) rfl; have hfz36_0 := fz BK393 0; have hfz36_1 := fz BK393 1; have hfz36_2 := fz BK393 2; have hfz36_3 := fz BK393 3; have hfz36_4 := fz BK393 4; have hcz37_0 := bc w34 BK394 0 (.int .i64 a1_0) rfl; have hcz37_1 := bc w34 BK394 1 (.int .i64 a1_1) rfl; have hcz37_2 := bc w34 BK394 2 (.int .i64 a1_2) rfl; have hcz37_3 := bc w34 BK394 3 (.int .i64 a1_3) rfl; have hcz37_4 := bc w34 BK394 4 (.int .i64 a1_4) rfl; have hfz37_0 := fz BK394 0; have hfz37_1 := fz BK394 1; have hfz37_2 := fz BK394 2; have hfz37_3 := fz BK394 3; have hfz37_4 := fz BK394 4))
  go_ret
  exact ⟨by rfl, bl2 HB GE393 GE394⟩
 rw [if_pos c3] at H
 have c3b0 : (a0_0 == a1_0) = true := beq_iff_eq.mpr c3
 have c3b1 : (a0_0 != a1_0) = false := bne_eq_false_iff_eq.mpr c3
 clear c3
 by_cases c4 : a0_1 = a1_1
 rotate_left
 ·rw [if_neg c4] at H
  have c4b0 : (a0_1 == a1_1) = false := beq_eq_false_iff_ne.mpr c4
  have c4b1 : (a0_1 != a1_1) = true := bne_iff_ne.mpr c4
  obtain rfl := Option.some.inj H
  go_enter Try.func74, Try.ntmps74
  go_wp2_with (first | ((with_reducible refine gate_dst (N := 2) rfl ?_); refine box_event ?hg (N := 2) ?hd (cs := #[.int .i64 a0_0, .int .i64 a0_1, .int .i64 a0_2, .int .i64 a0_3, .int .i64 a0_4]) (t := 33) ?hr ?_; (case hd => rfl); (case hg => rfl); (case hr => (go_simp; done)); intro gb393 hg w28 hbox hb; have BK393 := ak (hbox); have GW393 := ak ((by rw [hg]; exact (below_size (bl HB)) : w.heap.size ≤ gb393)); have GE393 := ak ((by rw [hg]; exact (below_size (bl HB)) : w.heap.size ≤ gb393)); replace HB := ak (below_step (bl HB) hb); clear hb hbox hg) | ((with_reducible refine gate_dst (N := 3) rfl ?_); refine box_event ?hg (N := 3) ?hd (cs := #[.int .i64 a1_0, .int .i64 a1_1, .int .i64 a1_2, .int .i64 a1_3, .int .i64 a1_4]) (t := 33) ?hr ?_; (case hd => rfl); (case hg => rfl); (case hr => (go_simp; done)); intro gb394 hg w29 hbox hb; have BK394 := ak (hbox); have GW394 := ak ((by rw [hg]; exact (below_size (bl1 HB GE393)) : w.heap.size ≤ gb394)); have GE394 := ak ((by rw [hg]; exact (below_size (bl1 HB GE393)) : w.heap.size ≤ gb394)); replace HB := ak (below_step (bl1 HB GE393) hb); have NB393_394 := ak ((by rw [hg]; exact Nat.ne_of_lt (blk_lt (bk BK393)) : gb393 ≠ gb394)); have NB394_393 := ak ((by rw [hg]; exact Nat.ne_of_gt (blk_lt (bk BK393)) : gb394 ≠ gb393)); replace BK393 := ak (blk_below (bk BK393) hb); clear hb hbox hg; have hnb30 := NB393_394.out; have hnc30 := NB394_393.out; have hcz31_0 := bc w29 BK393 0 (.int .i64 a0_0) rfl; have hcz31_1 := bc w29 BK393 1 (.int .i64 a0_1) rfl; have hcz31_2 := bc w29 BK393 2 (.int .i64 a0_2) rfl; have hcz31_3 := bc w29 BK393 3 (.int .i64 a0_3) rfl; have hcz31_4 := bc w29 BK393 4 (.int .i64 a0_4) rfl; have hfz31_0 := fz BK393 0; have hfz31_1 := fz BK393 1; have hfz31_2 := fz BK393 2; have hfz31_3 := fz BK393 3; have hfz31_4 := fz BK393 4; have hcz32_0 := bc w29 BK394 0 (.int .i64 a1_0) rfl; have hcz32_1 := bc w29 BK394 1 (.int .i64 a1_1) rfl; have hcz32_2 := bc w29 BK394 2 (.int .i64 a1_2) rfl; have hcz32_3 := bc w29 BK394 3 (.int .i64 a1_3) rfl; have hcz32_4 := bc w29 BK394 4 (.int .i64 a1_4) rfl; have hfz32_0 := fz BK394 0; have hfz32_1 := fz BK394 1; have hfz32_2 := fz BK394 2; have hfz32_3 := fz BK394 3; have hfz32_4 := fz BK394 4))
  go_ret
  exact ⟨by rfl, bl2 HB GE393 GE394⟩
 rw [if_pos c4] at H
 have c4b0 : (a0_1 == a1_1) = true := beq_iff_eq.mpr c4
 have c4b1 : (a0_1 != a1_1) = false := bne_eq_false_iff_eq.mpr c4
 clear c4
 by_cases c5 : a0_2 = a1_2
 rotate_left
 ·rw [if_neg c5] at H
  have c5b0 : (a0_2 == a1_2) = false := beq_eq_false_iff_ne.mpr c5
  have c5b1 : (a0_2 != a1_2) = true := bne_iff_ne.mpr c5
  obtain rfl := Option.some.inj H
  go_enter Try.func74, Try.ntmps74
  go_wp2_with (first | ((with_reducible refine gate_dst (N := 2) rfl ?_); refine box_event ?hg (N := 2) ?hd (cs := #[.int .i64 a0_0, .int .i64 a0_1, .int .i64 a0_2, .int .i64 a0_3, .int .i64 a0_4]) (t := 33) ?hr ?_; (case hd => rfl); (case hg => rfl); (case hr => (go_simp; done)); intro gb393 hg w23 hbox hb; have BK393 := ak (hbox); have GW393 := ak ((by rw [hg]; exact (below_size (bl HB)) : w.heap.size ≤ gb393)); have GE393 := ak ((by rw [hg]; exact (below_size (bl HB)) : w.heap.size ≤ gb393)); replace HB := ak (below_step (bl HB) hb); clear hb hbox hg) | ((with_reducible refine gate_dst (N := 3) rfl ?_); refine box_event ?hg (N := 3) ?hd (cs := #[.int .i64 a1_0, .int .i64 a1_1, .int .i64 a1_2, .int .i64 a1_3, .int .i64 a1_4]) (t := 33) ?hr ?_; (case hd => rfl); (case hg => rfl); (case hr => (go_simp; done)); intro gb394 hg w24 hbox hb; have BK394 := ak (hbox); have GW394 := ak ((by rw [hg]; exact (below_size (bl1 HB GE393)) : w.heap.size ≤ gb394)); have GE394 := ak ((by rw [hg]; exact (below_size (bl1 HB GE393)) : w.heap.size ≤ gb394)); replace HB := ak (below_step (bl1 HB GE393) hb); have NB393_394 := ak ((by rw [hg]; exact Nat.ne_of_lt (blk_lt (bk BK393)) : gb393 ≠ gb394)); have NB394_393 := ak ((by rw [hg]; exact Nat.ne_of_gt (blk_lt (bk BK393)) : gb394 ≠ gb393)); replace BK393 := ak (blk_below (bk BK393) hb); clear hb hbox hg; have hnb25 := NB393_394.out; have hnc25 := NB394_393.out; have hcz26_0 := bc w24 BK393 0 (.int .i64 a0_0) rfl; have hcz26_1 := bc w24 BK393 1 (.int .i64 a0_1) rfl; have hcz26_2 := bc w24 BK393 2 (.int .i64 a0_2) rfl; have hcz26_3 := bc w24 BK393 3 (.int .i64 a0_3) rfl; have hcz26_4 := bc w24 BK393 4 (.int .i64 a0_4) rfl; have hfz26_0 := fz BK393 0; have hfz26_1 := fz BK393 1; have hfz26_2 := fz BK393 2; have hfz26_3 := fz BK393 3; have hfz26_4 := fz BK393 4; have hcz27_0 := bc w24 BK394 0 (.int .i64 a1_0) rfl; have hcz27_1 := bc w24 BK394 1 (.int .i64 a1_1) rfl; have hcz27_2 := bc w24 BK394 2 (.int .i64 a1_2) rfl; have hcz27_3 := bc w24 BK394 3 (.int .i64 a1_3) rfl; have hcz27_4 := bc w24 BK394 4 (.int .i64 a1_4) rfl; have hfz27_0 := fz BK394 0; have hfz27_1 := fz BK394 1; have hfz27_2 := fz BK394 2; have hfz27_3 := fz BK394 3; have hfz27_4 := fz BK394 4))
  go_ret
  exact ⟨by rfl, bl2 HB GE393 GE394⟩
 rw [if_pos c5] at H
 have c5b0 : (a0_2 == a1_2) = true := beq_iff_eq.mpr c5
 have c5b1 : (a0_2 != a1_2) = false := bne_eq_false_iff_eq.mpr c5
 clear c5
 by_cases c6 : a0_3 = a1_3
 rotate_left
 ·rw [if_neg c6] at H
  have c6b0 : (a0_3 == a1_3) = false := beq_eq_false_iff_ne.mpr c6
  have c6b1 : (a0_3 != a1_3) = true := bne_iff_ne.mpr c6
  obtain rfl := Option.some.inj H
  go_enter Try.func74, Try.ntmps74
  go_wp2_with (first | ((with_reducible refine gate_dst (N := 2) rfl ?_); refine box_event ?hg (N := 2) ?hd (cs := #[.int .i64 a0_0, .int .i64 a0_1, .int .i64 a0_2, .int .i64 a0_3, .int .i64 a0_4]) (t := 33) ?hr ?_; (case hd => rfl); (case hg => rfl); (case hr => (go_simp; done)); intro gb393 hg w18 hbox hb; have BK393 := ak (hbox); have GW393 := ak ((by rw [hg]; exact (below_size (bl HB)) : w.heap.size ≤ gb393)); have GE393 := ak ((by rw [hg]; exact (below_size (bl HB)) : w.heap.size ≤ gb393)); replace HB := ak (below_step (bl HB) hb); clear hb hbox hg) | ((with_reducible refine gate_dst (N := 3) rfl ?_); refine box_event ?hg (N := 3) ?hd (cs := #[.int .i64 a1_0, .int .i64 a1_1, .int .i64 a1_2, .int .i64 a1_3, .int .i64 a1_4]) (t := 33) ?hr ?_; (case hd => rfl); (case hg => rfl); (case hr => (go_simp; done)); intro gb394 hg w19 hbox hb; have BK394 := ak (hbox); have GW394 := ak ((by rw [hg]; exact (below_size (bl1 HB GE393)) : w.heap.size ≤ gb394)); have GE394 := ak ((by rw [hg]; exact (below_size (bl1 HB GE393)) : w.heap.size ≤ gb394)); replace HB := ak (below_step (bl1 HB GE393) hb); have NB393_394 := ak ((by rw [hg]; exact Nat.ne_of_lt (blk_lt (bk BK393)) : gb393 ≠ gb394)); have NB394_393 := ak ((by rw [hg]; exact Nat.ne_of_gt (blk_lt (bk BK393)) : gb394 ≠ gb393)); replace BK393 := ak (blk_below (bk BK393) hb); clear hb hbox hg; have hnb20 := NB393_394.out; have hnc20 := NB394_393.out; have hcz21_0 := bc w19 BK393 0 (.int .i64 a0_0) rfl; have hcz21_1 := bc w19 BK393 1 (.int .i64 a0_1) rfl; have hcz21_2 := bc w19 BK393 2 (.int .i64 a0_2) rfl; have hcz21_3 := bc w19 BK393 3 (.int .i64 a0_3) rfl; have hcz21_4 := bc w19 BK393 4 (.int .i64 a0_4) rfl; have hfz21_0 := fz BK393 0; have hfz21_1 := fz BK393 1; have hfz21_2 := fz BK393 2; have hfz21_3 := fz BK393 3; have hfz21_4 := fz BK393 4; have hcz22_0 := bc w19 BK394 0 (.int .i64 a1_0) rfl; have hcz22_1 := bc w19 BK394 1 (.int .i64 a1_1) rfl; have hcz22_2 := bc w19 BK394 2 (.int .i64 a1_2) rfl; have hcz22_3 := bc w19 BK394 3 (.int .i64 a1_3) rfl; have hcz22_4 := bc w19 BK394 4 (.int .i64 a1_4) rfl; have hfz22_0 := fz BK394 0; have hfz22_1 := fz BK394 1; have hfz22_2 := fz BK394 2; have hfz22_3 := fz BK394 3; have hfz22_4 := fz BK394 4))
  go_ret
  exact ⟨by rfl, bl2 HB GE393 GE394⟩
 rw [if_pos c6] at H
 have c6b0 : (a0_3 == a1_3) = true := beq_iff_eq.mpr c6
 have c6b1 : (a0_3 != a1_3) = false := bne_eq_false_iff_eq.mpr c6
 clear c6
 by_cases c7 : a0_4 = a1_4
 rotate_left
 ·rw [if_neg c7] at H
  have c7b0 : (a0_4 == a1_4) = false := beq_eq_false_iff_ne.mpr c7
  have c7b1 : (a0_4 != a1_4) = true := bne_iff_ne.mpr c7
  obtain rfl := Option.some.inj H
  go_enter Try.func74, Try.ntmps74
  go_wp2_with (first | ((with_reducible refine gate_dst (N := 2) rfl ?_); refine box_event ?hg (N := 2) ?hd (cs := #[.int .i64 a0_0, .int .i64 a0_1, .int .i64 a0_2, .int .i64 a0_3, .int .i64 a0_4]) (t := 33) ?hr ?_; (case hd => rfl); (case hg => rfl); (case hr => (go_simp; done)); intro gb393 hg w13 hbox hb; have BK393 := ak (hbox); have GW393 := ak ((by rw [hg]; exact (below_size (bl HB)) : w.heap.size ≤ gb393)); have GE393 := ak ((by rw [hg]; exact (below_size (bl HB)) : w.heap.size ≤ gb393)); replace HB := ak (below_step (bl HB) hb); clear hb hbox hg) | ((with_reducible refine gate_dst (N := 3) rfl ?_); refine box_event ?hg (N := 3) ?hd (cs := #[.int .i64 a1_0, .int .i64 a1_1, .int .i64 a1_2, .int .i64 a1_3, .int .i64 a1_4]) (t := 33) ?hr ?_; (case hd => rfl); (case hg => rfl); (case hr => (go_simp; done)); intro gb394 hg w14 hbox hb; have BK394 := ak (hbox); have GW394 := ak ((by rw [hg]; exact (below_size (bl1 HB GE393)) : w.heap.size ≤ gb394)); have GE394 := ak ((by rw [hg]; exact (below_size (bl1 HB GE393)) : w.heap.size ≤ gb394)); replace HB := ak (below_step (bl1 HB GE393) hb); have NB393_394 := ak ((by rw [hg]; exact Nat.ne_of_lt (blk_lt (bk BK393)) : gb393 ≠ gb394)); have NB394_393 := ak ((by rw [hg]; exact Nat.ne_of_gt (blk_lt (bk BK393)) : gb394 ≠ gb393)); replace BK393 := ak (blk_below (bk BK393) hb); clear hb hbox hg; have hnb15 := NB393_394.out; have hnc15 := NB394_393.out; have hcz16_0 := bc w14 BK393 0 (.int .i64 a0_0) rfl; have hcz16_1 := bc w14 BK393 1 (.int .i64 a0_1) rfl; have hcz16_2 := bc w14 BK393 2 (.int .i64 a0_2) rfl; have hcz16_3 := bc w14 BK393 3 (.int .i64 a0_3) rfl; have hcz16_4 := bc w14 BK393 4 (.int .i64 a0_4) rfl; have hfz16_0 := fz BK393 0; have hfz16_1 := fz BK393 1; have hfz16_2 := fz BK393 2; have hfz16_3 := fz BK393 3; have hfz16_4 := fz BK393 4; have hcz17_0 := bc w14 BK394 0 (.int .i64 a1_0) rfl; have hcz17_1 := bc w14 BK394 1 (.int .i64 a1_1) rfl; have hcz17_2 := bc w14 BK394 2 (.int .i64 a1_2) rfl; have hcz17_3 := bc w14 BK394 3 (.int .i64 a1_3) rfl; have hcz17_4 := bc w14 BK394 4 (.int .i64 a1_4) rfl; have hfz17_0 := fz BK394 0; have hfz17_1 := fz BK394 1; have hfz17_2 := fz BK394 2; have hfz17_3 := fz BK394 3; have hfz17_4 := fz BK394 4))
  go_ret
  exact ⟨by rfl, bl2 HB GE393 GE394⟩
 rw [if_pos c7] at H
 have c7b0 : (a0_4 == a1_4) = true := beq_iff_eq.mpr c7
 have c7b1 : (a0_4 != a1_4) = false := bne_eq_false_iff_eq.mpr c7
 clear c7
 obtain rfl := Option.some.inj H
 go_enter Try.func74, Try.ntmps74
 go_wp2_with (first | ((with_reducible refine gate_dst (N := 2) rfl ?_); refine box_event ?hg (N := 2) ?hd (cs := #[.int .i64 a0_0, .int .i64 a0_1, .int .i64 a0_2, .int .i64 a0_3, .int .i64 a0_4]) (t := 33) ?hr ?_; (case hd => rfl); (case hg => rfl); (case hr => (go_simp; done)); intro gb393 hg w8 hbox hb; have BK393 := ak (hbox); have GW393 := ak ((by rw [hg]; exact (below_size (bl HB)) : w.heap.size ≤ gb393)); have GE393 := ak ((by rw [hg]; exact (below_size (bl HB)) : w.heap.size ≤ gb393)); replace HB := ak (below_step (bl HB) hb); clear hb hbox hg) | ((with_reducible refine gate_dst (N := 3) rfl ?_); refine box_event ?hg (N := 3) ?hd (cs := #[.int .i64 a1_0, .int .i64 a1_1, .int .i64 a1_2, .int .i64 a1_3, .int .i64 a1_4]) (t := 33) ?hr ?_; (case hd => rfl); (case hg => rfl); (case hr => (go_simp; done)); intro gb394 hg w9 hbox hb; have BK394 := ak (hbox); have GW394 := ak ((by rw [hg]; exact (below_size (bl1 HB GE393)) : w.heap.size ≤ gb394)); have GE394 := ak ((by rw [hg]; exact (below_size (bl1 HB GE393)) : w.heap.size ≤ gb394)); replace HB := ak (below_step (bl1 HB GE393) hb); have NB393_394 := ak ((by rw [hg]; exact Nat.ne_of_lt (blk_lt (bk BK393)) : gb393 ≠ gb394)); have NB394_393 := ak ((by rw [hg]; exact Nat.ne_of_gt (blk_lt (bk BK393)) : gb394 ≠ gb393)); replace BK393 := ak (blk_below (bk BK393) hb); clear hb hbox hg; have hnb10 := NB393_394.out; have hnc10 := NB394_393.out; have hcz11_0 := bc w9 BK393 0 (.int .i64 a0_0) rfl; have hcz11_1 := bc w9 BK393 1 (.int .i64 a0_1) rfl; have hcz11_2 := bc w9 BK393 2 (.int .i64 a0_2) rfl; have hcz11_3 := bc w9 BK393 3 (.int .i64 a0_3) rfl; have hcz11_4 := bc w9 BK393 4 (.int .i64 a0_4) rfl; have hfz11_0 := fz BK393 0; have hfz11_1 := fz BK393 1; have hfz11_2 := fz BK393 2; have hfz11_3 := fz BK393 3; have hfz11_4 := fz BK393 4; have hcz12_0 := bc w9 BK394 0 (.int .i64 a1_0) rfl; have hcz12_1 := bc w9 BK394 1 (.int .i64 a1_1) rfl; have hcz12_2 := bc w9 BK394 2 (.int .i64 a1_2) rfl; have hcz12_3 := bc w9 BK394 3 (.int .i64 a1_3) rfl; have hcz12_4 := bc w9 BK394 4 (.int .i64 a1_4) rfl; have hfz12_0 := fz BK394 0; have hfz12_1 := fz BK394 1; have hfz12_2 := fz BK394 2; have hfz12_3 := fz BK394 3; have hfz12_4 := fz BK394 4))
 go_ret
 exact ⟨by rfl, bl2 HB GE393 GE394⟩

/-! ### laws_eqArcS: function 51 -/
def laws_eqArcS.l0 : Nat → List (S33) → List (S33) → Int → Option (Bool)
 | 0, _, _, _ => none
 | k + 1, x0, x1, x5 => if x5 < (x0.length : Int) then (if 0 ≤ x5 then (if x5 < (x1.length : Int) then ((laws_eqArc.f ((rd_T33 x0 x5).f0) ((rd_T33 x0 x5).f1) ((rd_T33 x0 x5).f2) ((rd_T33 x0 x5).f3) ((rd_T33 x0 x5).f4) ((rd_T33 x1 x5).f0) ((rd_T33 x1 x5).f1) ((rd_T33 x1 x5).f2) ((rd_T33 x1 x5).f3) ((rd_T33 x1 x5).f4)).bind fun t397 => (if t397 = true then (laws_eqArcS.l0 k x0 x1 (wrap64 (x5 + 1))) else (some false))) else (none)) else (none)) else (some true)
def laws_eqArcS.f (k : Nat) (l0 : List (S33)) (l1 : List (S33)) : Option (Bool) := if (l0.length : Int) = (l1.length : Int) then (laws_eqArcS.l0 k l0 l1 0) else (some false)
theorem laws_eqArcS.mono_l : ∀ k, (∀ y0 y1 y2, LeO (laws_eqArcS.l0 k y0 y1 y2) (laws_eqArcS.l0 (k + 1) y0 y1 y2))
 | 0 => fun _ _ _ r h => by simp [laws_eqArcS.l0] at h
 | k + 1 => by
  have ih0 := laws_eqArcS.mono_l k
  ·intro y0 y1 y2
   unfold laws_eqArcS.l0
   repeat' first | (with_reducible exact ih0 _ _ _) | (with_reducible exact LeO.refl _) | (with_reducible refine LeO.ite ?_ ?_) | (with_reducible refine LeO.bind ?_ (fun _ => ?_))
theorem laws_eqArcS.mono : ∀ a0 a1 k, LeO (laws_eqArcS.f k a0 a1) (laws_eqArcS.f (k + 1) a0 a1) := by
 intro a0 a1 k
 have ih0 := laws_eqArcS.mono_l k
 unfold laws_eqArcS.f
 repeat' first | (with_reducible exact ih0 _ _ _) | (with_reducible exact LeO.refl _) | (with_reducible refine LeO.ite ?_ ?_)
def laws_eqArcS.T6 : Bool × List (List Nat × List Nat) := (true, [([], []), ([], []), ([0, 1], [0, 1]), ([2], [2]), ([], []), ([], []), ([4, 5], [4, 5]), ([6], [6]), ([3, 7], [3, 7]), ([8], [8])])
def laws_eqArcS.B6 : List Nat := [0, 0, 3, 7, 0, 0, 48, 112, 255, 511]
theorem laws_eqArcS.tab6 : rtab .any (opsOf Try.f51 6) = laws_eqArcS.T6 := by kernel_rfl
theorem laws_eqArcS.bits6 : waitsOk laws_eqArcS.T6.2 laws_eqArcS.B6 = true := by kernel_rfl
set_option maxHeartbeats 8000000 in
set_option maxRecDepth 100000 in
theorem laws_eqArcS.calls (k : Nat) (A0 : Option Addr) (c0 : Nat) (l0 : List (S33)) (A1 : Option Addr) (c1 : Nat) (l1 : List (S33)) (r : Bool) (w : World) (hr0 : Kd.C k33 w A0 l0.length l0) (hc0 : l0.length ≤ c0) (hr1 : Kd.C k33 w A1 l1.length l1) (hc1 : l1.length ≤ c1) (h : laws_eqArcS.f k l0 l1 = some r) :
  Calls Try.prog 51 #[.slice A0 l0.length c0, .slice A1 l1.length c1] w fun e w' => e = .returned (.bool r) ∧ Below w.heap.size w w' := by
 have hu33 := Try.underlying33
 have HR0 := ak hr0
 have HC0 := ak hc0
 clear hr0 hc0
 have HR1 := ak hr1
 have HC1 := ak hc1
 clear hr1 hc1
 have HB := ak (Below.refl w.heap.size w)
 have H : (if (l0.length : Int) = (l1.length : Int) then (laws_eqArcS.l0 k l0 l1 0) else (some false)) = some r := h
 clear h
 by_cases c3 : (l0.length : Int) = (l1.length : Int)
 rotate_left
 ·rw [if_neg c3] at H
  have c3b0 : ((l0.length : Int) == (l1.length : Int)) = false := beq_eq_false_iff_ne.mpr c3
  have c3b1 : ((l0.length : Int) != (l1.length : Int)) = true := bne_iff_ne.mpr c3
  have c3b2 : (l0.length == l1.length) = false := by (simp at c3 ⊢; omega)
  obtain rfl := Option.some.inj H
  go_enter Try.func51, Try.ntmps51
  go_wp2
  go_ret
  exact ⟨by rfl, bl HB⟩
 rw [if_pos c3] at H
 have c3b0 : ((l0.length : Int) == (l1.length : Int)) = true := beq_iff_eq.mpr c3
 have c3b1 : ((l0.length : Int) != (l1.length : Int)) = false := bne_eq_false_iff_eq.mpr c3
 have c3b2 : (l0.length == l1.length) = true := by (simp at c3 ⊢; omega)
 clear c3
 have H' := ak H
 clear H
 go_enter Try.func51, Try.ntmps51
 go_wp2
 go_loopg [5] k (fun kq v5 w' => ∃ (x5_1 : Int), v5 = .int .i64 x5_1 ∧ Aside0 (laws_eqArcS.l0 kq l0 l1 x5_1 = some r) ∧ Aside0 (kq ≤ k) ∧ Aside0 (Below w.heap.size w w'))
 case atStart => exact ⟨(0), (by rfl), H', ⟨Nat.le_refl _⟩, ⟨bl HB⟩⟩
 clear H'
 try clear c1
 try clear p2
 try clear c3
 try clear c3b0
 try clear c3b1
 try clear c3b2
 obtain ⟨x5_1, rfl, HA, HK1, HB⟩ := hrel
 cases gk with
 | zero => exact absurd HA.out (by simp [laws_eqArcS.l0])
 | succ k1 =>
  have H := HA.out
  clear HA
  simp only [laws_eqArcS.l0] at H
  by_cases c4 : x5_1 < (l0.length : Int)
  rotate_left
  ·rw [if_neg c4] at H
   have c4b0 : decide (x5_1 < (l0.length : Int)) = false := decide_eq_false c4
   clear c4
   obtain rfl := Option.some.inj H
   go_wp2
   go_ret
   exact ⟨by rfl, bl HB⟩
  rw [if_pos c4] at H
  have c4b0 : decide (x5_1 < (l0.length : Int)) = true := decide_eq_true c4
  clear c4
  by_cases c5 : 0 ≤ x5_1
  rotate_left
  ·rw [if_neg c5] at H
   exact absurd H (by simp)
  rw [if_pos c5] at H
  have c5b0 : decide (0 ≤ x5_1) = true := decide_eq_true c5
  clear c5
  by_cases c6 : x5_1 < (l1.length : Int)
  rotate_left
  ·rw [if_neg c6] at H
   exact absurd H (by simp)
  rw [if_pos c6] at H
  have c6b0 : decide (x5_1 < (l1.length : Int)) = true := decide_eq_true c6
  clear c6
  replace H := Option.bind_eq_some_iff.mp H
  obtain ⟨t397, A70, H⟩ := H
  have A7 := ak A70
  clear A70
  by_cases c8 : t397 = true
  rotate_left
  ·replace c8 := Bool.eq_false_iff.mpr c8
   subst c8
   rw [if_neg (show ¬ (false = true) by decide)] at H
   obtain rfl := Option.some.inj H
   try go_wp2
   replace HB := ak (below_drew1 HB.out)
   have p395 : 0 ≤ (x5_1 : Int) := oT (by (with_reducible assumption))
   have q395 : x5_1 < (l0.length : Int) := oT (by (with_reducible assumption))
   obtain ⟨ad395, e395, hx395_0, hx395_1, hx395_2, hx395_3, hx395_4⟩ := at_T33 HR0.out x5_1 p395 q395
   have hw395_4 := hx395_4
   have hw395_3 := hx395_3
   have hw395_2 := hx395_2
   have hw395_1 := hx395_1
   have hw395_0 := hx395_0
   cases e395
   replace hx395_0 := hcb HB.out hx395_0
   replace hx395_1 := hcb HB.out hx395_1
   replace hx395_2 := hcb HB.out hx395_2
   replace hx395_3 := hcb HB.out hx395_3
   replace hx395_4 := hcb HB.out hx395_4
   replace p395 := eq_true p395
   replace q395 := eq_true q395
   have p396 : 0 ≤ (x5_1 : Int) := oT (by (with_reducible assumption))
   have q396 : x5_1 < (l1.length : Int) := oT (by (with_reducible assumption))
   obtain ⟨ad396, e396, hx396_0, hx396_1, hx396_2, hx396_3, hx396_4⟩ := at_T33 HR1.out x5_1 p396 q396
   have hw396_4 := hx396_4
   have hw396_3 := hx396_3
   have hw396_2 := hx396_2
   have hw396_1 := hx396_1
   have hw396_0 := hx396_0
   cases e396
   replace hx396_0 := hcb HB.out hx396_0
   replace hx396_1 := hcb HB.out hx396_1
   replace hx396_2 := hcb HB.out hx396_2
   replace hx396_3 := hcb HB.out hx396_3
   replace hx396_4 := hcb HB.out hx396_4
   replace p396 := eq_true p396
   replace q396 := eq_true q396
   refine start_ (n := 10) (S := fun w' => w'.cell? (ad395.add ((x5_1).toNat * 5)) = some (.int .i64 ((rd_T33 l0 x5_1).f0)) ∧ w'.cell? ⟨(ad395.add ((x5_1).toNat * 5)).block, (ad395.add ((x5_1).toNat * 5)).off + 1, none⟩ = some (.int .i64 ((rd_T33 l0 x5_1).f1)) ∧ w'.cell? ⟨(ad395.add ((x5_1).toNat * 5)).block, (ad395.add ((x5_1).toNat * 5)).off + 2, none⟩ = some (.int .i64 ((rd_T33 l0 x5_1).f2)) ∧ w'.cell? ⟨(ad395.add ((x5_1).toNat * 5)).block, (ad395.add ((x5_1).toNat * 5)).off + 3, none⟩ = some (.int .i64 ((rd_T33 l0 x5_1).f3)) ∧ w'.cell? ⟨(ad395.add ((x5_1).toNat * 5)).block, (ad395.add ((x5_1).toNat * 5)).off + 4, none⟩ = some (.int .i64 ((rd_T33 l0 x5_1).f4)) ∧ w'.cell? (ad396.add ((x5_1).toNat * 5)) = some (.int .i64 ((rd_T33 l1 x5_1).f0)) ∧ w'.cell? ⟨(ad396.add ((x5_1).toNat * 5)).block, (ad396.add ((x5_1).toNat * 5)).off + 1, none⟩ = some (.int .i64 ((rd_T33 l1 x5_1).f1)) ∧ w'.cell? ⟨(ad396.add ((x5_1).toNat * 5)).block, (ad396.add ((x5_1).toNat * 5)).off + 2, none⟩ = some (.int .i64 ((rd_T33 l1 x5_1).f2)) ∧ w'.cell? ⟨(ad396.add ((x5_1).toNat * 5)).block, (ad396.add ((x5_1).toNat * 5)).off + 3, none⟩ = some (.int .i64 ((rd_T33 l1 x5_1).f3)) ∧ w'.cell? ⟨(ad396.add ((x5_1).toNat * 5)).block, (ad396.add ((x5_1).toNat * 5)).off + 4, none⟩ = some (.int .i64 ((rd_T33 l1 x5_1).f4))) (ds := []) (ms 10 0) (by kernel_rfl) rfl (by kernel_rfl) ⟨((HB.out.cell (World.block_lt_of_cell? w _ hw395_0)).trans hw395_0), ((HB.out.cell (World.block_lt_of_cell? w _ hw395_1)).trans hw395_1), ((HB.out.cell (World.block_lt_of_cell? w _ hw395_2)).trans hw395_2), ((HB.out.cell (World.block_lt_of_cell? w _ hw395_3)).trans hw395_3), ((HB.out.cell (World.block_lt_of_cell? w _ hw395_4)).trans hw395_4), ((HB.out.cell (World.block_lt_of_cell? w _ hw396_0)).trans hw396_0), ((HB.out.cell (World.block_lt_of_cell? w _ hw396_1)).trans hw396_1), ((HB.out.cell (World.block_lt_of_cell? w _ hw396_2)).trans hw396_2), ((HB.out.cell (World.block_lt_of_cell? w _ hw396_3)).trans hw396_3), ((HB.out.cell (World.block_lt_of_cell? w _ hw396_4)).trans hw396_4)⟩ (fun hHeld => ?_); refine with_tabW laws_eqArcS.tab6 laws_eqArcS.bits6 (fun HT_ HW_ => ?_)
   generalize wr.drew = w11 at HB hx395_0 hx395_1 hx395_2 hx395_3 hx395_4 hx396_0 hx396_1 hx396_2 hx396_3 hx396_4 hHeld ⊢
   refine pu 0 17 ?_ (ms 10 1) rfl rfl HT_ (by kernel_rfl) (fun _ _ _ h => h) (by rfl) ?_ ?_ ?_ ?_
   rotate_left
   ·intro w'
    go_simp
    with_reducible rfl
   rotate_left
   ·simp only [SX]
    rfl
   refine pu 1 18 ?_ (ms 10 3) rfl rfl HT_ (by kernel_rfl) (fun _ _ _ h => h) (by rfl) ?_ ?_ ?_ ?_
   rotate_left
   ·intro w'
    go_simp
    with_reducible rfl
   rotate_left
   ·simp only [SX]
    rfl
   refine pu 2 19 ?_ (ms 10 7) rfl rfl HT_ (by kernel_rfl) (fun _ _ _ h => h) (by rfl) ?_ ?_ ?_ ?_
   rotate_left
   ·intro w'
    go_simp
    with_reducible rfl
   rotate_left
   ·simp only [SX]
    rfl
   refine pu 4 21 ?_ (ms 10 23) rfl rfl HT_ (by kernel_rfl) (fun _ _ _ h => h) (by rfl) ?_ ?_ ?_ ?_
   rotate_left
   ·intro w'
    go_simp
    with_reducible rfl
   rotate_left
   ·simp only [SX]
    rfl
   refine pu 5 22 ?_ (ms 10 55) rfl rfl HT_ (by kernel_rfl) (fun _ _ _ h => h) (by rfl) ?_ ?_ ?_ ?_
   rotate_left
   ·intro w'
    go_simp
    with_reducible rfl
   rotate_left
   ·simp only [SX]
    rfl
   refine pu 6 23 ?_ (ms 10 119) rfl rfl HT_ (by kernel_rfl) (fun _ _ _ h => h) (by rfl) ?_ ?_ ?_ ?_
   rotate_left
   ·intro w'
    go_simp
    with_reducible rfl
   rotate_left
   ·simp only [SX]
    rfl
   refine tk 3 20 ?_ (ms 10 127) rfl rfl HT_ HW_ (by kernel_rfl) (fun _ _ _ h => h) (by rfl) ?_ hHeld ?_ ?_ ?_
   rotate_left
   ·rintro w' ⟨s0, s1, s2, s3, s4, s5, s6, s7, s8, s9⟩
    go_simp
    with_reducible rfl
   rotate_left
   ·simp only [SX]
    rfl
   refine tk 7 24 ?_ (ms 10 255) rfl rfl HT_ HW_ (by kernel_rfl) (fun _ _ _ h => h) (by rfl) ?_ hHeld ?_ ?_ ?_
   rotate_left
   ·rintro w' ⟨s0, s1, s2, s3, s4, s5, s6, s7, s8, s9⟩
    go_simp
    with_reducible rfl
   rotate_left
   ·simp only [SX]
    rfl
   refine one_ (i := 8) (N := some 25) (ms 10 511) rfl rfl (one_of HT_.out (by kernel_rfl)) (by decide) (fun K hK => ?_)
   refine goes_ Try.func74 (by kernel_rfl) rfl #[.agg #[.int .i64 ((rd_T33 l0 x5_1).f0), .int .i64 ((rd_T33 l0 x5_1).f1), .int .i64 ((rd_T33 l0 x5_1).f2), .int .i64 ((rd_T33 l0 x5_1).f3), .int .i64 ((rd_T33 l0 x5_1).f4)], .agg #[.int .i64 ((rd_T33 l1 x5_1).f0), .int .i64 ((rd_T33 l1 x5_1).f1), .int .i64 ((rd_T33 l1 x5_1).f2), .int .i64 ((rd_T33 l1 x5_1).f3), .int .i64 ((rd_T33 l1 x5_1).f4)]] (by rfl) rfl rfl (by (try simp only [List.map_toArray, List.map_cons, List.map_nil]); rfl) ?_
   with_reducible refine (laws_eqArc.calls ((rd_T33 l0 x5_1).f0) ((rd_T33 l0 x5_1).f1) ((rd_T33 l0 x5_1).f2) ((rd_T33 l0 x5_1).f3) ((rd_T33 l0 x5_1).f4) ((rd_T33 l1 x5_1).f0) ((rd_T33 l1 x5_1).f1) ((rd_T33 l1 x5_1).f2) ((rd_T33 l1 x5_1).f3) ((rd_T33 l1 x5_1).f4) false _ A7.out).mono ?_
   rintro e w12 ⟨rfl, hb⟩
   refine ⟨_, rfl, ?_⟩
   replace HB := ak (below_step (bl HB) hb)
   (try clear hb)
   (try clear hb2)
   (try clear hk)
   (try clear hi)
   refine hK.out _ _ ⟨((HB.out.cell (World.block_lt_of_cell? w _ hw395_0)).trans hw395_0), ((HB.out.cell (World.block_lt_of_cell? w _ hw395_1)).trans hw395_1), ((HB.out.cell (World.block_lt_of_cell? w _ hw395_2)).trans hw395_2), ((HB.out.cell (World.block_lt_of_cell? w _ hw395_3)).trans hw395_3), ((HB.out.cell (World.block_lt_of_cell? w _ hw395_4)).trans hw395_4), ((HB.out.cell (World.block_lt_of_cell? w _ hw396_0)).trans hw396_0), ((HB.out.cell (World.block_lt_of_cell? w _ hw396_1)).trans hw396_1), ((HB.out.cell (World.block_lt_of_cell? w _ hw396_2)).trans hw396_2), ((HB.out.cell (World.block_lt_of_cell? w _ hw396_3)).trans hw396_3), ((HB.out.cell (World.block_lt_of_cell? w _ hw396_4)).trans hw396_4)⟩ (fun hHeld => ?_)
   clear hK K
   refine norm_ (a' := ?_) ?_ ?_
   rotate_left
   ·show Act.put _ (some 25) _ = _
    simp only [SX]
    rfl
   refine pu 9 26 ?_ (ms 10 1023) rfl rfl HT_ (by kernel_rfl) (fun _ _ _ h => h) (by rfl) ?_ ?_ ?_ ?_
   rotate_left
   ·intro w'
    go_simp
    with_reducible rfl
   rotate_left
   ·simp only [SX]
    rfl
   refine done_ (done_of HT_.out (by kernel_rfl)) ?_
   try go_wp2
   go_ret
   exact ⟨by rfl, bl HB⟩
  subst c8
  rw [if_pos rfl] at H
  have H' := ak H
  clear H
  try go_wp2
  replace HB := ak (below_drew1 HB.out)
  have p395 : 0 ≤ (x5_1 : Int) := oT (by (with_reducible assumption))
  have q395 : x5_1 < (l0.length : Int) := oT (by (with_reducible assumption))
  obtain ⟨ad395, e395, hx395_0, hx395_1, hx395_2, hx395_3, hx395_4⟩ := at_T33 HR0.out x5_1 p395 q395
  have hw395_4 := hx395_4
  have hw395_3 := hx395_3
  have hw395_2 := hx395_2
  have hw395_1 := hx395_1
  have hw395_0 := hx395_0
  cases e395
  replace hx395_0 := hcb HB.out hx395_0
  replace hx395_1 := hcb HB.out hx395_1
  replace hx395_2 := hcb HB.out hx395_2
  replace hx395_3 := hcb HB.out hx395_3
  replace hx395_4 := hcb HB.out hx395_4
  replace p395 := eq_true p395
  replace q395 := eq_true q395
  have p396 : 0 ≤ (x5_1 : Int) := oT (by (with_reducible assumption))
  have q396 : x5_1 < (l1.length : Int) := oT (by (with_reducible assumption))
  obtain ⟨ad396, e396, hx396_0, hx396_1, hx396_2, hx396_3, hx396_4⟩ := at_T33 HR1.out x5_1 p396 q396
  have hw396_4 := hx396_4
  have hw396_3 := hx396_3
  have hw396_2 := hx396_2
  have hw396_1 := hx396_1
  have hw396_0 := hx396_0
  cases e396
  replace hx396_0 := hcb HB.out hx396_0
  replace hx396_1 := hcb HB.out hx396_1
  replace hx396_2 := hcb HB.out hx396_2
  replace hx396_3 := hcb HB.out hx396_3
  replace hx396_4 := hcb HB.out hx396_4
  replace p396 := eq_true p396
  replace q396 := eq_true q396
  refine start_ (n := 10) (S := fun w' => w'.cell? (ad395.add ((x5_1).toNat * 5)) = some (.int .i64 ((rd_T33 l0 x5_1).f0)) ∧ w'.cell? ⟨(ad395.add ((x5_1).toNat * 5)).block, (ad395.add ((x5_1).toNat * 5)).off + 1, none⟩ = some (.int .i64 ((rd_T33 l0 x5_1).f1)) ∧ w'.cell? ⟨(ad395.add ((x5_1).toNat * 5)).block, (ad395.add ((x5_1).toNat * 5)).off + 2, none⟩ = some (.int .i64 ((rd_T33 l0 x5_1).f2)) ∧ w'.cell? ⟨(ad395.add ((x5_1).toNat * 5)).block, (ad395.add ((x5_1).toNat * 5)).off + 3, none⟩ = some (.int .i64 ((rd_T33 l0 x5_1).f3)) ∧ w'.cell? ⟨(ad395.add ((x5_1).toNat * 5)).block, (ad395.add ((x5_1).toNat * 5)).off + 4, none⟩ = some (.int .i64 ((rd_T33 l0 x5_1).f4)) ∧ w'.cell? (ad396.add ((x5_1).toNat * 5)) = some (.int .i64 ((rd_T33 l1 x5_1).f0)) ∧ w'.cell? ⟨(ad396.add ((x5_1).toNat * 5)).block, (ad396.add ((x5_1).toNat * 5)).off + 1, none⟩ = some (.int .i64 ((rd_T33 l1 x5_1).f1)) ∧ w'.cell? ⟨(ad396.add ((x5_1).toNat * 5)).block, (ad396.add ((x5_1).toNat * 5)).off + 2, none⟩ = some (.int .i64 ((rd_T33 l1 x5_1).f2)) ∧ w'.cell? ⟨(ad396.add ((x5_1).toNat * 5)).block, (ad396.add ((x5_1).toNat * 5)).off + 3, none⟩ = some (.int .i64 ((rd_T33 l1 x5_1).f3)) ∧ w'.cell? ⟨(ad396.add ((x5_1).toNat * 5)).block, (ad396.add ((x5_1).toNat * 5)).off + 4, none⟩ = some (.int .i64 ((rd_T33 l1 x5_1).f4))) (ds := []) (ms 10 0) (by kernel_rfl) rfl (by kernel_rfl) ⟨((HB.out.cell (World.block_lt_of_cell? w _ hw395_0)).trans hw395_0), ((HB.out.cell (World.block_lt_of_cell? w _ hw395_1)).trans hw395_1), ((HB.out.cell (World.block_lt_of_cell? w _ hw395_2)).trans hw395_2), ((HB.out.cell (World.block_lt_of_cell? w _ hw395_3)).trans hw395_3), ((HB.out.cell (World.block_lt_of_cell? w _ hw395_4)).trans hw395_4), ((HB.out.cell (World.block_lt_of_cell? w _ hw396_0)).trans hw396_0), ((HB.out.cell (World.block_lt_of_cell? w _ hw396_1)).trans hw396_1), ((HB.out.cell (World.block_lt_of_cell? w _ hw396_2)).trans hw396_2), ((HB.out.cell (World.block_lt_of_cell? w _ hw396_3)).trans hw396_3), ((HB.out.cell (World.block_lt_of_cell? w _ hw396_4)).trans hw396_4)⟩ (fun hHeld => ?_); refine with_tabW laws_eqArcS.tab6 laws_eqArcS.bits6 (fun HT_ HW_ => ?_)
  generalize wr.drew = w9 at HB hx395_0 hx395_1 hx395_2 hx395_3 hx395_4 hx396_0 hx396_1 hx396_2 hx396_3 hx396_4 hHeld ⊢
  refine pu 0 17 ?_ (ms 10 1) rfl rfl HT_ (by kernel_rfl) (fun _ _ _ h => h) (by rfl) ?_ ?_ ?_ ?_
  rotate_left
  ·intro w'
   go_simp
   with_reducible rfl
  rotate_left
  ·simp only [SX]
   rfl
  refine pu 1 18 ?_ (ms 10 3) rfl rfl HT_ (by kernel_rfl) (fun _ _ _ h => h) (by rfl) ?_ ?_ ?_ ?_
  rotate_left
  ·intro w'
   go_simp
   with_reducible rfl
  rotate_left
  ·simp only [SX]
   rfl
  refine pu 2 19 ?_ (ms 10 7) rfl rfl HT_ (by kernel_rfl) (fun _ _ _ h => h) (by rfl) ?_ ?_ ?_ ?_
  rotate_left
  ·intro w'
   go_simp
   with_reducible rfl
  rotate_left
  ·simp only [SX]
   rfl
  refine pu 4 21 ?_ (ms 10 23) rfl rfl HT_ (by kernel_rfl) (fun _ _ _ h => h) (by rfl) ?_ ?_ ?_ ?_
  rotate_left
  ·intro w'
   go_simp
   with_reducible rfl
  rotate_left
  ·simp only [SX]
   rfl
  refine pu 5 22 ?_ (ms 10 55) rfl rfl HT_ (by kernel_rfl) (fun _ _ _ h => h) (by rfl) ?_ ?_ ?_ ?_
  rotate_left
  ·intro w'
   go_simp
   with_reducible rfl
  rotate_left
  ·simp only [SX]
   rfl
  refine pu 6 23 ?_ (ms 10 119) rfl rfl HT_ (by kernel_rfl) (fun _ _ _ h => h) (by rfl) ?_ ?_ ?_ ?_
  rotate_left
  ·intro w'
   go_simp
   with_reducible rfl
  rotate_left
  ·simp only [SX]
   rfl
  refine tk 3 20 ?_ (ms 10 127) rfl rfl HT_ HW_ (by kernel_rfl) (fun _ _ _ h => h) (by rfl) ?_ hHeld ?_ ?_ ?_
  rotate_left
  ·rintro w' ⟨s0, s1, s2, s3, s4, s5, s6, s7, s8, s9⟩
   go_simp
   with_reducible rfl
  rotate_left
  ·simp only [SX]
   rfl
  refine tk 7 24 ?_ (ms 10 255) rfl rfl HT_ HW_ (by kernel_rfl) (fun _ _ _ h => h) (by rfl) ?_ hHeld ?_ ?_ ?_
  rotate_left
  ·rintro w' ⟨s0, s1, s2, s3, s4, s5, s6, s7, s8, s9⟩
   go_simp
   with_reducible rfl
  rotate_left
  ·simp only [SX]
   rfl
  refine one_ (i := 8) (N := some 25) (ms 10 511) rfl rfl (one_of HT_.out (by kernel_rfl)) (by decide) (fun K hK => ?_)
  refine goes_ Try.func74 (by kernel_rfl) rfl #[.agg #[.int .i64 ((rd_T33 l0 x5_1).f0), .int .i64 ((rd_T33 l0 x5_1).f1), .int .i64 ((rd_T33 l0 x5_1).f2), .int .i64 ((rd_T33 l0 x5_1).f3), .int .i64 ((rd_T33 l0 x5_1).f4)], .agg #[.int .i64 ((rd_T33 l1 x5_1).f0), .int .i64 ((rd_T33 l1 x5_1).f1), .int .i64 ((rd_T33 l1 x5_1).f2), .int .i64 ((rd_T33 l1 x5_1).f3), .int .i64 ((rd_T33 l1 x5_1).f4)]] (by rfl) rfl rfl (by (try simp only [List.map_toArray, List.map_cons, List.map_nil]); rfl) ?_
  with_reducible refine (laws_eqArc.calls ((rd_T33 l0 x5_1).f0) ((rd_T33 l0 x5_1).f1) ((rd_T33 l0 x5_1).f2) ((rd_T33 l0 x5_1).f3) ((rd_T33 l0 x5_1).f4) ((rd_T33 l1 x5_1).f0) ((rd_T33 l1 x5_1).f1) ((rd_T33 l1 x5_1).f2) ((rd_T33 l1 x5_1).f3) ((rd_T33 l1 x5_1).f4) true _ A7.out).mono ?_
  rintro e w10 ⟨rfl, hb⟩
  refine ⟨_, rfl, ?_⟩
  replace HB := ak (below_step (bl HB) hb)
  (try clear hb)
  (try clear hb2)
  (try clear hk)
  (try clear hi)
  refine hK.out _ _ ⟨((HB.out.cell (World.block_lt_of_cell? w _ hw395_0)).trans hw395_0), ((HB.out.cell (World.block_lt_of_cell? w _ hw395_1)).trans hw395_1), ((HB.out.cell (World.block_lt_of_cell? w _ hw395_2)).trans hw395_2), ((HB.out.cell (World.block_lt_of_cell? w _ hw395_3)).trans hw395_3), ((HB.out.cell (World.block_lt_of_cell? w _ hw395_4)).trans hw395_4), ((HB.out.cell (World.block_lt_of_cell? w _ hw396_0)).trans hw396_0), ((HB.out.cell (World.block_lt_of_cell? w _ hw396_1)).trans hw396_1), ((HB.out.cell (World.block_lt_of_cell? w _ hw396_2)).trans hw396_2), ((HB.out.cell (World.block_lt_of_cell? w _ hw396_3)).trans hw396_3), ((HB.out.cell (World.block_lt_of_cell? w _ hw396_4)).trans hw396_4)⟩ (fun hHeld => ?_)
  clear hK K
  refine norm_ (a' := ?_) ?_ ?_
  rotate_left
  ·show Act.put _ (some 25) _ = _
   simp only [SX]
   rfl
  refine pu 9 26 ?_ (ms 10 1023) rfl rfl HT_ (by kernel_rfl) (fun _ _ _ h => h) (by rfl) ?_ ?_ ?_ ?_
  rotate_left
  ·intro w'
   go_simp
   with_reducible rfl
  rotate_left
  ·simp only [SX]
   rfl
  refine done_ (done_of HT_.out (by kernel_rfl)) ?_
  try go_wp2
  go_roundg k1
  case measure => have := HK1.out; omega
  case rel => exact ⟨(wrap64 (x5_1 + 1)), (by rfl), H', ⟨by have := HK1.out; omega⟩, ⟨bl HB⟩⟩

/-! ### laws_eqNet: function 21 -/
def laws_eqNet.f (k : Nat) (a0_0 : Int) (l0_1 : List (S33)) (a1_0 : Int) (l1_1 : List (S33)) : Option (Bool) := if a0_0 = a1_0 then ((laws_eqArcS.f k l0_1 l1_1).bind fun t400 => (if t400 = true then (some true) else (some false))) else (some false)
theorem laws_eqNet.mono : ∀ a0 a1 a2 a3 k, LeO (laws_eqNet.f k a0 a1 a2 a3) (laws_eqNet.f (k + 1) a0 a1 a2 a3) := by
 intro a0 a1 a2 a3 k
 unfold laws_eqNet.f
 repeat' first | (with_reducible exact laws_eqArcS.mono _ _ _) | (with_reducible exact LeO.refl _) | (with_reducible refine LeO.ite ?_ ?_) | (with_reducible refine LeO.bind ?_ (fun _ => ?_))
set_option maxHeartbeats 8000000 in
set_option maxRecDepth 100000 in
theorem laws_eqNet.calls (k : Nat) (a0_0 : Int) (A0_1 : Option Addr) (c0_1 : Nat) (l0_1 : List (S33)) (a1_0 : Int) (A1_1 : Option Addr) (c1_1 : Nat) (l1_1 : List (S33)) (r : Bool) (w : World) (hr0_1 : Kd.C k33 w A0_1 l0_1.length l0_1) (hc0_1 : l0_1.length ≤ c0_1) (hr1_1 : Kd.C k33 w A1_1 l1_1.length l1_1) (hc1_1 : l1_1.length ≤ c1_1) (h : laws_eqNet.f k a0_0 l0_1 a1_0 l1_1 = some r) :
  Calls Try.prog 21 #[.agg #[.int .i64 a0_0, .slice A0_1 l0_1.length c0_1], .agg #[.int .i64 a1_0, .slice A1_1 l1_1.length c1_1]] w fun e w' => e = .returned (.bool r) ∧ Below w.heap.size w w' := by
 have hu25 := Try.underlying25
 have HR0_1 := ak hr0_1
 have HC0_1 := ak hc0_1
 clear hr0_1 hc0_1
 have HR1_1 := ak hr1_1
 have HC1_1 := ak hc1_1
 clear hr1_1 hc1_1
 have HB := ak (Below.refl w.heap.size w)
 have H : (if a0_0 = a1_0 then ((laws_eqArcS.f k l0_1 l1_1).bind fun t400 => (if t400 = true then (some true) else (some false))) else (some false)) = some r := h
 clear h
 by_cases c3 : a0_0 = a1_0
 rotate_left
 ·rw [if_neg c3] at H
  have c3b0 : (a0_0 == a1_0) = false := beq_eq_false_iff_ne.mpr c3
  have c3b1 : (a0_0 != a1_0) = true := bne_iff_ne.mpr c3
  obtain rfl := Option.some.inj H
  go_enter Try.func21, Try.ntmps21
  go_wp2_with (first | ((with_reducible refine gate_dst (N := 2) rfl ?_); refine box_event ?hg (N := 2) ?hd (cs := #[.int .i64 a0_0, .slice A0_1 l0_1.length c0_1]) (t := 25) ?hr ?_; (case hd => rfl); (case hg => rfl); (case hr => (go_simp; done)); intro gb398 hg w18 hbox hb; have BK398 := ak (hbox); have GW398 := ak ((by rw [hg]; exact (below_size (bl HB)) : w.heap.size ≤ gb398)); have GE398 := ak ((by rw [hg]; exact (below_size (bl HB)) : w.heap.size ≤ gb398)); replace HB := ak (below_step (bl HB) hb); clear hb hbox hg) | ((with_reducible refine gate_dst (N := 3) rfl ?_); refine box_event ?hg (N := 3) ?hd (cs := #[.int .i64 a1_0, .slice A1_1 l1_1.length c1_1]) (t := 25) ?hr ?_; (case hd => rfl); (case hg => rfl); (case hr => (go_simp; done)); intro gb399 hg w19 hbox hb; have BK399 := ak (hbox); have GW399 := ak ((by rw [hg]; exact (below_size (bl1 HB GE398)) : w.heap.size ≤ gb399)); have GE399 := ak ((by rw [hg]; exact (below_size (bl1 HB GE398)) : w.heap.size ≤ gb399)); replace HB := ak (below_step (bl1 HB GE398) hb); have NB398_399 := ak ((by rw [hg]; exact Nat.ne_of_lt (blk_lt (bk BK398)) : gb398 ≠ gb399)); have NB399_398 := ak ((by rw [hg]; exact Nat.ne_of_gt (blk_lt (bk BK398)) : gb399 ≠ gb398)); replace BK398 := ak (blk_below (bk BK398) hb); clear hb hbox hg; have hnb20 := NB398_399.out; have hnc20 := NB399_398.out; have hcz21_0 := bc w19 BK398 0 (.int .i64 a0_0) rfl; have hcz21_1 := bc w19 BK398 1 (.slice A0_1 l0_1.length c0_1) rfl; have hfz21_0 := fz BK398 0; have hfz21_1 := fz BK398 1; have hcz22_0 := bc w19 BK399 0 (.int .i64 a1_0) rfl; have hcz22_1 := bc w19 BK399 1 (.slice A1_1 l1_1.length c1_1) rfl; have hfz22_0 := fz BK399 0; have hfz22_1 := fz BK399 1))
  go_ret
  exact ⟨by rfl, bl2 HB GE398 GE399⟩
 rw [if_pos c3] at H
 have c3b0 : (a0_0 == a1_0) = true := beq_iff_eq.mpr c3
 have c3b1 : (a0_0 != a1_0) = false := bne_eq_false_iff_eq.mpr c3
 clear c3
 replace H := Option.bind_eq_some_iff.mp H
 obtain ⟨t400, A40, H⟩ := H
 have A4 := ak A40
 clear A40
 by_cases c5 : t400 = true
 ·subst c5
  rw [if_pos rfl] at H
  obtain rfl := Option.some.inj H
  go_enter Try.func21, Try.ntmps21
  go_wp2_with (first | ((with_reducible refine gate_dst (N := 2) rfl ?_); refine box_event ?hg (N := 2) ?hd (cs := #[.int .i64 a0_0, .slice A0_1 l0_1.length c0_1]) (t := 25) ?hr ?_; (case hd => rfl); (case hg => rfl); (case hr => (go_simp; done)); intro gb398 hg w6 hbox hb; have BK398 := ak (hbox); have GW398 := ak ((by rw [hg]; exact (below_size (bl HB)) : w.heap.size ≤ gb398)); have GE398 := ak ((by rw [hg]; exact (below_size (bl HB)) : w.heap.size ≤ gb398)); replace HB := ak (below_step (bl HB) hb); clear hb hbox hg) | ((with_reducible refine gate_dst (N := 3) rfl ?_); refine box_event ?hg (N := 3) ?hd (cs := #[.int .i64 a1_0, .slice A1_1 l1_1.length c1_1]) (t := 25) ?hr ?_; (case hd => rfl); (case hg => rfl); (case hr => (go_simp; done)); intro gb399 hg w7 hbox hb; have BK399 := ak (hbox); have GW399 := ak ((by rw [hg]; exact (below_size (bl1 HB GE398)) : w.heap.size ≤ gb399)); have GE399 := ak ((by rw [hg]; exact (below_size (bl1 HB GE398)) : w.heap.size ≤ gb399)); replace HB := ak (below_step (bl1 HB GE398) hb); have NB398_399 := ak ((by rw [hg]; exact Nat.ne_of_lt (blk_lt (bk BK398)) : gb398 ≠ gb399)); have NB399_398 := ak ((by rw [hg]; exact Nat.ne_of_gt (blk_lt (bk BK398)) : gb399 ≠ gb398)); replace BK398 := ak (blk_below (bk BK398) hb); clear hb hbox hg; have hnb8 := NB398_399.out; have hnc8 := NB399_398.out; have hcz9_0 := bc w7 BK398 0 (.int .i64 a0_0) rfl; have hcz9_1 := bc w7 BK398 1 (.slice A0_1 l0_1.length c0_1) rfl; have hfz9_0 := fz BK398 0; have hfz9_1 := fz BK398 1; have hcz10_0 := bc w7 BK399 0 (.int .i64 a1_0) rfl; have hcz10_1 := bc w7 BK399 1 (.slice A1_1 l1_1.length c1_1) rfl; have hfz10_0 := fz BK399 0; have hfz10_1 := fz BK399 1) | ((with_reducible refine gate_callee (f := 51) rfl ?_); refine goesL_ (some 14) rfl rfl Try.func51 (by kernel_rfl) rfl #[.slice A0_1 l0_1.length c0_1, .slice A1_1 l1_1.length c1_1] rfl (by (try simp only [List.map_toArray, List.map_cons, List.map_nil]); rfl) ?_; (with_reducible refine (laws_eqArcS.calls k _ _ l0_1 _ _ l1_1 true _ ?side1 ?side2 ?side3 ?side4 A4.out).mono ?_); (case side1 => repeat (exact (Kd.C_below HR0_1.out HB.out))); (case side2 => exact HC0_1.out); (case side3 => repeat (exact (Kd.C_below HR1_1.out HB.out))); (case side4 => exact HC1_1.out); rintro e w11 ⟨rfl, hb⟩; refine ⟨_, rfl, ?_⟩; replace BK398 := ak (blk_below (bk BK398) hb); replace BK399 := ak (blk_below (bk BK399) hb); replace HB := ak (below_step (bl2 HB GE398 GE399) hb); (try clear hb); (try clear hb2); (try clear hk); (try clear hi)))
  go_ret
  exact ⟨by rfl, bl2 HB GE398 GE399⟩
 replace c5 := Bool.eq_false_iff.mpr c5
 subst c5
 rw [if_neg (show ¬ (false = true) by decide)] at H
 obtain rfl := Option.some.inj H
 go_enter Try.func21, Try.ntmps21
 go_wp2_with (first | ((with_reducible refine gate_dst (N := 2) rfl ?_); refine box_event ?hg (N := 2) ?hd (cs := #[.int .i64 a0_0, .slice A0_1 l0_1.length c0_1]) (t := 25) ?hr ?_; (case hd => rfl); (case hg => rfl); (case hr => (go_simp; done)); intro gb398 hg w12 hbox hb; have BK398 := ak (hbox); have GW398 := ak ((by rw [hg]; exact (below_size (bl HB)) : w.heap.size ≤ gb398)); have GE398 := ak ((by rw [hg]; exact (below_size (bl HB)) : w.heap.size ≤ gb398)); replace HB := ak (below_step (bl HB) hb); clear hb hbox hg) | ((with_reducible refine gate_dst (N := 3) rfl ?_); refine box_event ?hg (N := 3) ?hd (cs := #[.int .i64 a1_0, .slice A1_1 l1_1.length c1_1]) (t := 25) ?hr ?_; (case hd => rfl); (case hg => rfl); (case hr => (go_simp; done)); intro gb399 hg w13 hbox hb; have BK399 := ak (hbox); have GW399 := ak ((by rw [hg]; exact (below_size (bl1 HB GE398)) : w.heap.size ≤ gb399)); have GE399 := ak ((by rw [hg]; exact (below_size (bl1 HB GE398)) : w.heap.size ≤ gb399)); replace HB := ak (below_step (bl1 HB GE398) hb); have NB398_399 := ak ((by rw [hg]; exact Nat.ne_of_lt (blk_lt (bk BK398)) : gb398 ≠ gb399)); have NB399_398 := ak ((by rw [hg]; exact Nat.ne_of_gt (blk_lt (bk BK398)) : gb399 ≠ gb398)); replace BK398 := ak (blk_below (bk BK398) hb); clear hb hbox hg; have hnb14 := NB398_399.out; have hnc14 := NB399_398.out; have hcz15_0 := bc w13 BK398 0 (.int .i64 a0_0) rfl; have hcz15_1 := bc w13 BK398 1 (.slice A0_1 l0_1.length c0_1) rfl; have hfz15_0 := fz BK398 0; have hfz15_1 := fz BK398 1; have hcz16_0 := bc w13 BK399 0 (.int .i64 a1_0) rfl; have hcz16_1 := bc w13 BK399 1 (.slice A1_1 l1_1.length c1_1) rfl; have hfz16_0 := fz BK399 0; have hfz16_1 := fz BK399 1) | ((with_reducible refine gate_callee (f := 51) rfl ?_); refine goesL_ (some 14) rfl rfl Try.func51 (by kernel_rfl) rfl #[.slice A0_1 l0_1.length c0_1, .slice A1_1 l1_1.length c1_1] rfl (by (try simp only [List.map_toArray, List.map_cons, List.map_nil]); rfl) ?_; (with_reducible refine (laws_eqArcS.calls k _ _ l0_1 _ _ l1_1 false _ ?side1 ?side2 ?side3 ?side4 A4.out).mono ?_); (case side1 => repeat (exact (Kd.C_below HR0_1.out HB.out))); (case side2 => exact HC0_1.out); (case side3 => repeat (exact (Kd.C_below HR1_1.out HB.out))); (case side4 => exact HC1_1.out); rintro e w17 ⟨rfl, hb⟩; refine ⟨_, rfl, ?_⟩; replace BK398 := ak (blk_below (bk BK398) hb); replace BK399 := ak (blk_below (bk BK399) hb); replace HB := ak (below_step (bl2 HB GE398 GE399) hb); (try clear hb); (try clear hb2); (try clear hk); (try clear hi)))
 go_ret
 exact ⟨by rfl, bl2 HB GE398 GE399⟩

end Go.Proofs.Ytddkaiegnohkcaa.F
