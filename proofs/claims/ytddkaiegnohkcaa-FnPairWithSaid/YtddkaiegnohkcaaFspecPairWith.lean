-- Printed by wip/px/px.py of this claim's repository (the kit's printer, extended there). Lean checks it.
import Derived.Test.YtddkaiegnohkcaaFKinds
import Derived.Test.YtddkaiegnohkcaaFspecl1In
import Derived.Test.YtddkaiegnohkcaaFspecl1Ok
import Derived.Test.YtddkaiegnohkcaaFspecl19All
namespace Go.Proofs.Ytddkaiegnohkcaa.F
open Go.RowKit Go.Proofs.YtddkaiegnohkcaaW.PrintWords Go.Proofs.YtddkaiegnohkcaaW.PrintLast Go.Proofs.YtddkaiegnohkcaaW.PrintMore
attribute [local go_sem] max2_int min2_int max_two min_two max_three min_three max_four min_four   -- for this text's walks alone
set_option linter.unusedVariables false
set_option linter.unusedSimpArgs false

/-! ### spec_PairWith: function 18 -/
mutual
def spec_PairWith.j0 : Nat → Int → Int → Int → Int → Bool → Int → List (S33) → Option (Int)
 | 0, _, _, _, _, _, _, _ => none
 | k + 1, x1, x2, x3, x9, x30, x382000, x382001 => if x30 = true then (some (-1)) else ((spec_l19All.f k x382000 x382001 x1).bind fun t385 => (if 0 ≤ x2 then (if x2 < (t385.length : Int) then (spec_PairWith.l0 k x3 x9 (rd_L5 t385 x2) 0) else (none)) else (none)))
def spec_PairWith.l0 : Nat → Int → Int → List (S35) → Int → Option (Int)
 | 0, _, _, _, _ => none
 | k + 1, x3, x9, x10, x11 => if x11 < (x10.length : Int) then (if 0 ≤ x11 then (if ((rd_T35 x10 x11).f1) ≤ x3 then (if ((rd_T35 x10 x11).f0) < x9 then (spec_PairWith.l0 k x3 ((rd_T35 x10 x11).f0) x10 (wrap64 (x11 + 1))) else (spec_PairWith.l0 k x3 x9 x10 (wrap64 (x11 + 1)))) else (spec_PairWith.l0 k x3 x9 x10 (wrap64 (x11 + 1)))) else (none)) else (some x9)
end
def spec_PairWith.f (k : Nat) (a0_0 : Int) (l0_1 : List (S33)) (a1 : Int) (a2 : Int) (a3 : Int) : Option (Int) := (spec_l1Ok.f k a0_0 l0_1).bind fun t382 => (if t382 = true then ((spec_l1In.f a1 0 (wrap64 (a0_0 - 1))).bind fun t383 => (if t383 = true then ((spec_l1In.f a2 0 (wrap64 (a0_0 - 1))).bind fun t384 => (spec_PairWith.j0 k a1 a2 a3 99999 (!t384) a0_0 l0_1)) else (spec_PairWith.j0 k a1 a2 a3 99999 true a0_0 l0_1))) else (spec_PairWith.j0 k a1 a2 a3 99999 true a0_0 l0_1))
theorem spec_PairWith.mono_l : ∀ k, (∀ y0 y1 y2 y3 y4 y5 y6, LeO (spec_PairWith.j0 k y0 y1 y2 y3 y4 y5 y6) (spec_PairWith.j0 (k + 1) y0 y1 y2 y3 y4 y5 y6)) ∧ (∀ y0 y1 y2 y3, LeO (spec_PairWith.l0 k y0 y1 y2 y3) (spec_PairWith.l0 (k + 1) y0 y1 y2 y3))
 | 0 => ⟨fun _ _ _ _ _ _ _ r h => by simp [spec_PairWith.j0] at h, fun _ _ _ _ r h => by simp [spec_PairWith.l0] at h⟩
 | k + 1 => by
  obtain ⟨ih0, ih1⟩ := spec_PairWith.mono_l k
  refine ⟨?_, ?_⟩
  ·intro y0 y1 y2 y3 y4 y5 y6
   unfold spec_PairWith.j0
   repeat' first | (with_reducible exact ih1 _ _ _ _) | (with_reducible exact spec_l19All.mono _ _ _ _) | (with_reducible exact LeO.refl _) | (with_reducible refine LeO.ite ?_ ?_) | (with_reducible refine LeO.bind ?_ (fun _ => ?_))
  ·intro y0 y1 y2 y3
   unfold spec_PairWith.l0
   repeat' first | (with_reducible exact ih1 _ _ _ _) | (with_reducible exact LeO.refl _) | (with_reducible refine LeO.ite ?_ ?_)
theorem spec_PairWith.mono : ∀ a0 a1 a2 a3 a4 k, LeO (spec_PairWith.f k a0 a1 a2 a3 a4) (spec_PairWith.f (k + 1) a0 a1 a2 a3 a4) := by
 intro a0 a1 a2 a3 a4 k
 obtain ⟨ih0, ih1⟩ := spec_PairWith.mono_l k
 unfold spec_PairWith.f
 repeat' first | (with_reducible exact ih0 _ _ _ _ _ _ _) | (with_reducible exact spec_l1Ok.mono _ _ _) | (with_reducible exact LeO.refl _) | (with_reducible refine LeO.ite ?_ ?_) | (with_reducible refine LeO.bind ?_ (fun _ => ?_))
set_option maxHeartbeats 8000000 in
set_option maxRecDepth 100000 in
theorem spec_PairWith.calls (k : Nat) (a0_0 : Int) (A0_1 : Option Addr) (c0_1 : Nat) (l0_1 : List (S33)) (a1 : Int) (a2 : Int) (a3 : Int) (r : Int) (w : World) (hr0_1 : Kd.C k33 w A0_1 l0_1.length l0_1) (hc0_1 : l0_1.length ≤ c0_1) (h : spec_PairWith.f k a0_0 l0_1 a1 a2 a3 = some r) :
  Calls Try.prog 18 #[.agg #[.int .i64 a0_0, .slice A0_1 l0_1.length c0_1], .int .i64 a1, .int .i64 a2, .int .i64 a3] w fun e w' => e = .returned (.int .i64 r) ∧ Below w.heap.size w w' := by
 have hu25 := Try.underlying25
 have HR0_1 := ak hr0_1
 have HC0_1 := ak hc0_1
 clear hr0_1 hc0_1
 have HB := ak (Below.refl w.heap.size w)
 have H : ((spec_l1Ok.f k a0_0 l0_1).bind fun t382 => (if t382 = true then ((spec_l1In.f a1 0 (wrap64 (a0_0 - 1))).bind fun t383 => (if t383 = true then ((spec_l1In.f a2 0 (wrap64 (a0_0 - 1))).bind fun t384 => (spec_PairWith.j0 k a1 a2 a3 99999 (!t384) a0_0 l0_1)) else (spec_PairWith.j0 k a1 a2 a3 99999 true a0_0 l0_1))) else (spec_PairWith.j0 k a1 a2 a3 99999 true a0_0 l0_1))) = some r := h
 clear h
 have HC5 := ak H
 clear H
 go_enter Try.func18, Try.ntmps18
 go_upto_region 2 with (((with_reducible refine gate_dst (N := 4) rfl ?_); refine box_event ?hg (N := 4) ?hd (cs := #[.int .i64 a0_0, .slice A0_1 l0_1.length c0_1]) (t := 25) ?hr ?_; (case hd => rfl); (case hg => rfl); (case hr => (go_simp; done)); intro gb381 hg w6 hbox hb; have BK381 := ak (hbox); have GW381 := ak ((by rw [hg]; exact (below_size (bl HB)) : w.heap.size ≤ gb381)); have GE381 := ak ((by rw [hg]; exact (below_size (bl HB)) : w.heap.size ≤ gb381)); replace HB := ak (below_step (bl HB) hb); clear hb hbox hg))
 (try simp only [Act.put, List.setIfInBounds_toArray, List.set_cons_zero, List.set_cons_succ])
 go_cut [30] (fun v30 wc => ∃ (kq : Nat) (x30_4 : Bool), v30 = .bool x30_4 ∧ Aside0 (spec_PairWith.j0 kq a1 a2 a3 99999 x30_4 a0_0 l0_1 = some r) ∧ Aside0 (kq ≤ k) ∧ Aside0 (wc.heap[gb381]? = some (.cells #[.int .i64 a0_0, (.slice A0_1 l0_1.length c0_1)] 25 (0, 0))) ∧ Aside0 (Below w.heap.size w wc))
 case first =>
  have H := HC5.out
  clear HC5
  replace H := Option.bind_eq_some_iff.mp H
  obtain ⟨t382, A70, H⟩ := H
  have A7 := ak A70
  clear A70
  by_cases c8 : t382 = true
  rotate_left
  ·replace c8 := Bool.eq_false_iff.mpr c8
   subst c8
   rw [if_neg (show ¬ (false = true) by decide)] at H
   have H' := ak H
   clear H
   have hcz18_0 := bc w6 BK381 0 (.int .i64 a0_0) rfl
   have hcz18_1 := bc w6 BK381 1 (.slice A0_1 l0_1.length c0_1) rfl
   have hfz18_0 := fz BK381 0
   have hfz18_1 := fz BK381 1
   go_wp2_with (((with_reducible refine gate_callee (f := 42) rfl ?_); refine goesL_ (some 13) rfl rfl Try.func42 (by kernel_rfl) rfl #[.agg #[.int .i64 a0_0, .slice A0_1 l0_1.length c0_1]] rfl (by (try simp only [List.map_toArray, List.map_cons, List.map_nil]); rfl) ?_; (with_reducible refine (spec_l1Ok.calls k a0_0 _ _ l0_1 false _ ?side1 ?side2 A7.out).mono ?_); (case side1 => repeat (exact (Kd.C_below HR0_1.out HB.out))); (case side2 => exact HC0_1.out); rintro e w19 ⟨rfl, hb⟩; refine ⟨_, rfl, ?_⟩; replace BK381 := ak (blk_below (bk BK381) hb); replace HB := ak (below_step (bl1 HB GE381) hb); (try clear hb); (try clear hb2); (try clear hk); (try clear hi)))
   go_meet
   case rel => exact ⟨_, (true), (by rfl), H', ⟨by omega⟩, ⟨bk BK381⟩, ⟨bl1 HB GE381⟩⟩
  subst c8
  rw [if_pos rfl] at H
  replace H := Option.bind_eq_some_iff.mp H
  obtain ⟨t383, A90, H⟩ := H
  have A9 := ak A90
  clear A90
  by_cases c10 : t383 = true
  rotate_left
  ·replace c10 := Bool.eq_false_iff.mpr c10
   subst c10
   rw [if_neg (show ¬ (false = true) by decide)] at H
   have H' := ak H
   clear H
   have hcz15_0 := bc w6 BK381 0 (.int .i64 a0_0) rfl
   have hcz15_1 := bc w6 BK381 1 (.slice A0_1 l0_1.length c0_1) rfl
   have hfz15_0 := fz BK381 0
   have hfz15_1 := fz BK381 1
   go_wp2_with (first | ((with_reducible refine gate_callee (f := 42) rfl ?_); refine goesL_ (some 13) rfl rfl Try.func42 (by kernel_rfl) rfl #[.agg #[.int .i64 a0_0, .slice A0_1 l0_1.length c0_1]] rfl (by (try simp only [List.map_toArray, List.map_cons, List.map_nil]); rfl) ?_; (with_reducible refine (spec_l1Ok.calls k a0_0 _ _ l0_1 true _ ?side1 ?side2 A7.out).mono ?_); (case side1 => repeat (exact (Kd.C_below HR0_1.out HB.out))); (case side2 => exact HC0_1.out); rintro e w16 ⟨rfl, hb⟩; refine ⟨_, rfl, ?_⟩; replace BK381 := ak (blk_below (bk BK381) hb); replace HB := ak (below_step (bl1 HB GE381) hb); (try clear hb); (try clear hb2); (try clear hk); (try clear hi); have hcz17_0 := bc w16 BK381 0 (.int .i64 a0_0) rfl; have hcz17_1 := bc w16 BK381 1 (.slice A0_1 l0_1.length c0_1) rfl; have hfz17_0 := fz BK381 0; have hfz17_1 := fz BK381 1) | (go_at_call 48; (with_reducible refine (spec_l1In.calls a1 0 (wrap64 (a0_0 - 1)) false _ A9.out).mono ?_); rintro e w' ⟨rfl, ⟨nd, rfl⟩⟩))
   go_meet
   case rel => exact ⟨_, (true), (by rfl), H', ⟨by omega⟩, ⟨bk BK381⟩, ⟨bl1 HB GE381⟩⟩
  subst c10
  rw [if_pos rfl] at H
  replace H := Option.bind_eq_some_iff.mp H
  obtain ⟨t384, A110, H⟩ := H
  have A11 := ak A110
  clear A110
  have H' := ak H
  clear H
  have hcz12_0 := bc w6 BK381 0 (.int .i64 a0_0) rfl
  have hcz12_1 := bc w6 BK381 1 (.slice A0_1 l0_1.length c0_1) rfl
  have hfz12_0 := fz BK381 0
  have hfz12_1 := fz BK381 1
  go_wp2_with (first | ((with_reducible refine gate_callee (f := 42) rfl ?_); refine goesL_ (some 13) rfl rfl Try.func42 (by kernel_rfl) rfl #[.agg #[.int .i64 a0_0, .slice A0_1 l0_1.length c0_1]] rfl (by (try simp only [List.map_toArray, List.map_cons, List.map_nil]); rfl) ?_; (with_reducible refine (spec_l1Ok.calls k a0_0 _ _ l0_1 true _ ?side1 ?side2 A7.out).mono ?_); (case side1 => repeat (exact (Kd.C_below HR0_1.out HB.out))); (case side2 => exact HC0_1.out); rintro e w13 ⟨rfl, hb⟩; refine ⟨_, rfl, ?_⟩; replace BK381 := ak (blk_below (bk BK381) hb); replace HB := ak (below_step (bl1 HB GE381) hb); (try clear hb); (try clear hb2); (try clear hk); (try clear hi); have hcz14_0 := bc w13 BK381 0 (.int .i64 a0_0) rfl; have hcz14_1 := bc w13 BK381 1 (.slice A0_1 l0_1.length c0_1) rfl; have hfz14_0 := fz BK381 0; have hfz14_1 := fz BK381 1) | (go_at_call 48; (with_reducible refine (spec_l1In.calls a1 0 (wrap64 (a0_0 - 1)) true _ A9.out).mono ?_); rintro e w' ⟨rfl, ⟨nd, rfl⟩⟩) | (go_at_call 48; (with_reducible refine (spec_l1In.calls a2 0 (wrap64 (a0_0 - 1)) t384 _ A11.out).mono ?_); rintro e w' ⟨rfl, ⟨nd, rfl⟩⟩))
  go_meet
  case rel => exact ⟨_, (!t384), (by rfl), H', ⟨by omega⟩, ⟨bk BK381⟩, ⟨bl1 HB GE381⟩⟩
 clear HC5
 try clear c1
 try clear p2
 try clear c4
 try clear p6
 try clear c8
 try clear c10
 try clear c18
 try clear hcz12_0
 try clear hcz12_1
 try clear hcz14_0
 try clear hcz14_1
 try clear hcz15_0
 try clear hcz15_1
 try clear hcz17_0
 try clear hcz17_1
 try clear hcz18_0
 try clear hcz18_1
 try clear hfz12_0
 try clear hfz12_1
 try clear hfz14_0
 try clear hfz14_1
 try clear hfz15_0
 try clear hfz15_1
 try clear hfz17_0
 try clear hfz17_1
 try clear hfz18_0
 try clear hfz18_1
 obtain ⟨kq, x30_4, rfl, HA, HJ4, BK381, HB⟩ := hcut
 cases kq with
 | zero => exact absurd HA.out (by simp [spec_PairWith.j0])
 | succ kj4 =>
  have H := HA.out
  clear HA
  simp only [spec_PairWith.j0] at H
  by_cases c20 : x30_4 = true
  ·subst c20
   rw [if_pos rfl] at H
   obtain rfl := Option.some.inj H
   go_wp2
   go_ret
   exact ⟨by rfl, bl1 HB GE381⟩
  replace c20 := Bool.eq_false_iff.mpr c20
  subst c20
  rw [if_neg (show ¬ (false = true) by decide)] at H
  replace H := Option.bind_eq_some_iff.mp H
  obtain ⟨t385, A210, H⟩ := H
  have A21 := ak A210
  clear A210
  by_cases c22 : 0 ≤ a2
  rotate_left
  ·rw [if_neg c22] at H
   exact absurd H (by simp)
  rw [if_pos c22] at H
  have c22b0 : decide (0 ≤ a2) = true := decide_eq_true c22
  clear c22
  by_cases c23 : a2 < (t385.length : Int)
  rotate_left
  ·rw [if_neg c23] at H
   exact absurd H (by simp)
  rw [if_pos c23] at H
  have c23b0 : decide (a2 < (t385.length : Int)) = true := decide_eq_true c23
  clear c23
  have H' := ak H
  clear H
  have hcz24_0 := bc wc BK381 0 (.int .i64 a0_0) rfl
  have hcz24_1 := bc wc BK381 1 (.slice A0_1 l0_1.length c0_1) rfl
  have hfz24_0 := fz BK381 0
  have hfz24_1 := fz BK381 1
  go_wp2_with (((with_reducible refine gate_callee (f := 49) rfl ?_); refine goesL_ (some 33) rfl rfl Try.func49 (by kernel_rfl) rfl #[.agg #[.int .i64 a0_0, .slice A0_1 l0_1.length c0_1], .int .i64 a1] rfl (by (try simp only [List.map_toArray, List.map_cons, List.map_nil]); rfl) ?_; (with_reducible refine (spec_l19All.calls kj4 a0_0 _ _ l0_1 a1 t385 _ ?side1 ?side2 A21.out).mono ?_); (case side1 => repeat (exact (Kd.C_below HR0_1.out HB.out))); (case side2 => exact HC0_1.out); rintro e w25 ⟨v386, rfl, ho0, hb⟩; refine ⟨_, rfl, ?_⟩; have HO387 := ak (Kd.N_lower (Kd.N_mono (ok' := fun k_ => k_ ≠ gb381) ho0 (fun k_ hk_ => (Kd.freshB (bk BK381) k_ hk_))) (below_size (bl1 HB GE381))); replace BK381 := ak (blk_below (bk BK381) hb); replace HB := ak (below_step (bl1 HB GE381) hb); (try clear hb); (try clear hb2); (try clear hk); (try clear hi); (try clear ho0); obtain ⟨Ao26, co26, eo26⟩ := Kd.N_slice HO387.out; subst eo26; have p388 : 0 ≤ (a2 : Int) := oT (by (with_reducible assumption)); have q388 : a2 < (t385.length : Int) := oT (by (with_reducible assumption)); obtain ⟨ad388, A388_0, c388_0, e388, hx388_0, hl388_0, hi388_0⟩ := at_L5 (Kd.N_reads' HO387.out).2.2 a2 p388 q388; cases e388; obtain ⟨ce388, hce388, hMe388, hcc388⟩ := Kd.N_get HO387.out [] a2 p388 (by exact q388); obtain ⟨ua388_0, uc388_0, rfl, ul388_0, ge388_0⟩ := Kd.FK_slice_open hMe388; have hv388_0 := hcc388 0 _ rfl; rw [Nat.add_zero, show ((Kd.slice 35 k35)).sz = 1 from rfl, Nat.mul_one] at hv388_0; replace hv388_0 := Option.some.inj (hv388_0.symm.trans hx388_0); injection hv388_0 with hva_ hvn_ hvc_; rw [hva_] at ge388_0; rw [hvc_] at ul388_0; have HL388_0 := ak (show Kd.V k35 35 _ w.heap.size _ _ (rd_L5 t385 a2) from Kd.V_mk ul388_0 ge388_0); clear hva_ hvn_ hvc_ ge388_0 ul388_0; clear hcc388 hce388; have HR388_0 := ak hi388_0; have HC388_0 := ak hl388_0; clear hi388_0 hl388_0; replace p388 := eq_true p388; replace q388 := eq_true q388))
  go_loopg [9, 11] kj4 (fun kq v9 v11 w' => ∃ (x9_2 : Int) (x11_2 : Int), v9 = .int .i64 x9_2 ∧ v11 = .int .i64 x11_2 ∧ Aside0 (spec_PairWith.l0 kq a3 x9_2 (rd_L5 t385 a2) x11_2 = some r) ∧ Aside0 (kq ≤ kj4) ∧ Aside0 (w'.heap[gb381]? = some (.cells #[.int .i64 a0_0, (.slice A0_1 l0_1.length c0_1)] 25 (0, 0))) ∧ Aside0 (Kd.C k35 w' A388_0 (rd_L5 t385 a2).length (rd_L5 t385 a2)) ∧ Aside0 (Below w.heap.size w w'))
  case atStart => exact ⟨(99999), (0), (by rfl), (by rfl), H', ⟨Nat.le_refl _⟩, ⟨bk BK381⟩, ⟨by repeat ((with_reducible exact HR388_0.out))⟩, ⟨bl1 HB GE381⟩⟩
  clear H'
  try clear c1
  try clear c2
  try clear p2
  try clear c3
  try clear p3
  try clear q3
  try clear hx3
  try clear c4
  try clear p6
  try clear c8
  try clear c10
  try clear c18
  try clear c20
  try clear c22
  try clear c22b0
  try clear c23
  try clear c23b0
  try clear hcz12_0
  try clear hcz12_1
  try clear hcz14_0
  try clear hcz14_1
  try clear hcz15_0
  try clear hcz15_1
  try clear hcz17_0
  try clear hcz17_1
  try clear hcz18_0
  try clear hcz18_1
  try clear hcz24_0
  try clear hcz24_1
  try clear hfz12_0
  try clear hfz12_1
  try clear hfz14_0
  try clear hfz14_1
  try clear hfz15_0
  try clear hfz15_1
  try clear hfz17_0
  try clear hfz17_1
  try clear hfz18_0
  try clear hfz18_1
  try clear hfz24_0
  try clear hfz24_1
  try clear hx388_0
  try clear p2
  try clear p388
  try clear p6
  try clear q388
  obtain ⟨x9_2, x11_2, rfl, rfl, HA, HK2, BK381, HR388_0, HB⟩ := hrel
  cases gk with
  | zero => exact absurd HA.out (by simp [spec_PairWith.l0])
  | succ k2 =>
   have H := HA.out
   clear HA
   simp only [spec_PairWith.l0] at H
   by_cases c27 : x11_2 < ((rd_L5 t385 a2).length : Int)
   rotate_left
   ·rw [if_neg c27] at H
    have c27b0 : decide (x11_2 < ((rd_L5 t385 a2).length : Int)) = false := decide_eq_false c27
    clear c27
    obtain rfl := Option.some.inj H
    go_wp2
    go_ret
    exact ⟨by rfl, bl1 HB GE381⟩
   rw [if_pos c27] at H
   have c27b0 : decide (x11_2 < ((rd_L5 t385 a2).length : Int)) = true := decide_eq_true c27
   clear c27
   by_cases c28 : 0 ≤ x11_2
   rotate_left
   ·rw [if_neg c28] at H
    exact absurd H (by simp)
   rw [if_pos c28] at H
   have c28b0 : decide (0 ≤ x11_2) = true := decide_eq_true c28
   clear c28
   by_cases c29 : ((rd_T35 (rd_L5 t385 a2) x11_2).f1) ≤ a3
   rotate_left
   ·rw [if_neg c29] at H
    have c29b0 : decide (((rd_T35 (rd_L5 t385 a2) x11_2).f1) ≤ a3) = false := decide_eq_false c29
    clear c29
    have H' := ak H
    clear H
    have p389 : 0 ≤ (x11_2 : Int) := oT (by (with_reducible assumption))
    have q389 : x11_2 < ((rd_L5 t385 a2).length : Int) := oT (by (with_reducible assumption))
    obtain ⟨ad389, e389, hx389_0, hx389_1⟩ := at_T35 HR388_0.out x11_2 p389 q389
    cases e389
    (try replace hx389_0 := hcb HB.out hx389_0)
    (try replace hx389_1 := hcb HB.out hx389_1)
    replace p389 := eq_true p389
    replace q389 := eq_true q389
    go_wp2
    go_roundg k2
    case measure => have := HJ4.out; have := HK2.out; omega
    case rel => exact ⟨(x9_2), (wrap64 (x11_2 + 1)), (by rfl), (by rfl), H', ⟨by have := HJ4.out; have := HK2.out; omega⟩, ⟨bk BK381⟩, ⟨by repeat ((with_reducible exact HR388_0.out))⟩, ⟨bl1 HB GE381⟩⟩
   rw [if_pos c29] at H
   have c29b0 : decide (((rd_T35 (rd_L5 t385 a2) x11_2).f1) ≤ a3) = true := decide_eq_true c29
   clear c29
   by_cases c30 : ((rd_T35 (rd_L5 t385 a2) x11_2).f0) < x9_2
   rotate_left
   ·rw [if_neg c30] at H
    have c30b0 : decide (((rd_T35 (rd_L5 t385 a2) x11_2).f0) < x9_2) = false := decide_eq_false c30
    clear c30
    have H' := ak H
    clear H
    have p389 : 0 ≤ (x11_2 : Int) := oT (by (with_reducible assumption))
    have q389 : x11_2 < ((rd_L5 t385 a2).length : Int) := oT (by (with_reducible assumption))
    obtain ⟨ad389, e389, hx389_0, hx389_1⟩ := at_T35 HR388_0.out x11_2 p389 q389
    cases e389
    (try replace hx389_0 := hcb HB.out hx389_0)
    (try replace hx389_1 := hcb HB.out hx389_1)
    replace p389 := eq_true p389
    replace q389 := eq_true q389
    have p390 : 0 ≤ (x11_2 : Int) := oT (by (with_reducible assumption))
    have q390 : x11_2 < ((rd_L5 t385 a2).length : Int) := oT (by (with_reducible assumption))
    obtain ⟨ad390, e390, hx390_0, hx390_1⟩ := at_T35 HR388_0.out x11_2 p390 q390
    obtain rfl : ad389 = ad390 := (by injection e390)
    (try replace hx390_0 := hcb HB.out hx390_0)
    (try replace hx390_1 := hcb HB.out hx390_1)
    replace p390 := eq_true p390
    replace q390 := eq_true q390
    go_wp2
    go_roundg k2
    case measure => have := HJ4.out; have := HK2.out; omega
    case rel => exact ⟨(x9_2), (wrap64 (x11_2 + 1)), (by rfl), (by rfl), H', ⟨by have := HJ4.out; have := HK2.out; omega⟩, ⟨bk BK381⟩, ⟨by repeat ((with_reducible exact HR388_0.out))⟩, ⟨bl1 HB GE381⟩⟩
   rw [if_pos c30] at H
   have c30b0 : decide (((rd_T35 (rd_L5 t385 a2) x11_2).f0) < x9_2) = true := decide_eq_true c30
   clear c30
   have H' := ak H
   clear H
   have p389 : 0 ≤ (x11_2 : Int) := oT (by (with_reducible assumption))
   have q389 : x11_2 < ((rd_L5 t385 a2).length : Int) := oT (by (with_reducible assumption))
   obtain ⟨ad389, e389, hx389_0, hx389_1⟩ := at_T35 HR388_0.out x11_2 p389 q389
   cases e389
   (try replace hx389_0 := hcb HB.out hx389_0)
   (try replace hx389_1 := hcb HB.out hx389_1)
   replace p389 := eq_true p389
   replace q389 := eq_true q389
   have p390 : 0 ≤ (x11_2 : Int) := oT (by (with_reducible assumption))
   have q390 : x11_2 < ((rd_L5 t385 a2).length : Int) := oT (by (with_reducible assumption))
   obtain ⟨ad390, e390, hx390_0, hx390_1⟩ := at_T35 HR388_0.out x11_2 p390 q390
   obtain rfl : ad389 = ad390 := (by injection e390)
   (try replace hx390_0 := hcb HB.out hx390_0)
   (try replace hx390_1 := hcb HB.out hx390_1)
   replace p390 := eq_true p390
   replace q390 := eq_true q390
   have p391 : 0 ≤ (x11_2 : Int) := oT (by (with_reducible assumption))
   have q391 : x11_2 < ((rd_L5 t385 a2).length : Int) := oT (by (with_reducible assumption))
   obtain ⟨ad391, e391, hx391_0, hx391_1⟩ := at_T35 HR388_0.out x11_2 p391 q391
   obtain rfl : ad389 = ad391 := (by injection e391)
   (try replace hx391_0 := hcb HB.out hx391_0)
   (try replace hx391_1 := hcb HB.out hx391_1)
   replace p391 := eq_true p391
   replace q391 := eq_true q391
   go_wp2
   go_roundg k2
   case measure => have := HJ4.out; have := HK2.out; omega
   case rel => exact ⟨((rd_T35 (rd_L5 t385 a2) x11_2).f0), (wrap64 (x11_2 + 1)), (by rfl), (by rfl), H', ⟨by have := HJ4.out; have := HK2.out; omega⟩, ⟨bk BK381⟩, ⟨by repeat ((with_reducible exact HR388_0.out))⟩, ⟨bl1 HB GE381⟩⟩

end Go.Proofs.Ytddkaiegnohkcaa.F
