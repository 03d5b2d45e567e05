-- Printed by wip/px/px.py of this claim's repository (the kit's printer, extended there). Lean checks it.
import Derived.Test.YtlgolgfcolnddaaFKinds
import Derived.Test.YtlgolgfcolnddaaFimplWalkOk
import Derived.Test.YtlgolgfcolnddaaFimplNetalong
namespace Go.Proofs.Ytlgolgfcolnddaa.F
open Go.RowKit Go.Proofs.YtlgolgfcolnddaaW.PrintWords Go.Proofs.YtlgolgfcolnddaaW.PrintLast Go.Proofs.YtlgolgfcolnddaaW.PrintMore
attribute [local go_sem] max2_int min2_int max_two min_two max_three min_three max_four min_four   -- for this text's walks alone
set_option linter.unusedVariables false
set_option linter.unusedSimpArgs false

/-! ### impl_WalkPlain: function 29 -/
mutual
def impl_WalkPlain.j0 : Nat → List Int → Bool → Int → List (S58) → Option (List Int)
 | 0, _, _, _, _ => none
 | k + 1, x1, x18, x381000, x381001 => if x18 = true then (some ([] : List Int)) else ((impl_Net_along.f k x381000 x381001 x1).bind fun t382 => (if ((x1.length : Int) : Int).toNat ≤ 35184372088832 then (impl_WalkPlain.l0 k x1 t382 (([] : List Int)) 0) else (none)))
def impl_WalkPlain.l0 : Nat → List Int → List Int → List Int → Int → Option (List Int)
 | 0, _, _, _, _ => none
 | k + 1, x1, x5, x6, x7 => impl_WalkPlain.l1 k x1 x5 x6 x7 x5 (x5.length : Int) 0
def impl_WalkPlain.l1 : Nat → List Int → List Int → List Int → Int → List Int → Int → Int → Option (List Int)
 | 0, _, _, _, _, _, _, _ => none
 | k + 1, x1, x5, x6, x7, x27, x28, x29 => if x29 < x28 then (if 0 ≤ x29 then (if x29 < (x27.length : Int) then (if 0 ≤ x7 then (if x7 < (x5.length : Int) then (if (rd x27 x29) = (rd x5 x7) then (impl_WalkPlain.l1 k x1 x5 x6 (mx x7 x29) x27 x28 (wrap64 (x29 + 1))) else (impl_WalkPlain.l1 k x1 x5 x6 x7 x27 x28 (wrap64 (x29 + 1)))) else (none)) else (none)) else (none)) else (none)) else (if x7 = (x1.length : Int) then (some (x6)) else (if 0 ≤ x7 then (if x7 < (x1.length : Int) then (if x6.length < 17592186044416 then (impl_WalkPlain.l0 k x1 x5 (x6 ++ [rd x1 x7]) (wrap64 (x7 + 1))) else (none)) else (none)) else (none)))
end
def impl_WalkPlain.f (k : Nat) (a0_0 : Int) (l0_1 : List (S58)) (l1 : List Int) : Option (List Int) := (impl_WalkOk.f k a0_0 l0_1 l1).bind fun t381 => (if t381 = true then (impl_WalkPlain.j0 k l1 ((l1.length : Int) == 0) a0_0 l0_1) else (impl_WalkPlain.j0 k l1 true a0_0 l0_1))
theorem impl_WalkPlain.mono_l : ∀ k, (∀ y0 y1 y2 y3, LeO (impl_WalkPlain.j0 k y0 y1 y2 y3) (impl_WalkPlain.j0 (k + 1) y0 y1 y2 y3)) ∧ (∀ y0 y1 y2 y3, LeO (impl_WalkPlain.l0 k y0 y1 y2 y3) (impl_WalkPlain.l0 (k + 1) y0 y1 y2 y3)) ∧ (∀ y0 y1 y2 y3 y4 y5 y6, LeO (impl_WalkPlain.l1 k y0 y1 y2 y3 y4 y5 y6) (impl_WalkPlain.l1 (k + 1) y0 y1 y2 y3 y4 y5 y6))
 | 0 => ⟨fun _ _ _ _ r h => by simp [impl_WalkPlain.j0] at h, fun _ _ _ _ r h => by simp [impl_WalkPlain.l0] at h, fun _ _ _ _ _ _ _ r h => by simp [impl_WalkPlain.l1] at h⟩
 | k + 1 => by
  obtain ⟨ih0, ih1, ih2⟩ := impl_WalkPlain.mono_l k
  refine ⟨?_, ?_, ?_⟩
  ·intro y0 y1 y2 y3
   unfold impl_WalkPlain.j0
   repeat' first | (with_reducible exact ih1 _ _ _ _) | (with_reducible exact impl_Net_along.mono _ _ _ _) | (with_reducible exact LeO.refl _) | (with_reducible refine LeO.ite ?_ ?_) | (with_reducible refine LeO.bind ?_ (fun _ => ?_))
  ·intro y0 y1 y2 y3
   unfold impl_WalkPlain.l0
   repeat' (with_reducible exact ih2 _ _ _ _ _ _ _)
  ·intro y0 y1 y2 y3 y4 y5 y6
   unfold impl_WalkPlain.l1
   repeat' first | (with_reducible exact ih1 _ _ _ _) | (with_reducible exact ih2 _ _ _ _ _ _ _) | (with_reducible exact LeO.refl _) | (with_reducible refine LeO.ite ?_ ?_)
theorem impl_WalkPlain.mono : ∀ a0 a1 a2 k, LeO (impl_WalkPlain.f k a0 a1 a2) (impl_WalkPlain.f (k + 1) a0 a1 a2) := by
 intro a0 a1 a2 k
 obtain ⟨ih0, ih1, ih2⟩ := impl_WalkPlain.mono_l k
 unfold impl_WalkPlain.f
 repeat' first | (with_reducible exact ih0 _ _ _ _) | (with_reducible exact impl_WalkOk.mono _ _ _ _) | (with_reducible refine LeO.ite ?_ ?_) | (with_reducible refine LeO.bind ?_ (fun _ => ?_))
set_option maxHeartbeats 8000000 in
set_option maxRecDepth 100000 in
theorem impl_WalkPlain.calls (k : Nat) (a0_0 : Int) (A0_1 : Option Addr) (c0_1 : Nat) (l0_1 : List (S58)) (A1 : Option Addr) (c1 : Nat) (l1 : List Int) (r : List Int) (w : World) (hr0_1 : Kd.C k58 w A0_1 l0_1.length l0_1) (hc0_1 : l0_1.length ≤ c0_1) (hr1 : Kd.C (Kd.int .i64) w A1 l1.length l1) (hc1 : l1.length ≤ c1) (h : impl_WalkPlain.f k a0_0 l0_1 l1 = some r) :
  Calls Try.prog 29 #[.agg #[.int .i64 a0_0, .slice A0_1 l0_1.length c0_1], .slice A1 l1.length c1] w fun e w' => ∃ v0_ : Value, e = .returned (v0_) ∧ Kd.R (Kd.int .i64) 3 w' w.heap.size (fun _ => True) v0_ r ∧ Below w.heap.size w w' := by
 have hu25 := Try.underlying25
 have HR0_1 := ak hr0_1
 have HC0_1 := ak hc0_1
 clear hr0_1 hc0_1
 have HR1 := ak hr1
 have HC1 := ak hc1
 clear hr1 hc1
 have HB := ak (Below.refl w.heap.size w)
 have H : ((impl_WalkOk.f k a0_0 l0_1 l1).bind fun t381 => (if t381 = true then (impl_WalkPlain.j0 k l1 ((l1.length : Int) == 0) a0_0 l0_1) else (impl_WalkPlain.j0 k l1 true a0_0 l0_1))) = some r := h
 clear h
 have HC3 := ak H
 clear H
 go_enter Try.func29, Try.ntmps29
 go_upto_region 1 with (((with_reducible refine gate_dst (N := 2) rfl ?_); refine box_event ?hg (N := 2) ?hd (cs := #[.int .i64 a0_0, .slice A0_1 l0_1.length c0_1]) (t := 25) ?hr ?_; (case hd => rfl); (case hg => rfl); (case hr => (go_simp; done)); intro gb380 hg w4 hbox hb; have BK380 := ak (hbox); have GW380 := ak ((by rw [hg]; exact (below_size (bl HB)) : w.heap.size ≤ gb380)); have GE380 := ak ((by rw [hg]; exact (below_size (bl HB)) : w.heap.size ≤ gb380)); replace HB := ak (below_step (bl HB) hb); clear hb hbox hg))
 (try simp only [Act.put, List.setIfInBounds_toArray, List.set_cons_zero, List.set_cons_succ])
 go_cut [18] (fun v18 wc => ∃ (kq : Nat) (x18_2 : Bool), v18 = .bool x18_2 ∧ Aside0 (impl_WalkPlain.j0 kq l1 x18_2 a0_0 l0_1 = some r) ∧ Aside0 (kq ≤ k) ∧ Aside0 (wc.heap[gb380]? = some (.cells #[.int .i64 a0_0, (.slice A0_1 l0_1.length c0_1)] 25 (0, 0))) ∧ Aside0 (Below w.heap.size w wc))
 case first =>
  have H := HC3.out
  clear HC3
  replace H := Option.bind_eq_some_iff.mp H
  obtain ⟨t381, A50, H⟩ := H
  have A5 := ak A50
  clear A50
  by_cases c6 : t381 = true
  ·subst c6
   rw [if_pos rfl] at H
   have H' := ak H
   clear H
   have hcz7_0 := bc w4 BK380 0 (.int .i64 a0_0) rfl
   have hcz7_1 := bc w4 BK380 1 (.slice A0_1 l0_1.length c0_1) rfl
   have hfz7_0 := fz BK380 0
   have hfz7_1 := fz BK380 1
   go_wp2_with (((with_reducible refine gate_callee (f := 61) rfl ?_); refine goesL_ (some 12) rfl rfl Try.func61 (by kernel_rfl) rfl #[.agg #[.int .i64 a0_0, .slice A0_1 l0_1.length c0_1], .slice A1 l1.length c1] rfl (by (try simp only [List.map_toArray, List.map_cons, List.map_nil]); rfl) ?_; (with_reducible refine (impl_WalkOk.calls k a0_0 _ _ l0_1 _ _ l1 true _ ?side1 ?side2 ?side3 ?side4 A5.out).mono ?_); (case side1 => repeat (exact (Kd.C_below HR0_1.out HB.out))); (case side2 => exact HC0_1.out); (case side3 => repeat (exact (Kd.C_below HR1.out HB.out))); (case side4 => exact HC1.out); rintro e w8 ⟨rfl, hb⟩; refine ⟨_, rfl, ?_⟩; replace BK380 := ak (blk_below (bk BK380) hb); replace HB := ak (below_step (bl1 HB GE380) hb); (try clear hb); (try clear hb2); (try clear hk); (try clear hi)))
   go_meet
   case rel => exact ⟨_, (((l1.length : Int) == 0)), (by rfl), H', ⟨by omega⟩, ⟨bk BK380⟩, ⟨bl1 HB GE380⟩⟩
  replace c6 := Bool.eq_false_iff.mpr c6
  subst c6
  rw [if_neg (show ¬ (false = true) by decide)] at H
  have H' := ak H
  clear H
  have hcz9_0 := bc w4 BK380 0 (.int .i64 a0_0) rfl
  have hcz9_1 := bc w4 BK380 1 (.slice A0_1 l0_1.length c0_1) rfl
  have hfz9_0 := fz BK380 0
  have hfz9_1 := fz BK380 1
  go_wp2_with (((with_reducible refine gate_callee (f := 61) rfl ?_); refine goesL_ (some 12) rfl rfl Try.func61 (by kernel_rfl) rfl #[.agg #[.int .i64 a0_0, .slice A0_1 l0_1.length c0_1], .slice A1 l1.length c1] rfl (by (try simp only [List.map_toArray, List.map_cons, List.map_nil]); rfl) ?_; (with_reducible refine (impl_WalkOk.calls k a0_0 _ _ l0_1 _ _ l1 false _ ?side1 ?side2 ?side3 ?side4 A5.out).mono ?_); (case side1 => repeat (exact (Kd.C_below HR0_1.out HB.out))); (case side2 => exact HC0_1.out); (case side3 => repeat (exact (Kd.C_below HR1.out HB.out))); (case side4 => exact HC1.out); rintro e w10 ⟨rfl, hb⟩; refine ⟨_, rfl, ?_⟩; replace BK380 := ak (blk_below (bk BK380) hb); replace HB := ak (below_step (bl1 HB GE380) hb); (try clear hb); (try clear hb2); (try clear hk); (try clear hi)))
  go_meet
  case rel => exact ⟨_, (true), (by rfl), H', ⟨by omega⟩, ⟨bk BK380⟩, ⟨bl1 HB GE380⟩⟩
 clear HC3
 try clear c1
 try clear c2
 try clear p2
 try clear c6
 try clear hcz7_0
 try clear hcz7_1
 try clear hcz9_0
 try clear hcz9_1
 try clear hfz7_0
 try clear hfz7_1
 try clear hfz9_0
 try clear hfz9_1
 obtain ⟨kq, x18_2, rfl, HA, HJ2, BK380, HB⟩ := hcut
 cases kq with
 | zero => exact absurd HA.out (by simp [impl_WalkPlain.j0])
 | succ kj2 =>
  have H := HA.out
  clear HA
  simp only [impl_WalkPlain.j0] at H
  by_cases c11 : x18_2 = true
  ·subst c11
   rw [if_pos rfl] at H
   obtain rfl := Option.some.inj H
   go_wp2
   go_ret
   exact ⟨_, by rfl, by exact Kd.R_nil _ _ _ _ _, bl1 HB GE380⟩
  replace c11 := Bool.eq_false_iff.mpr c11
  subst c11
  rw [if_neg (show ¬ (false = true) by decide)] at H
  replace H := Option.bind_eq_some_iff.mp H
  obtain ⟨t382, A120, H⟩ := H
  have A12 := ak A120
  clear A120
  by_cases c13 : ((l1.length : Int) : Int).toNat ≤ 35184372088832
  rotate_left
  ·rw [if_neg c13] at H
   exact absurd H (by simp)
  rw [if_pos c13] at H
  have c13b0 := eq_true c13
  have c13b1 : decide (((l1.length : Int) : Int).toNat ≤ 35184372088832) = true := decide_eq_true c13
  clear c13
  obtain ⟨y385, hy385⟩ : ∃ y_ : List Int, y_ = (([] : List Int)) := ⟨_, rfl⟩
  replace H : (impl_WalkPlain.l0 kj2 l1 t382 y385 0) = some r := by (rw [hy385]; with_reducible exact H)
  have Ny385 := ak hy385
  clear hy385
  have H' := ak H
  clear H
  have hcz14_0 := bc wc BK380 0 (.int .i64 a0_0) rfl
  have hcz14_1 := bc wc BK380 1 (.slice A0_1 l0_1.length c0_1) rfl
  have hfz14_0 := fz BK380 0
  have hfz14_1 := fz BK380 1
  go_wp2_with (first | ((with_reducible refine gate_callee (f := 66) rfl ?_); refine goesL_ (some 21) rfl rfl Try.func66 (by kernel_rfl) rfl #[.agg #[.int .i64 a0_0, .slice A0_1 l0_1.length c0_1], .slice A1 l1.length c1] rfl (by (try simp only [List.map_toArray, List.map_cons, List.map_nil]); rfl) ?_; (with_reducible refine (impl_Net_along.calls kj2 a0_0 _ _ l0_1 _ _ l1 t382 _ ?side1 ?side2 ?side3 ?side4 A12.out).mono ?_); (case side1 => repeat (exact (Kd.C_below HR0_1.out HB.out))); (case side2 => exact HC0_1.out); (case side3 => repeat (exact (Kd.C_below HR1.out HB.out))); (case side4 => exact HC1.out); rintro e w15 ⟨v383, rfl, ho0, hb⟩; refine ⟨_, rfl, ?_⟩; have HO384 := ak (Kd.R_lower ho0 (below_size (bl1 HB GE380))); replace BK380 := ak (blk_below (bk BK380) hb); replace HB := ak (below_step (bl1 HB GE380) hb); (try clear hb); (try clear hb2); (try clear hk); (try clear hi); (try clear ho0)) | ((with_reducible refine gate_dst (N := 24) rfl ?_); refine Kd.R_make0 (Kd.int .i64) _ 3 rfl (N := 24) rfl 33 _ _ rfl (l1.length : Int) rfl rfl Try.underlying33 (.int .i64 0) 8 info3 (by decide) (ok := fun _ => True) trivial (by omega) (Nat.le_trans (Nat.mul_le_mul_right _ (oT (by (with_reducible assumption)) : (l1.length : Int).toNat ≤ 35184372088832)) (by omega)) (Below.refl _ _) (Nat.le_refl _) ?_; intro v386 w16 ho17 hb hg_ hnew_; clear hg_ hnew_; (rw [← Ny385.out] at ho17); have HO387 := ak (Kd.R_lower (Kd.R_new' ho17 (Kd.R_lt (rk HO384))) (below_size (bl1 HB GE380))); replace HO384 := ak (Kd.R_elder' (rk HO384) (Kd.R_base ho17) hb); replace BK380 := ak (blk_below (bk BK380) hb); replace HB := ak (below_step (bl1 HB GE380) hb); clear hb ho17))
  go_loopg [6, 7] kj2 (fun kq v6 v7 w' => ∃ (x6_2 : List Int) (x7_2 : Int), v7 = .int .i64 x7_2 ∧ Aside0 (impl_WalkPlain.l0 kq l1 t382 x6_2 x7_2 = some r) ∧ Aside0 (kq ≤ kj2) ∧ Aside0 (Kd.R (Kd.int .i64) 3 w' w.heap.size (fun k_ => some k_ ≠ (v6 : Value).ownBlock) v383 t382) ∧ Aside0 (Kd.R (Kd.int .i64) 3 w' w.heap.size (fun k_ => some k_ ≠ (v383 : Value).ownBlock) v6 x6_2) ∧ Aside0 (w'.heap[gb380]? = some (.cells #[.int .i64 a0_0, (.slice A0_1 l0_1.length c0_1)] 25 (0, 0))) ∧ Aside0 (Below w.heap.size w w'))
  case atStart => exact ⟨(y385), (0), (by rfl), H', ⟨Nat.le_refl _⟩, ⟨by exact Kd.R_mono HO384.out (fun _ hk => hk.2)⟩, ⟨by exact Kd.R_mono HO387.out (fun _ hk => hk.2)⟩, ⟨bk BK380⟩, ⟨bl1 HB GE380⟩⟩
  clear H'
  try clear c1
  try clear c2
  try clear p2
  try clear c6
  try clear c11
  try clear c13
  try clear c13b0
  try clear c13b1
  try clear hcz14_0
  try clear hcz14_1
  try clear hcz7_0
  try clear hcz7_1
  try clear hcz9_0
  try clear hcz9_1
  try clear hfz14_0
  try clear hfz14_1
  try clear hfz7_0
  try clear hfz7_1
  try clear hfz9_0
  try clear hfz9_1
  try clear p2
  obtain ⟨x6_2, x7_2, rfl, HA, HK2, HO_5, HO_6, BK380, HB⟩ := hrel
  cases gk with
  | zero => exact absurd HA.out (by simp [impl_WalkPlain.l0])
  | succ k2 =>
   have H := HA.out
   clear HA
   simp only [impl_WalkPlain.l0] at H
   have H' := ak H
   clear H
   obtain ⟨Ao18, co18, eo18⟩ := Kd.R_slice HO_5.out
   subst eo18
   go_wp2
   go_loopg [7, 29] k2 (fun kq v7 v29 w' => ∃ (x7_3 : Int) (x29_3 : Int), v7 = .int .i64 x7_3 ∧ v29 = .int .i64 x29_3 ∧ Aside0 (impl_WalkPlain.l1 kq l1 t382 x6_2 x7_3 t382 (t382.length : Int) x29_3 = some r) ∧ Aside0 (kq ≤ k2) ∧ Aside0 (Kd.R (Kd.int .i64) 3 w' w.heap.size (fun k_ => some k_ ≠ (u6 : Value).ownBlock) (.slice Ao18 t382.length co18) t382) ∧ Aside0 (Kd.R (Kd.int .i64) 3 w' w.heap.size (fun k_ => some k_ ≠ ((.slice Ao18 t382.length co18) : Value).ownBlock ∧ some k_ ≠ ((.slice Ao18 t382.length co18) : Value).ownBlock) u6 x6_2) ∧ Aside0 (Kd.R (Kd.int .i64) 3 w' w.heap.size (fun k_ => some k_ ≠ (u6 : Value).ownBlock) (.slice Ao18 t382.length co18) t382) ∧ Aside0 (w'.heap[gb380]? = some (.cells #[.int .i64 a0_0, (.slice A0_1 l0_1.length c0_1)] 25 (0, 0))) ∧ Aside0 (Below w.heap.size w w'))
   case atStart => exact ⟨(x7_2), (0), (by rfl), (by rfl), H', ⟨Nat.le_refl _⟩, ⟨rk HO_5⟩, ⟨by exact Kd.R_mono HO_6.out (fun _ hk => ⟨hk, hk⟩)⟩, ⟨rk HO_5⟩, ⟨bk BK380⟩, ⟨bl1 HB GE380⟩⟩
   clear H'
   try clear c1
   try clear c2
   try clear p2
   try clear c6
   try clear c11
   try clear c13
   try clear c13b0
   try clear c13b1
   try clear hcz14_0
   try clear hcz14_1
   try clear hcz7_0
   try clear hcz7_1
   try clear hcz9_0
   try clear hcz9_1
   try clear hfz14_0
   try clear hfz14_1
   try clear hfz7_0
   try clear hfz7_1
   try clear hfz9_0
   try clear hfz9_1
   try clear p2
   obtain ⟨x7_3, x29_3, rfl, rfl, HA, HK3, HO_5, HO_6, HO_27, BK380, HB⟩ := hrel
   cases gk with
   | zero => exact absurd HA.out (by simp [impl_WalkPlain.l1])
   | succ k3 =>
    have H := HA.out
    clear HA
    simp only [impl_WalkPlain.l1] at H
    by_cases c19 : x29_3 < (t382.length : Int)
    ·rw [if_pos c19] at H
     have c19b0 : decide (x29_3 < (t382.length : Int)) = true := decide_eq_true c19
     clear c19
     by_cases c20 : 0 ≤ x29_3
     rotate_left
     ·rw [if_neg c20] at H
      exact absurd H (by simp)
     rw [if_pos c20] at H
     have c20b0 : decide (0 ≤ x29_3) = true := decide_eq_true c20
     clear c20
     by_cases c21 : x29_3 < (t382.length : Int)
     rotate_left
     ·rw [if_neg c21] at H
      exact absurd H (by simp)
     rw [if_pos c21] at H
     have c21b0 : decide (x29_3 < (t382.length : Int)) = true := decide_eq_true c21
     clear c21
     by_cases c22 : 0 ≤ x7_3
     rotate_left
     ·rw [if_neg c22] at H
      exact absurd H (by simp)
     rw [if_pos c22] at H
     have c22b0 : decide (0 ≤ x7_3) = true := decide_eq_true c22
     clear c22
     by_cases c23 : x7_3 < (t382.length : Int)
     rotate_left
     ·rw [if_neg c23] at H
      exact absurd H (by simp)
     rw [if_pos c23] at H
     have c23b0 : decide (x7_3 < (t382.length : Int)) = true := decide_eq_true c23
     clear c23
     by_cases c24 : (rd t382 x29_3) = (rd t382 x7_3)
     rotate_left
     ·rw [if_neg c24] at H
      have c24b0 : ((rd t382 x29_3) == (rd t382 x7_3)) = false := beq_eq_false_iff_ne.mpr c24
      have c24b1 : ((rd t382 x29_3) != (rd t382 x7_3)) = true := bne_iff_ne.mpr c24
      have H' := ak H
      clear H
      have p388 : 0 ≤ (x29_3 : Int) := oT (by (with_reducible assumption))
      have q388 : x29_3 < (t382.length : Int) := oT (by (with_reducible assumption))
      obtain ⟨ad388, e388, hx388_0⟩ := Kd.at_int (Kd.R_reads' HO_27.out).2.2 x29_3 p388 q388
      cases e388
      replace p388 := eq_true p388
      replace q388 := eq_true q388
      have p389 : 0 ≤ (x7_3 : Int) := oT (by (with_reducible assumption))
      have q389 : x7_3 < (t382.length : Int) := oT (by (with_reducible assumption))
      obtain ⟨ad389, e389, hx389_0⟩ := Kd.at_int (Kd.R_reads' HO_5.out).2.2 x7_3 p389 q389
      obtain rfl : ad388 = ad389 := (by injection e389)
      replace p389 := eq_true p389
      replace q389 := eq_true q389
      go_wp2
      go_roundg k3
      case measure => have := HJ2.out; have := HK2.out; have := HK3.out; omega
      case rel => exact ⟨(x7_3), (wrap64 (x29_3 + 1)), (by rfl), (by rfl), H', ⟨by have := HJ2.out; have := HK2.out; have := HK3.out; omega⟩, ⟨rk HO_5⟩, ⟨rk HO_6⟩, ⟨rk HO_27⟩, ⟨bk BK380⟩, ⟨bl1 HB GE380⟩⟩
     rw [if_pos c24] at H
     have c24b0 : ((rd t382 x29_3) == (rd t382 x7_3)) = true := beq_iff_eq.mpr c24
     have c24b1 : ((rd t382 x29_3) != (rd t382 x7_3)) = false := bne_eq_false_iff_eq.mpr c24
     clear c24
     obtain ⟨ji25, hji25⟩ : ∃ j_ : Int, (mx x7_3 x29_3) = j_ := ⟨_, rfl⟩
     replace H : (impl_WalkPlain.l1 k3 l1 t382 x6_2 ji25 t382 (t382.length : Int) (wrap64 (x29_3 + 1))) = some r := by (rw [hji25] at H; exact H)
     have hji25_ : (if x7_3 < x29_3 then x29_3 else x7_3) = ji25 := hji25
     have H' := ak H
     clear H
     have p388 : 0 ≤ (x29_3 : Int) := oT (by (with_reducible assumption))
     have q388 : x29_3 < (t382.length : Int) := oT (by (with_reducible assumption))
     obtain ⟨ad388, e388, hx388_0⟩ := Kd.at_int (Kd.R_reads' HO_27.out).2.2 x29_3 p388 q388
     cases e388
     replace p388 := eq_true p388
     replace q388 := eq_true q388
     have p389 : 0 ≤ (x7_3 : Int) := oT (by (with_reducible assumption))
     have q389 : x7_3 < (t382.length : Int) := oT (by (with_reducible assumption))
     obtain ⟨ad389, e389, hx389_0⟩ := Kd.at_int (Kd.R_reads' HO_5.out).2.2 x7_3 p389 q389
     obtain rfl : ad388 = ad389 := (by injection e389)
     replace p389 := eq_true p389
     replace q389 := eq_true q389
     go_wp2
     go_roundg k3
     case measure => have := HJ2.out; have := HK2.out; have := HK3.out; omega
     case rel => exact ⟨(ji25), (wrap64 (x29_3 + 1)), (by rfl), (by rfl), H', ⟨by have := HJ2.out; have := HK2.out; have := HK3.out; omega⟩, ⟨rk HO_5⟩, ⟨rk HO_6⟩, ⟨rk HO_27⟩, ⟨bk BK380⟩, ⟨bl1 HB GE380⟩⟩
    rw [if_neg c19] at H
    have c19b0 : decide (x29_3 < (t382.length : Int)) = false := decide_eq_false c19
    clear c19
    by_cases c26 : x7_3 = (l1.length : Int)
    ·rw [if_pos c26] at H
     have c26b0 : (x7_3 == (l1.length : Int)) = true := beq_iff_eq.mpr c26
     have c26b1 : (x7_3 != (l1.length : Int)) = false := bne_eq_false_iff_eq.mpr c26
     clear c26
     obtain ⟨y390, hy390⟩ : ∃ y_ : List Int, y_ = (x6_2) := ⟨_, rfl⟩
     replace H : (some y390) = some r := by (rw [hy390]; with_reducible exact H)
     have Ny390 := ak hy390
     clear hy390
     obtain rfl := Option.some.inj H
     obtain ⟨Ao27, co27, eo27⟩ := Kd.R_slice HO_6.out
     subst eo27
     obtain ⟨i028, hi028, _, hsz28, _⟩ := info_parts info3
     have hr28 := Kd.R_clip HO_6.out
     rw [← Ny390.out] at hr28
     have hcut28 : ∀ W : World, (Instr.slice 33 (.slice Ao27 x6_2.length co27) none (some (.int .i64 (x6_2.length : Int))) (some (.int .i64 (x6_2.length : Int)))).run Try.prog W = .ok (.slice Ao27 y390.length y390.length) W := by rw [Ny390.out]; exact cut_clip 33 3 Try.underlying33 hi028 Ao27 x6_2.length co27 (Kd.R_reads' HO_6.out).2.1
     clear hi028 hsz28 HO_6
     have HO392 := ak hr28
     clear hr28
     go_wp2
     go_ret
     exact ⟨_, by rfl, by exact Kd.R_mono HO392.out (fun _ hk => trivial), bl1 HB GE380⟩
    rw [if_neg c26] at H
    have c26b0 : (x7_3 == (l1.length : Int)) = false := beq_eq_false_iff_ne.mpr c26
    have c26b1 : (x7_3 != (l1.length : Int)) = true := bne_iff_ne.mpr c26
    by_cases c29 : 0 ≤ x7_3
    rotate_left
    ·rw [if_neg c29] at H
     exact absurd H (by simp)
    rw [if_pos c29] at H
    have c29b0 : decide (0 ≤ x7_3) = true := decide_eq_true c29
    clear c29
    by_cases c30 : x7_3 < (l1.length : Int)
    rotate_left
    ·rw [if_neg c30] at H
     exact absurd H (by simp)
    rw [if_pos c30] at H
    have c30b0 : decide (x7_3 < (l1.length : Int)) = true := decide_eq_true c30
    clear c30
    by_cases c31 : x6_2.length < 17592186044416
    rotate_left
    ·rw [if_neg c31] at H
     exact absurd H (by simp)
    rw [if_pos c31] at H
    have LMc31 := ak c31
    clear c31
    obtain ⟨y394, hy394⟩ : ∃ y_ : List Int, y_ = (x6_2 ++ [rd l1 x7_3]) := ⟨_, rfl⟩
    replace H : (impl_WalkPlain.l0 k3 l1 t382 y394 (wrap64 (x7_3 + 1))) = some r := by (rw [hy394]; with_reducible exact H)
    have Ny394 := ak hy394
    clear hy394
    have H' := ak H
    clear H
    have p393 : 0 ≤ (x7_3 : Int) := oT (by (with_reducible assumption))
    have q393 : x7_3 < (l1.length : Int) := oT (by (with_reducible assumption))
    obtain ⟨ad393, e393, hx393_0⟩ := Kd.at_int HR1.out x7_3 p393 q393
    cases e393
    replace hx393_0 := hcb HB.out hx393_0
    replace p393 := eq_true p393
    replace q393 := eq_true q393
    go_wp2_with (((with_reducible refine gate_builtin (b := .append) (xs := #[.tmp 54, .tmp 59]) rfl ?_); at_builtin; refine Kd.R_append (Kd.int .i64) (w0 := w) w.heap.size rfl (.tmp 54) (.tmp 59) 33 3 (.int .i64 0) 8 rfl Try.underlying33 info3 rfl (by decide) (by omega) u6 x6_2 (rd l1 x7_3) [.int .i64 (rd l1 x7_3)] (fun k_ => some k_ ≠ (.slice Ao18 t382.length co18 : Value).ownBlock ∧ some k_ ≠ (.slice Ao18 t382.length co18 : Value).ownBlock) (fun _ => False) rfl rfl ?aP (fun _ hk => hk.elim) ?aF ?aO ?aB ?aS ?aL ?_; (case aP => exact rfl); (case aB => exact (bl1 HB GE380)); (case aF => exact (fun k_ hk => ⟨Kd.fresh' (Kd.R_lt (rk HO_5)) k_ hk, Kd.fresh' (Kd.R_lt (rk HO_27)) k_ hk⟩)); (case aO => exact (rk HO_6)); (case aS => exact (below_size (bl1 HB GE380))); (case aL => have := LMc31.out; omega); intro v395 w32 ho hb hg hat; rw [← Ny394.out] at ho; have n0_ := ak (Kd.R_after (ok := (fun _ => True)) (by exact Kd.R_mono HO_5.out (fun _ hk => ⟨trivial, hk⟩)) hg hat); have n1_ := ak (Kd.R_after (ok := (fun _ => True)) (by exact Kd.R_mono HO_27.out (fun _ hk => ⟨trivial, hk⟩)) hg hat); have n2_ := ak (blk_grown (bk BK380) hg (Kd.R_ne HO_6.out BK380.out (by decide))); have n3_ := ak (hb); have n4_ := ak (ho); clear HO_5; clear HO_27; clear BK380; clear HB; clear HO_6; have HO_5 := n0_; have HO_27 := n1_; have BK380 := n2_; have HB := n3_; have HO396 := n4_; clear n0_ n1_ n2_ n3_ n4_; clear ho hb hg hat))
    go_roundg k3
    case measure => have := HJ2.out; have := HK2.out; have := HK3.out; omega
    case rel => exact ⟨(y394), (wrap64 (x7_3 + 1)), (by rfl), H', ⟨by have := HJ2.out; have := HK2.out; have := HK3.out; omega⟩, ⟨by exact Kd.R_mono HO_5.out (fun _ hk => hk.2)⟩, ⟨by exact Kd.R_mono HO396.out (fun _ hk => hk.1)⟩, ⟨bk BK380⟩, ⟨bl1 HB GE380⟩⟩

end Go.Proofs.Ytlgolgfcolnddaa.F
