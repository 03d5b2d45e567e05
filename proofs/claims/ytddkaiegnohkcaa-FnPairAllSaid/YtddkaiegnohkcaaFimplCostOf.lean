-- Printed by wip/px/px.py of this claim's repository (the kit's printer, extended there). Lean checks it.
import Derived.Test.YtddkaiegnohkcaaFKinds
import Derived.Test.YtddkaiegnohkcaaFimplwithin
import Derived.Test.YtddkaiegnohkcaaFimplNetOk
namespace Go.Proofs.Ytddkaiegnohkcaa.F
open Go.RowKit Go.Proofs.YtddkaiegnohkcaaW.PrintWords Go.Proofs.YtddkaiegnohkcaaW.PrintLast Go.Proofs.YtddkaiegnohkcaaW.PrintMore
attribute [local go_sem] max2_int min2_int max_two min_two max_three min_three max_four min_four   -- for this text's walks alone
set_option linter.unusedVariables false
set_option linter.unusedSimpArgs false

/-! ### impl_CostOf: function 37 -/
mutual
def impl_CostOf.j0 : Nat → Int → Int → Bool → Int → List (S33) → Option (List Int)
 | 0, _, _, _, _, _ => none
 | k + 1, x1, x2, x22, x609000, x609001 => if x22 = true then (some ([] : List Int)) else (if ((x609001.length : Int) : Int).toNat ≤ 35184372088832 then (impl_CostOf.l0 k x1 x2 (([] : List Int)) x609001 (x609001.length : Int) 0) else (none))
def impl_CostOf.l0 : Nat → Int → Int → List Int → List (S33) → Int → Int → Option (List Int)
 | 0, _, _, _, _, _, _ => none
 | k + 1, x1, x2, x7, x28, x29, x30 => if x30 < x29 then (if 0 ≤ x30 then (if x30 < (x28.length : Int) then (if x7.length < 17592186044416 then (impl_CostOf.l0 k x1 x2 (x7 ++ [mn (wrap64 (Int.tdiv (wrap64 ((wrap64 (((rd_T33 x28 x30).f2) * x1)) + (wrap64 (((rd_T33 x28 x30).f3) * x2)))) 100)) 99]) x28 x29 (wrap64 (x30 + 1))) else (none)) else (none)) else (none)) else (some x7)
end
def impl_CostOf.f (k : Nat) (a0_0 : Int) (l0_1 : List (S33)) (a1 : Int) (a2 : Int) : Option (List Int) := (impl_NetOk.f a0_0 l0_1).bind fun t609 => (if t609 = true then ((impl_within.f a1 0 100).bind fun t610 => (if t610 = true then ((impl_within.f a2 0 100).bind fun t611 => (impl_CostOf.j0 k a1 a2 (!t611) a0_0 l0_1)) else (impl_CostOf.j0 k a1 a2 true a0_0 l0_1))) else (impl_CostOf.j0 k a1 a2 true a0_0 l0_1))
theorem impl_CostOf.mono_l : ∀ k, (∀ y0 y1 y2 y3 y4, LeO (impl_CostOf.j0 k y0 y1 y2 y3 y4) (impl_CostOf.j0 (k + 1) y0 y1 y2 y3 y4)) ∧ (∀ y0 y1 y2 y3 y4 y5, LeO (impl_CostOf.l0 k y0 y1 y2 y3 y4 y5) (impl_CostOf.l0 (k + 1) y0 y1 y2 y3 y4 y5))
 | 0 => ⟨fun _ _ _ _ _ r h => by simp [impl_CostOf.j0] at h, fun _ _ _ _ _ _ r h => by simp [impl_CostOf.l0] at h⟩
 | k + 1 => by
  obtain ⟨ih0, ih1⟩ := impl_CostOf.mono_l k
  refine ⟨?_, ?_⟩
  ·intro y0 y1 y2 y3 y4
   unfold impl_CostOf.j0
   repeat' first | (with_reducible exact ih1 _ _ _ _ _ _) | (with_reducible exact LeO.refl _) | (with_reducible refine LeO.ite ?_ ?_)
  ·intro y0 y1 y2 y3 y4 y5
   unfold impl_CostOf.l0
   repeat' first | (with_reducible exact ih1 _ _ _ _ _ _) | (with_reducible exact LeO.refl _) | (with_reducible refine LeO.ite ?_ ?_)
theorem impl_CostOf.mono : ∀ a0 a1 a2 a3 k, LeO (impl_CostOf.f k a0 a1 a2 a3) (impl_CostOf.f (k + 1) a0 a1 a2 a3) := by
 intro a0 a1 a2 a3 k
 obtain ⟨ih0, ih1⟩ := impl_CostOf.mono_l k
 unfold impl_CostOf.f
 repeat' first | (with_reducible exact ih0 _ _ _ _ _) | (with_reducible exact LeO.refl _) | (with_reducible refine LeO.ite ?_ ?_) | (with_reducible refine LeO.bind ?_ (fun _ => ?_))
set_option maxHeartbeats 8000000 in
set_option maxRecDepth 100000 in
theorem impl_CostOf.calls (k : Nat) (a0_0 : Int) (A0_1 : Option Addr) (c0_1 : Nat) (l0_1 : List (S33)) (a1 : Int) (a2 : Int) (r : List Int) (w : World) (hr0_1 : Kd.C k33 w A0_1 l0_1.length l0_1) (hc0_1 : l0_1.length ≤ c0_1) (h : impl_CostOf.f k a0_0 l0_1 a1 a2 = some r) :
  Calls Try.prog 37 #[.agg #[.int .i64 a0_0, .slice A0_1 l0_1.length c0_1], .int .i64 a1, .int .i64 a2] w fun e w' => ∃ v0_ : Value, e = .returned (v0_) ∧ Kd.R (Kd.int .i64) 3 w' w.heap.size (fun _ => True) v0_ r ∧ Below w.heap.size w w' := by
 have hu25 := Try.underlying25
 have hu33 := Try.underlying33
 have HR0_1 := ak hr0_1
 have HC0_1 := ak hc0_1
 clear hr0_1 hc0_1
 have HB := ak (Below.refl w.heap.size w)
 have H : ((impl_NetOk.f a0_0 l0_1).bind fun t609 => (if t609 = true then ((impl_within.f a1 0 100).bind fun t610 => (if t610 = true then ((impl_within.f a2 0 100).bind fun t611 => (impl_CostOf.j0 k a1 a2 (!t611) a0_0 l0_1)) else (impl_CostOf.j0 k a1 a2 true a0_0 l0_1))) else (impl_CostOf.j0 k a1 a2 true a0_0 l0_1))) = some r := h
 clear h
 have HC4 := ak H
 clear H
 go_enter Try.func37, Try.ntmps37
 go_upto_region 1 with (((with_reducible refine gate_dst (N := 3) rfl ?_); refine box_event ?hg (N := 3) ?hd (cs := #[.int .i64 a0_0, .slice A0_1 l0_1.length c0_1]) (t := 25) ?hr ?_; (case hd => rfl); (case hg => rfl); (case hr => (go_simp; done)); intro gb608 hg w5 hbox hb; have BK608 := ak (hbox); have GW608 := ak ((by rw [hg]; exact (below_size (bl HB)) : w.heap.size ≤ gb608)); have GE608 := ak ((by rw [hg]; exact (below_size (bl HB)) : w.heap.size ≤ gb608)); replace HB := ak (below_step (bl HB) hb); clear hb hbox hg))
 (try simp only [Act.put, List.setIfInBounds_toArray, List.set_cons_zero, List.set_cons_succ])
 go_cut [22] (fun v22 wc => ∃ (kq : Nat) (x22_3 : Bool), v22 = .bool x22_3 ∧ Aside0 (impl_CostOf.j0 kq a1 a2 x22_3 a0_0 l0_1 = some r) ∧ Aside0 (kq ≤ k) ∧ Aside0 (wc.heap[gb608]? = some (.cells #[.int .i64 a0_0, (.slice A0_1 l0_1.length c0_1)] 25 (0, 0))) ∧ Aside0 (Below w.heap.size w wc))
 case first =>
  have H := HC4.out
  clear HC4
  replace H := Option.bind_eq_some_iff.mp H
  obtain ⟨t609, A60, H⟩ := H
  have A6 := ak A60
  clear A60
  by_cases c7 : t609 = true
  rotate_left
  ·replace c7 := Bool.eq_false_iff.mpr c7
   subst c7
   rw [if_neg (show ¬ (false = true) by decide)] at H
   have H' := ak H
   clear H
   have hcz15_0 := bc w5 BK608 0 (.int .i64 a0_0) rfl
   have hcz15_1 := bc w5 BK608 1 (.slice A0_1 l0_1.length c0_1) rfl
   have hfz15_0 := fz BK608 0
   have hfz15_1 := fz BK608 1
   go_wp2_with (((with_reducible refine gate_callee (f := 35) rfl ?_); refine goesL_ (some 11) rfl rfl Try.func35 (by kernel_rfl) rfl #[.agg #[.int .i64 a0_0, .slice A0_1 l0_1.length c0_1]] rfl (by (try simp only [List.map_toArray, List.map_cons, List.map_nil]); rfl) ?_; (with_reducible refine (impl_NetOk.calls a0_0 _ _ l0_1 false _ ?side1 ?side2 A6.out).mono ?_); (case side1 => repeat (exact (Kd.C_below HR0_1.out HB.out))); (case side2 => exact HC0_1.out); rintro e w16 ⟨rfl, hb⟩; refine ⟨_, rfl, ?_⟩; replace BK608 := ak (blk_below (bk BK608) hb); replace HB := ak (below_step (bl1 HB GE608) hb); (try clear hb); (try clear hb2); (try clear hk); (try clear hi)))
   go_meet
   case rel => exact ⟨_, (true), (by rfl), H', ⟨by omega⟩, ⟨bk BK608⟩, ⟨bl1 HB GE608⟩⟩
  subst c7
  rw [if_pos rfl] at H
  replace H := Option.bind_eq_some_iff.mp H
  obtain ⟨t610, A80, H⟩ := H
  have A8 := ak A80
  clear A80
  by_cases c9 : t610 = true
  rotate_left
  ·replace c9 := Bool.eq_false_iff.mpr c9
   subst c9
   rw [if_neg (show ¬ (false = true) by decide)] at H
   have H' := ak H
   clear H
   have hcz13_0 := bc w5 BK608 0 (.int .i64 a0_0) rfl
   have hcz13_1 := bc w5 BK608 1 (.slice A0_1 l0_1.length c0_1) rfl
   have hfz13_0 := fz BK608 0
   have hfz13_1 := fz BK608 1
   go_wp2_with (first | ((with_reducible refine gate_callee (f := 35) rfl ?_); refine goesL_ (some 11) rfl rfl Try.func35 (by kernel_rfl) rfl #[.agg #[.int .i64 a0_0, .slice A0_1 l0_1.length c0_1]] rfl (by (try simp only [List.map_toArray, List.map_cons, List.map_nil]); rfl) ?_; (with_reducible refine (impl_NetOk.calls a0_0 _ _ l0_1 true _ ?side1 ?side2 A6.out).mono ?_); (case side1 => repeat (exact (Kd.C_below HR0_1.out HB.out))); (case side2 => exact HC0_1.out); rintro e w14 ⟨rfl, hb⟩; refine ⟨_, rfl, ?_⟩; replace BK608 := ak (blk_below (bk BK608) hb); replace HB := ak (below_step (bl1 HB GE608) hb); (try clear hb); (try clear hb2); (try clear hk); (try clear hi)) | (go_at_call 41; (with_reducible refine (impl_within.calls a1 0 100 false _ A8.out).mono ?_); rintro e w' ⟨rfl, ⟨nd, rfl⟩⟩))
   go_meet
   case rel => exact ⟨_, (true), (by rfl), H', ⟨by omega⟩, ⟨bk BK608⟩, ⟨bl1 HB GE608⟩⟩
  subst c9
  rw [if_pos rfl] at H
  replace H := Option.bind_eq_some_iff.mp H
  obtain ⟨t611, A100, H⟩ := H
  have A10 := ak A100
  clear A100
  have H' := ak H
  clear H
  have hcz11_0 := bc w5 BK608 0 (.int .i64 a0_0) rfl
  have hcz11_1 := bc w5 BK608 1 (.slice A0_1 l0_1.length c0_1) rfl
  have hfz11_0 := fz BK608 0
  have hfz11_1 := fz BK608 1
  go_wp2_with (first | ((with_reducible refine gate_callee (f := 35) rfl ?_); refine goesL_ (some 11) rfl rfl Try.func35 (by kernel_rfl) rfl #[.agg #[.int .i64 a0_0, .slice A0_1 l0_1.length c0_1]] rfl (by (try simp only [List.map_toArray, List.map_cons, List.map_nil]); rfl) ?_; (with_reducible refine (impl_NetOk.calls a0_0 _ _ l0_1 true _ ?side1 ?side2 A6.out).mono ?_); (case side1 => repeat (exact (Kd.C_below HR0_1.out HB.out))); (case side2 => exact HC0_1.out); rintro e w12 ⟨rfl, hb⟩; refine ⟨_, rfl, ?_⟩; replace BK608 := ak (blk_below (bk BK608) hb); replace HB := ak (below_step (bl1 HB GE608) hb); (try clear hb); (try clear hb2); (try clear hk); (try clear hi)) | (go_at_call 41; (with_reducible refine (impl_within.calls a1 0 100 true _ A8.out).mono ?_); rintro e w' ⟨rfl, ⟨nd, rfl⟩⟩) | (go_at_call 41; (with_reducible refine (impl_within.calls a2 0 100 t611 _ A10.out).mono ?_); rintro e w' ⟨rfl, ⟨nd, rfl⟩⟩))
  go_meet
  case rel => exact ⟨_, (!t611), (by rfl), H', ⟨by omega⟩, ⟨bk BK608⟩, ⟨bl1 HB GE608⟩⟩
 clear HC4
 try clear p2
 try clear c3
 try clear c7
 try clear c9
 try clear hcz11_0
 try clear hcz11_1
 try clear hcz13_0
 try clear hcz13_1
 try clear hcz15_0
 try clear hcz15_1
 try clear hfz11_0
 try clear hfz11_1
 try clear hfz13_0
 try clear hfz13_1
 try clear hfz15_0
 try clear hfz15_1
 obtain ⟨kq, x22_3, rfl, HA, HJ3, BK608, HB⟩ := hcut
 cases kq with
 | zero => exact absurd HA.out (by simp [impl_CostOf.j0])
 | succ kj3 =>
  have H := HA.out
  clear HA
  simp only [impl_CostOf.j0] at H
  by_cases c17 : x22_3 = true
  ·subst c17
   rw [if_pos rfl] at H
   obtain rfl := Option.some.inj H
   go_wp2
   go_ret
   exact ⟨_, by rfl, by exact Kd.R_nil _ _ _ _ _, bl1 HB GE608⟩
  replace c17 := Bool.eq_false_iff.mpr c17
  subst c17
  rw [if_neg (show ¬ (false = true) by decide)] at H
  by_cases c18 : ((l0_1.length : Int) : Int).toNat ≤ 35184372088832
  rotate_left
  ·rw [if_neg c18] at H
   exact absurd H (by simp)
  rw [if_pos c18] at H
  have c18b0 := eq_true c18
  have c18b1 : decide (((l0_1.length : Int) : Int).toNat ≤ 35184372088832) = true := decide_eq_true c18
  clear c18
  obtain ⟨y612, hy612⟩ : ∃ y_ : List Int, y_ = (([] : List Int)) := ⟨_, rfl⟩
  replace H : (impl_CostOf.l0 kj3 a1 a2 y612 l0_1 (l0_1.length : Int) 0) = some r := by (rw [hy612]; with_reducible exact H)
  have Ny612 := ak hy612
  clear hy612
  have H' := ak H
  clear H
  have hcz19_0 := bc wc BK608 0 (.int .i64 a0_0) rfl
  have hcz19_1 := bc wc BK608 1 (.slice A0_1 l0_1.length c0_1) rfl
  have hfz19_0 := fz BK608 0
  have hfz19_1 := fz BK608 1
  go_wp2_with (((with_reducible refine gate_dst (N := 26) rfl ?_); refine Kd.R_make0 (Kd.int .i64) _ 3 rfl (N := 26) rfl 26 _ _ rfl (l0_1.length : Int) rfl rfl Try.underlying26 (.int .i64 0) 8 info3 (by decide) (ok := fun _ => True) trivial (by omega) (Nat.le_trans (Nat.mul_le_mul_right _ (oT (by (with_reducible assumption)) : (l0_1.length : Int).toNat ≤ 35184372088832)) (by omega)) (Below.refl _ _) (Nat.le_refl _) ?_; intro v613 w20 ho21 hb hg_ hnew_; clear hg_ hnew_; (rw [← Ny612.out] at ho21); have HO614 := ak (Kd.R_lower ho21 (below_size (bl1 HB GE608))); replace BK608 := ak (blk_below (bk BK608) hb); replace HB := ak (below_step (bl1 HB GE608) hb); clear hb ho21; have hcz22_0 := bc w20 BK608 0 (.int .i64 a0_0) rfl; have hcz22_1 := bc w20 BK608 1 (.slice A0_1 l0_1.length c0_1) rfl; have hfz22_0 := fz BK608 0; have hfz22_1 := fz BK608 1))
  go_loopg [7, 30] kj3 (fun kq v7 v30 w' => ∃ (x7_2 : List Int) (x30_2 : Int), v30 = .int .i64 x30_2 ∧ Aside0 (impl_CostOf.l0 kq a1 a2 x7_2 l0_1 (l0_1.length : Int) x30_2 = some r) ∧ Aside0 (kq ≤ kj3) ∧ Aside0 (Kd.R (Kd.int .i64) 3 w' w.heap.size (fun _ => True) v7 x7_2) ∧ Aside0 (w'.heap[gb608]? = some (.cells #[.int .i64 a0_0, (.slice A0_1 l0_1.length c0_1)] 25 (0, 0))) ∧ Aside0 (Below w.heap.size w w'))
  case atStart => exact ⟨(y612), (0), (by rfl), H', ⟨Nat.le_refl _⟩, ⟨rk HO614⟩, ⟨bk BK608⟩, ⟨bl1 HB GE608⟩⟩
  clear H'
  try clear c1
  try clear p2
  try clear c3
  try clear c7
  try clear c9
  try clear c17
  try clear c18
  try clear c18b0
  try clear c18b1
  try clear hcz11_0
  try clear hcz11_1
  try clear hcz13_0
  try clear hcz13_1
  try clear hcz15_0
  try clear hcz15_1
  try clear hcz19_0
  try clear hcz19_1
  try clear hcz22_0
  try clear hcz22_1
  try clear hfz11_0
  try clear hfz11_1
  try clear hfz13_0
  try clear hfz13_1
  try clear hfz15_0
  try clear hfz15_1
  try clear hfz19_0
  try clear hfz19_1
  try clear hfz22_0
  try clear hfz22_1
  try clear p2
  obtain ⟨x7_2, x30_2, rfl, HA, HK2, HO_7, BK608, HB⟩ := hrel
  cases gk with
  | zero => exact absurd HA.out (by simp [impl_CostOf.l0])
  | succ k2 =>
   have H := HA.out
   clear HA
   simp only [impl_CostOf.l0] at H
   by_cases c23 : x30_2 < (l0_1.length : Int)
   rotate_left
   ·rw [if_neg c23] at H
    have c23b0 : decide (x30_2 < (l0_1.length : Int)) = false := decide_eq_false c23
    clear c23
    obtain rfl := Option.some.inj H
    go_wp2
    go_ret
    exact ⟨_, by rfl, rk HO_7, bl1 HB GE608⟩
   rw [if_pos c23] at H
   have c23b0 : decide (x30_2 < (l0_1.length : Int)) = true := decide_eq_true c23
   clear c23
   by_cases c24 : 0 ≤ x30_2
   rotate_left
   ·rw [if_neg c24] at H
    exact absurd H (by simp)
   rw [if_pos c24] at H
   have c24b0 : decide (0 ≤ x30_2) = true := decide_eq_true c24
   clear c24
   by_cases c25 : x30_2 < (l0_1.length : Int)
   rotate_left
   ·rw [if_neg c25] at H
    exact absurd H (by simp)
   rw [if_pos c25] at H
   have c25b0 : decide (x30_2 < (l0_1.length : Int)) = true := decide_eq_true c25
   clear c25
   obtain ⟨ji26, hji26⟩ : ∃ j_ : Int, (mn (wrap64 (Int.tdiv (wrap64 ((wrap64 (((rd_T33 l0_1 x30_2).f2) * a1)) + (wrap64 (((rd_T33 l0_1 x30_2).f3) * a2)))) 100)) 99) = j_ := ⟨_, rfl⟩
   replace H : (if x7_2.length < 17592186044416 then (impl_CostOf.l0 k2 a1 a2 (x7_2 ++ [ji26]) l0_1 (l0_1.length : Int) (wrap64 (x30_2 + 1))) else (none)) = some r := by (rw [hji26] at H; exact H)
   have hji26_ : (if 99 < (wrap64 (Int.tdiv (wrap64 ((wrap64 (((rd_T33 l0_1 x30_2).f2) * a1)) + (wrap64 (((rd_T33 l0_1 x30_2).f3) * a2)))) 100)) then 99 else (wrap64 (Int.tdiv (wrap64 ((wrap64 (((rd_T33 l0_1 x30_2).f2) * a1)) + (wrap64 (((rd_T33 l0_1 x30_2).f3) * a2)))) 100))) = ji26 := hji26
   by_cases c27 : x7_2.length < 17592186044416
   rotate_left
   ·rw [if_neg c27] at H
    exact absurd H (by simp)
   rw [if_pos c27] at H
   have LMc27 := ak c27
   clear c27
   obtain ⟨y617, hy617⟩ : ∃ y_ : List Int, y_ = (x7_2 ++ [ji26]) := ⟨_, rfl⟩
   replace H : (impl_CostOf.l0 k2 a1 a2 y617 l0_1 (l0_1.length : Int) (wrap64 (x30_2 + 1))) = some r := by (rw [hy617]; with_reducible exact H)
   have Ny617 := ak hy617
   clear hy617
   have H' := ak H
   clear H
   have p615 : 0 ≤ (x30_2 : Int) := oT (by (with_reducible assumption))
   have q615 : x30_2 < (l0_1.length : Int) := oT (by (with_reducible assumption))
   obtain ⟨ad615, e615, hx615_0, hx615_1, hx615_2, hx615_3, hx615_4⟩ := at_T33 HR0_1.out x30_2 p615 q615
   cases e615
   replace hx615_0 := hcb HB.out hx615_0
   replace hx615_1 := hcb HB.out hx615_1
   replace hx615_2 := hcb HB.out hx615_2
   replace hx615_3 := hcb HB.out hx615_3
   replace hx615_4 := hcb HB.out hx615_4
   replace p615 := eq_true p615
   replace q615 := eq_true q615
   go_wp2_with (first | ((with_reducible refine gate_dst (N := 9) rfl ?_); refine box_event ?hg (N := 9) ?hd (cs := #[.int .i64 0, .int .i64 0, .int .i64 0, .int .i64 0, .int .i64 0]) (t := 33) ?hr ?_; (case hd => rfl); (case hg => rfl); (case hr => (go_simp; done)); intro gb616 hg w28 hbox hb; replace HO_7 := ak (Kd.R_below (rk HO_7) hb); have BK616 := ak (hbox); have GW616 := ak ((by rw [hg]; exact (below_size (bl1 HB GE608)) : w.heap.size ≤ gb616)); have GE616 := ak ((by rw [hg]; exact (below_size (bl1 HB GE608)) : w.heap.size ≤ gb616)); replace HB := ak (below_step (bl1 HB GE608) hb); have NB608_616 := ak ((by rw [hg]; exact Nat.ne_of_lt (blk_lt (bk BK608)) : gb608 ≠ gb616)); have NB616_608 := ak ((by rw [hg]; exact Nat.ne_of_gt (blk_lt (bk BK608)) : gb616 ≠ gb608)); replace BK608 := ak (blk_below (bk BK608) hb); clear hb hbox hg; have hnb29 := NB616_608.out; have hnc29 := NB608_616.out; have hcz30_0 := bc w28 BK616 0 (.int .i64 0) rfl; have hcz30_1 := bc w28 BK616 1 (.int .i64 0) rfl; have hcz30_2 := bc w28 BK616 2 (.int .i64 0) rfl; have hcz30_3 := bc w28 BK616 3 (.int .i64 0) rfl; have hcz30_4 := bc w28 BK616 4 (.int .i64 0) rfl; have hfz30_0 := fz BK616 0; have hfz30_1 := fz BK616 1; have hfz30_2 := fz BK616 2; have hfz30_3 := fz BK616 3; have hfz30_4 := fz BK616 4) | ((with_reducible refine gate_builtin (b := .append) (xs := #[.tmp 34, .tmp 46]) rfl ?_); at_builtin; refine Kd.R_append (Kd.int .i64) (w0 := w) w.heap.size rfl (.tmp 34) (.tmp 46) 26 3 (.int .i64 0) 8 rfl Try.underlying26 info3 rfl (by decide) (by omega) u7 x7_2 ji26 [.int .i64 ji26] (fun _ => True) (fun _ => False) rfl (by (go_simp; done)) ?aP (fun _ hk => hk.elim) ?aF ?aO ?aB ?aS ?aL ?_; (case aP => exact rfl); (case aB => exact (bl2 HB GE608 GE616)); (case aF => exact (fun _ _ => trivial)); (case aO => exact (by exact Kd.R_mono (Kd.R_far (p := ⟨gb616, 4, none⟩) (Kd.R_far (p := ⟨gb616, 3, none⟩) (Kd.R_far (p := ⟨gb616, 2, none⟩) (Kd.R_far (p := ⟨gb616, 1, none⟩) (Kd.R_far (p := ⟨gb616, 0, none⟩) (Kd.R_types HO_7.out BK616.out (by decide)) (fun _ hk => hk.2) (.int .i64 ((rd_T33 l0_1 x30_2).f0))) (fun _ hk => hk.2) (.int .i64 ((rd_T33 l0_1 x30_2).f1))) (fun _ hk => hk.2) (.int .i64 ((rd_T33 l0_1 x30_2).f2))) (fun _ hk => hk.2) (.int .i64 ((rd_T33 l0_1 x30_2).f3))) (fun _ hk => hk.2) (.int .i64 ((rd_T33 l0_1 x30_2).f4))) (fun _ hk => trivial))); (case aS => exact (below_size (bl2 HB GE608 GE616))); (case aL => have := LMc27.out; omega); intro v618 w31 ho hb hg hat; rw [← Ny617.out] at ho; have n0_ := ak (blk_grown (g := gb608) (o := .cells #[.int .i64 a0_0, .slice (some ad615) l0_1.length c0_1] 25 (0, 0)) (by refine blk_far ?_ NB608_616.out _; refine blk_far ?_ NB608_616.out _; refine blk_far ?_ NB608_616.out _; refine blk_far ?_ NB608_616.out _; refine blk_far ?_ NB608_616.out _; exact BK608.out) hg (Kd.R_ne HO_7.out BK608.out (by decide))); have n1_ := ak (blk_grown (g := gb616) (o := .cells #[.int .i64 ((rd_T33 l0_1 x30_2).f0), .int .i64 ((rd_T33 l0_1 x30_2).f1), .int .i64 ((rd_T33 l0_1 x30_2).f2), .int .i64 ((rd_T33 l0_1 x30_2).f3), .int .i64 ((rd_T33 l0_1 x30_2).f4)] 33 (0, 0)) (by refine blk_put (cs := #[.int .i64 ((rd_T33 l0_1 x30_2).f0), .int .i64 ((rd_T33 l0_1 x30_2).f1), .int .i64 ((rd_T33 l0_1 x30_2).f2), .int .i64 ((rd_T33 l0_1 x30_2).f3), .int .i64 0]) ?_ 4 _ rfl; refine blk_put (cs := #[.int .i64 ((rd_T33 l0_1 x30_2).f0), .int .i64 ((rd_T33 l0_1 x30_2).f1), .int .i64 ((rd_T33 l0_1 x30_2).f2), .int .i64 0, .int .i64 0]) ?_ 3 _ rfl; refine blk_put (cs := #[.int .i64 ((rd_T33 l0_1 x30_2).f0), .int .i64 ((rd_T33 l0_1 x30_2).f1), .int .i64 0, .int .i64 0, .int .i64 0]) ?_ 2 _ rfl; refine blk_put (cs := #[.int .i64 ((rd_T33 l0_1 x30_2).f0), .int .i64 0, .int .i64 0, .int .i64 0, .int .i64 0]) ?_ 1 _ rfl; refine blk_put (cs := #[.int .i64 0, .int .i64 0, .int .i64 0, .int .i64 0, .int .i64 0]) ?_ 0 _ rfl; exact BK616.out) hg (Kd.R_ne HO_7.out BK616.out (by decide))); have n2_ := ak (hb); have n3_ := ak (ho); clear BK608; clear BK616; clear HB; clear HO_7; have BK608 := n0_; have BK616 := n1_; have HB := n2_; have HO619 := n3_; clear n0_ n1_ n2_ n3_; clear ho hb hg hat))
   go_roundg k2
   case measure => have := HJ3.out; have := HK2.out; omega
   case rel => exact ⟨(y617), (wrap64 (x30_2 + 1)), (by rfl), H', ⟨by have := HJ3.out; have := HK2.out; omega⟩, ⟨rk HO619⟩, ⟨bk BK608⟩, ⟨bl2 HB GE608 GE616⟩⟩

end Go.Proofs.Ytddkaiegnohkcaa.F
