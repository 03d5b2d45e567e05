-- Printed by wip/px/px.py of this claim's repository (the kit's printer, extended there). Lean checks it.
import Derived.Test.YtgickejeakmenaaFKinds
namespace Go.Proofs.Ytgickejeakmenaa.F
open Go.RowKit Go.Proofs.YtgickejeakmenaaW.PrintWords Go.Proofs.YtgickejeakmenaaW.PrintLast Go.Proofs.YtgickejeakmenaaW.PrintMore
attribute [local go_sem] max2_int min2_int max_two min_two max_three min_three max_four min_four   -- for this text's walks alone
set_option linter.unusedVariables false
set_option linter.unusedSimpArgs false

/-! ### impl_chosen: function 69 -/
def impl_chosen.l0 : Nat → List Int → List Int → List Int → Int → Int → Option (List Int)
 | 0, _, _, _, _, _ => none
 | k + 1, x0, x5, x11, x12, x13 => if x13 < x12 then (if 0 ≤ x13 then (if x13 < (x11.length : Int) then (if 0 ≤ (rd x11 x13) then (if (rd x11 x13) < (x0.length : Int) then (if x5.length < 17592186044416 then (impl_chosen.l0 k x0 (x5 ++ [rd x0 (rd x11 x13)]) x11 x12 (wrap64 (x13 + 1))) else (none)) else (none)) else (none)) else (none)) else (none)) else (some x5)
def impl_chosen.f (k : Nat) (l0 : List Int) (l1 : List Int) : Option (List Int) := if ((l1.length : Int) : Int).toNat ≤ 35184372088832 then (impl_chosen.l0 k l0 (([] : List Int)) l1 (l1.length : Int) 0) else (none)
theorem impl_chosen.mono_l : ∀ k, (∀ y0 y1 y2 y3 y4, LeO (impl_chosen.l0 k y0 y1 y2 y3 y4) (impl_chosen.l0 (k + 1) y0 y1 y2 y3 y4))
 | 0 => fun _ _ _ _ _ r h => by simp [impl_chosen.l0] at h
 | k + 1 => by
  have ih0 := impl_chosen.mono_l k
  ·intro y0 y1 y2 y3 y4
   unfold impl_chosen.l0
   repeat' first | (with_reducible exact ih0 _ _ _ _ _) | (with_reducible exact LeO.refl _) | (with_reducible refine LeO.ite ?_ ?_)
theorem impl_chosen.mono : ∀ a0 a1 k, LeO (impl_chosen.f k a0 a1) (impl_chosen.f (k + 1) a0 a1) := by
 intro a0 a1 k
 have ih0 := impl_chosen.mono_l k
 unfold impl_chosen.f
 repeat' first | (with_reducible exact ih0 _ _ _ _ _) | (with_reducible exact LeO.refl _) | (with_reducible refine LeO.ite ?_ ?_)
set_option maxHeartbeats 8000000 in
set_option maxRecDepth 100000 in
theorem impl_chosen.calls (k : Nat) (A0 : Option Addr) (c0 : Nat) (l0 : List Int) (A1 : Option Addr) (c1 : Nat) (l1 : List Int) (r : List Int) (w : World) (hr0 : Kd.C (Kd.int .i64) w A0 l0.length l0) (hc0 : l0.length ≤ c0) (hr1 : Kd.C (Kd.int .i64) w A1 l1.length l1) (hc1 : l1.length ≤ c1) (h : impl_chosen.f k l0 l1 = some r) :
  Calls Try.prog 69 #[.slice A0 l0.length c0, .slice A1 l1.length c1] w fun e w' => ∃ v0_ : Value, e = .returned (v0_) ∧ Kd.R (Kd.int .i64) 3 w' w.heap.size (fun _ => True) v0_ r ∧ Below w.heap.size w w' := by
 have HR0 := ak hr0
 have HC0 := ak hc0
 clear hr0 hc0
 have HR1 := ak hr1
 have HC1 := ak hc1
 clear hr1 hc1
 have HB := ak (Below.refl w.heap.size w)
 have H : (if ((l1.length : Int) : Int).toNat ≤ 35184372088832 then (impl_chosen.l0 k l0 (([] : List Int)) l1 (l1.length : Int) 0) else (none)) = some r := h
 clear h
 by_cases c3 : ((l1.length : Int) : Int).toNat ≤ 35184372088832
 rotate_left
 ·rw [if_neg c3] at H
  exact absurd H (by simp)
 rw [if_pos c3] at H
 have c3b0 := eq_true c3
 have c3b1 : decide (((l1.length : Int) : Int).toNat ≤ 35184372088832) = true := decide_eq_true c3
 clear c3
 obtain ⟨y557, hy557⟩ : ∃ y_ : List Int, y_ = (([] : List Int)) := ⟨_, rfl⟩
 replace H : (impl_chosen.l0 k l0 y557 l1 (l1.length : Int) 0) = some r := by (rw [hy557]; with_reducible exact H)
 have Ny557 := ak hy557
 clear hy557
 have H' := ak H
 clear H
 go_enter Try.func69, Try.ntmps69
 go_wp2_with (((with_reducible refine gate_dst (N := 10) rfl ?_); refine Kd.R_make0 (Kd.int .i64) _ 3 rfl (N := 10) rfl 26 _ _ rfl (l1.length : Int) rfl rfl Try.underlying26 (.int .i64 0) 8 info3 (by decide) (ok := fun _ => True) trivial (by omega) (Nat.le_trans (Nat.mul_le_mul_right _ (oT (by (with_reducible assumption)) : (l1.length : Int).toNat ≤ 35184372088832)) (by omega)) (Below.refl _ _) (Nat.le_refl _) ?_; intro v558 w4 ho5 hb hg_ hnew_; clear hg_ hnew_; (rw [← Ny557.out] at ho5); have HO559 := ak (Kd.R_lower ho5 (below_size (bl HB))); replace HB := ak (below_step (bl HB) hb); clear hb ho5))
 go_loopg [5, 13] k (fun kq v5 v13 w' => ∃ (x5_1 : List Int) (x13_1 : Int), v13 = .int .i64 x13_1 ∧ Aside0 (impl_chosen.l0 kq l0 x5_1 l1 (l1.length : Int) x13_1 = some r) ∧ Aside0 (kq ≤ k) ∧ Aside0 (Kd.R (Kd.int .i64) 3 w' w.heap.size (fun _ => True) v5 x5_1) ∧ Aside0 (Below w.heap.size w w'))
 case atStart => exact ⟨(y557), (0), (by rfl), H', ⟨Nat.le_refl _⟩, ⟨rk HO559⟩, ⟨bl HB⟩⟩
 clear H'
 try clear c1
 try clear p2
 try clear c3
 try clear c3b0
 try clear c3b1
 obtain ⟨x5_1, x13_1, rfl, HA, HK1, HO_5, HB⟩ := hrel
 cases gk with
 | zero => exact absurd HA.out (by simp [impl_chosen.l0])
 | succ k1 =>
  have H := HA.out
  clear HA
  simp only [impl_chosen.l0] at H
  by_cases c6 : x13_1 < (l1.length : Int)
  rotate_left
  ·rw [if_neg c6] at H
   have c6b0 : decide (x13_1 < (l1.length : Int)) = false := decide_eq_false c6
   clear c6
   obtain rfl := Option.some.inj H
   go_wp2
   go_ret
   exact ⟨_, by rfl, rk HO_5, bl HB⟩
  rw [if_pos c6] at H
  have c6b0 : decide (x13_1 < (l1.length : Int)) = true := decide_eq_true c6
  clear c6
  by_cases c7 : 0 ≤ x13_1
  rotate_left
  ·rw [if_neg c7] at H
   exact absurd H (by simp)
  rw [if_pos c7] at H
  have c7b0 : decide (0 ≤ x13_1) = true := decide_eq_true c7
  clear c7
  by_cases c8 : x13_1 < (l1.length : Int)
  rotate_left
  ·rw [if_neg c8] at H
   exact absurd H (by simp)
  rw [if_pos c8] at H
  have c8b0 : decide (x13_1 < (l1.length : Int)) = true := decide_eq_true c8
  clear c8
  by_cases c9 : 0 ≤ (rd l1 x13_1)
  rotate_left
  ·rw [if_neg c9] at H
   exact absurd H (by simp)
  rw [if_pos c9] at H
  have c9b0 : decide (0 ≤ (rd l1 x13_1)) = true := decide_eq_true c9
  clear c9
  by_cases c10 : (rd l1 x13_1) < (l0.length : Int)
  rotate_left
  ·rw [if_neg c10] at H
   exact absurd H (by simp)
  rw [if_pos c10] at H
  have c10b0 : decide ((rd l1 x13_1) < (l0.length : Int)) = true := decide_eq_true c10
  clear c10
  by_cases c11 : x5_1.length < 17592186044416
  rotate_left
  ·rw [if_neg c11] at H
   exact absurd H (by simp)
  rw [if_pos c11] at H
  have LMc11 := ak c11
  clear c11
  obtain ⟨y562, hy562⟩ : ∃ y_ : List Int, y_ = (x5_1 ++ [rd l0 (rd l1 x13_1)]) := ⟨_, rfl⟩
  replace H : (impl_chosen.l0 k1 l0 y562 l1 (l1.length : Int) (wrap64 (x13_1 + 1))) = some r := by (rw [hy562]; with_reducible exact H)
  have Ny562 := ak hy562
  clear hy562
  have H' := ak H
  clear H
  have p560 : 0 ≤ (x13_1 : Int) := oT (by (with_reducible assumption))
  have q560 : x13_1 < (l1.length : Int) := oT (by (with_reducible assumption))
  obtain ⟨ad560, e560, hx560_0⟩ := Kd.at_int HR1.out x13_1 p560 q560
  cases e560
  replace hx560_0 := hcb HB.out hx560_0
  replace p560 := eq_true p560
  replace q560 := eq_true q560
  have p561 : 0 ≤ ((rd l1 x13_1) : Int) := oT (by (with_reducible assumption))
  have q561 : (rd l1 x13_1) < (l0.length : Int) := oT (by (with_reducible assumption))
  obtain ⟨ad561, e561, hx561_0⟩ := Kd.at_int HR0.out (rd l1 x13_1) p561 q561
  cases e561
  replace hx561_0 := hcb HB.out hx561_0
  replace p561 := eq_true p561
  replace q561 := eq_true q561
  go_wp2_with (((with_reducible refine gate_builtin (b := .append) (xs := #[.tmp 17, .tmp 22]) rfl ?_); at_builtin; refine Kd.R_append (Kd.int .i64) (w0 := w) w.heap.size rfl (.tmp 17) (.tmp 22) 26 3 (.int .i64 0) 8 rfl Try.underlying26 info3 rfl (by decide) (by omega) u5 x5_1 (rd l0 (rd l1 x13_1)) [.int .i64 (rd l0 (rd l1 x13_1))] (fun _ => True) (fun _ => False) rfl rfl ?aP (fun _ hk => hk.elim) ?aF ?aO ?aB ?aS ?aL ?_; (case aP => exact rfl); (case aB => exact (bl HB)); (case aF => exact (fun _ _ => trivial)); (case aO => exact (rk HO_5)); (case aS => exact (below_size (bl HB))); (case aL => have := LMc11.out; omega); intro v563 w12 ho hb hg hat; rw [← Ny562.out] at ho; have n0_ := ak (hb); have n1_ := ak (ho); clear HB; clear HO_5; have HB := n0_; have HO564 := n1_; clear n0_ n1_; clear ho hb hg hat))
  go_roundg k1
  case measure => have := HK1.out; omega
  case rel => exact ⟨(y562), (wrap64 (x13_1 + 1)), (by rfl), H', ⟨by have := HK1.out; omega⟩, ⟨rk HO564⟩, ⟨bl HB⟩⟩

end Go.Proofs.Ytgickejeakmenaa.F
