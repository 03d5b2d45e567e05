-- Printed by wip/px/px.py of this claim's repository (the kit's printer, extended there). Lean checks it.
import Derived.Test.YtgickejeakmenaaFKinds
namespace Go.Proofs.Ytgickejeakmenaa.F
open Go.RowKit Go.Proofs.YtgickejeakmenaaW.PrintWords Go.Proofs.YtgickejeakmenaaW.PrintLast Go.Proofs.YtgickejeakmenaaW.PrintMore
attribute [local go_sem] max2_int min2_int max_two min_two max_three min_three max_four min_four   -- for this text's walks alone
set_option linter.unusedVariables false
set_option linter.unusedSimpArgs false

/-! ### impl_around: function 53 -/
def impl_around.l0 : Nat → List (List Int) → List Int → Int → List Int → Int → Int → Option (Int)
 | 0, _, _, _, _, _, _ => none
 | k + 1, x0, x1, x5, x9, x10, x11 => if x11 < x10 then (if 0 ≤ x11 then (if x11 < (x9.length : Int) then (if 0 ≤ (rd x9 x11) then (if (rd x9 x11) < (x0.length : Int) then (if (x1.length : Int) = 0 then (none) else (if 0 ≤ (Int.tmod (wrap64 (x11 + 1)) (x1.length : Int)) then (if (Int.tmod (wrap64 (x11 + 1)) (x1.length : Int)) < (x1.length : Int) then (if 0 ≤ (rd x1 (Int.tmod (wrap64 (x11 + 1)) (x1.length : Int))) then (if (rd x1 (Int.tmod (wrap64 (x11 + 1)) (x1.length : Int))) < ((rd_L3 x0 (rd x9 x11)).length : Int) then (if (rd (rd_L3 x0 (rd x9 x11)) (rd x1 (Int.tmod (wrap64 (x11 + 1)) (x1.length : Int)))) = 99999 then (some 99999) else (impl_around.l0 k x0 x1 (wrap64 (x5 + (rd (rd_L3 x0 (rd x9 x11)) (rd x1 (Int.tmod (wrap64 (x11 + 1)) (x1.length : Int)))))) x9 x10 (wrap64 (x11 + 1)))) else (none)) else (none)) else (none)) else (none))) else (none)) else (none)) else (none)) else (none)) else (some x5)
def impl_around.f (k : Nat) (l0 : List (List Int)) (l1 : List Int) : Option (Int) := impl_around.l0 k l0 l1 0 l1 (l1.length : Int) 0
theorem impl_around.mono_l : ∀ k, (∀ y0 y1 y2 y3 y4 y5, LeO (impl_around.l0 k y0 y1 y2 y3 y4 y5) (impl_around.l0 (k + 1) y0 y1 y2 y3 y4 y5))
 | 0 => fun _ _ _ _ _ _ r h => by simp [impl_around.l0] at h
 | k + 1 => by
  have ih0 := impl_around.mono_l k
  ·intro y0 y1 y2 y3 y4 y5
   unfold impl_around.l0
   repeat' first | (with_reducible exact ih0 _ _ _ _ _ _) | (with_reducible exact LeO.refl _) | (with_reducible refine LeO.ite ?_ ?_)
theorem impl_around.mono : ∀ a0 a1 k, LeO (impl_around.f k a0 a1) (impl_around.f (k + 1) a0 a1) := by
 intro a0 a1 k
 have ih0 := impl_around.mono_l k
 unfold impl_around.f
 repeat' (with_reducible exact ih0 _ _ _ _ _ _)
set_option maxHeartbeats 8000000 in
set_option maxRecDepth 100000 in
theorem impl_around.calls (k : Nat) (A0 : Option Addr) (c0 : Nat) (l0 : List (List Int)) (A1 : Option Addr) (c1 : Nat) (l1 : List Int) (r : Int) (w : World) (hr0 : Kd.C (Kd.slice 3 (Kd.int .i64)) w A0 l0.length l0) (hc0 : l0.length ≤ c0) (hr1 : Kd.C (Kd.int .i64) w A1 l1.length l1) (hc1 : l1.length ≤ c1) (h : impl_around.f k l0 l1 = some r) :
  Calls Try.prog 53 #[.slice A0 l0.length c0, .slice A1 l1.length c1] w fun e w' => e = .returned (.int .i64 r) ∧ Drawn0 w w' := by
 have HR0 := ak hr0
 have HC0 := ak hc0
 clear hr0 hc0
 have HR1 := ak hr1
 have HC1 := ak hc1
 clear hr1 hc1
 have H : (impl_around.l0 k l0 l1 0 l1 (l1.length : Int) 0) = some r := h
 clear h
 have H' := ak H
 clear H
 go_enter Try.func53, Try.ntmps53
 go_wp2
 repeat (go_quiet (fail); try go_wp2)
 go_loopg [5, 11] k (fun kq v5 v11 w' => ∃ (x5_1 : Int) (x11_1 : Int), v5 = .int .i64 x5_1 ∧ v11 = .int .i64 x11_1 ∧ Aside0 (impl_around.l0 kq l0 l1 x5_1 l1 (l1.length : Int) x11_1 = some r) ∧ Aside0 (kq ≤ k) ∧ Drawn0 w w')
 case atStart => exact ⟨(0), (0), (by rfl), (by rfl), H', ⟨Nat.le_refl _⟩, by repeat (exact Drawn0.refl _)⟩
 clear H'
 try clear c1
 try clear p2
 obtain ⟨x5_1, x11_1, rfl, rfl, HA, HK1, ⟨m1, rfl⟩⟩ := hrel
 cases gk with
 | zero => exact absurd HA.out (by simp [impl_around.l0])
 | succ k1 =>
  have H := HA.out
  clear HA
  simp only [impl_around.l0] at H
  by_cases c3 : x11_1 < (l1.length : Int)
  rotate_left
  ·rw [if_neg c3] at H
   have c3b0 : decide (x11_1 < (l1.length : Int)) = false := decide_eq_false c3
   clear c3
   obtain rfl := Option.some.inj H
   go_wp2
   repeat (go_quiet (fail); try go_wp2)
   go_ret
   exact ⟨by rfl, by repeat (first | exact Drawn0.refl _ | apply Drawn0.step)⟩
  rw [if_pos c3] at H
  have c3b0 : decide (x11_1 < (l1.length : Int)) = true := decide_eq_true c3
  clear c3
  by_cases c4 : 0 ≤ x11_1
  rotate_left
  ·rw [if_neg c4] at H
   exact absurd H (by simp)
  rw [if_pos c4] at H
  have c4b0 : decide (0 ≤ x11_1) = true := decide_eq_true c4
  clear c4
  by_cases c5 : x11_1 < (l1.length : Int)
  rotate_left
  ·rw [if_neg c5] at H
   exact absurd H (by simp)
  rw [if_pos c5] at H
  have c5b0 : decide (x11_1 < (l1.length : Int)) = true := decide_eq_true c5
  clear c5
  by_cases c6 : 0 ≤ (rd l1 x11_1)
  rotate_left
  ·rw [if_neg c6] at H
   exact absurd H (by simp)
  rw [if_pos c6] at H
  have c6b0 : decide (0 ≤ (rd l1 x11_1)) = true := decide_eq_true c6
  clear c6
  by_cases c7 : (rd l1 x11_1) < (l0.length : Int)
  rotate_left
  ·rw [if_neg c7] at H
   exact absurd H (by simp)
  rw [if_pos c7] at H
  have c7b0 : decide ((rd l1 x11_1) < (l0.length : Int)) = true := decide_eq_true c7
  clear c7
  by_cases c8 : (l1.length : Int) = 0
  ·rw [if_pos c8] at H
   exact absurd H (by simp)
  rw [if_neg c8] at H
  have c8b0 : ((l1.length : Int) == 0) = false := beq_eq_false_iff_ne.mpr c8
  have c8b1 : ((l1.length : Int) != 0) = true := bne_iff_ne.mpr c8
  have c8b2 : ¬ (l1 = []) := fun h_ => c8 (by rw [h_]; rfl)
  obtain ⟨ji9, hji9⟩ : ∃ j_ : Int, (Int.tmod (wrap64 (x11_1 + 1)) (l1.length : Int)) = j_ := ⟨_, rfl⟩
  replace H : (if 0 ≤ (ji9) then (if (ji9) < (l1.length : Int) then (if 0 ≤ (rd l1 (ji9)) then (if (rd l1 (ji9)) < ((rd_L3 l0 (rd l1 x11_1)).length : Int) then (if (rd (rd_L3 l0 (rd l1 x11_1)) (rd l1 (ji9))) = 99999 then (some 99999) else (impl_around.l0 k1 l0 l1 (wrap64 (x5_1 + (rd (rd_L3 l0 (rd l1 x11_1)) (rd l1 (ji9))))) l1 (l1.length : Int) (wrap64 (x11_1 + 1)))) else (none)) else (none)) else (none)) else (none)) = some r := by (rw [hji9] at H; exact H)
  by_cases c10 : 0 ≤ (ji9)
  rotate_left
  ·rw [if_neg c10] at H
   exact absurd H (by simp)
  rw [if_pos c10] at H
  have c10b0 : decide (0 ≤ (ji9)) = true := decide_eq_true c10
  clear c10
  by_cases c11 : (ji9) < (l1.length : Int)
  rotate_left
  ·rw [if_neg c11] at H
   exact absurd H (by simp)
  rw [if_pos c11] at H
  have c11b0 : decide ((ji9) < (l1.length : Int)) = true := decide_eq_true c11
  clear c11
  by_cases c12 : 0 ≤ (rd l1 (ji9))
  rotate_left
  ·rw [if_neg c12] at H
   exact absurd H (by simp)
  rw [if_pos c12] at H
  have c12b0 : decide (0 ≤ (rd l1 (ji9))) = true := decide_eq_true c12
  clear c12
  by_cases c13 : (rd l1 (ji9)) < ((rd_L3 l0 (rd l1 x11_1)).length : Int)
  rotate_left
  ·rw [if_neg c13] at H
   exact absurd H (by simp)
  rw [if_pos c13] at H
  have c13b0 : decide ((rd l1 (ji9)) < ((rd_L3 l0 (rd l1 x11_1)).length : Int)) = true := decide_eq_true c13
  clear c13
  by_cases c14 : (rd (rd_L3 l0 (rd l1 x11_1)) (rd l1 (ji9))) = 99999
  ·rw [if_pos c14] at H
   have c14b0 : ((rd (rd_L3 l0 (rd l1 x11_1)) (rd l1 (ji9))) == 99999) = true := beq_iff_eq.mpr c14
   have c14b1 : ((rd (rd_L3 l0 (rd l1 x11_1)) (rd l1 (ji9))) != 99999) = false := bne_eq_false_iff_eq.mpr c14
   clear c14
   obtain rfl := Option.some.inj H
   have p214 : 0 ≤ (x11_1 : Int) := oT (by (with_reducible assumption))
   have q214 : x11_1 < (l1.length : Int) := oT (by (with_reducible assumption))
   obtain ⟨ad214, e214, hx214_0⟩ := Kd.at_int HR1.out x11_1 p214 q214
   cases e214
   replace p214 := eq_true p214
   replace q214 := eq_true q214
   have p215 : 0 ≤ ((rd l1 x11_1) : Int) := oT (by (with_reducible assumption))
   have q215 : (rd l1 x11_1) < (l0.length : Int) := oT (by (with_reducible assumption))
   obtain ⟨ad215, A215_0, c215_0, e215, hx215_0, hl215_0, hi215_0⟩ := at_L3 HR0.out (rd l1 x11_1) p215 q215
   cases e215
   have HR215_0 := ak hi215_0
   have HC215_0 := ak hl215_0
   clear hi215_0 hl215_0
   replace p215 := eq_true p215
   replace q215 := eq_true q215
   have p216 : 0 ≤ ((ji9) : Int) := oT (by (with_reducible assumption))
   have q216 : (ji9) < (l1.length : Int) := oT (by (with_reducible assumption))
   obtain ⟨ad216, e216, hx216_0⟩ := Kd.at_int HR1.out (ji9) p216 q216
   obtain rfl : ad214 = ad216 := (by injection e216)
   replace p216 := eq_true p216
   replace q216 := eq_true q216
   have p217 : 0 ≤ ((rd l1 (ji9)) : Int) := oT (by (with_reducible assumption))
   have q217 : (rd l1 (ji9)) < ((rd_L3 l0 (rd l1 x11_1)).length : Int) := oT (by (with_reducible assumption))
   obtain ⟨ad217, e217, hx217_0⟩ := Kd.at_int HR215_0.out (rd l1 (ji9)) p217 q217
   cases e217
   replace p217 := eq_true p217
   replace q217 := eq_true q217
   go_wp2
   repeat (go_quiet (fail); try go_wp2)
   go_ret
   exact ⟨by rfl, by repeat (first | exact Drawn0.refl _ | apply Drawn0.step)⟩
  rw [if_neg c14] at H
  have c14b0 : ((rd (rd_L3 l0 (rd l1 x11_1)) (rd l1 (ji9))) == 99999) = false := beq_eq_false_iff_ne.mpr c14
  have c14b1 : ((rd (rd_L3 l0 (rd l1 x11_1)) (rd l1 (ji9))) != 99999) = true := bne_iff_ne.mpr c14
  have H' := ak H
  clear H
  have p214 : 0 ≤ (x11_1 : Int) := oT (by (with_reducible assumption))
  have q214 : x11_1 < (l1.length : Int) := oT (by (with_reducible assumption))
  obtain ⟨ad214, e214, hx214_0⟩ := Kd.at_int HR1.out x11_1 p214 q214
  cases e214
  replace p214 := eq_true p214
  replace q214 := eq_true q214
  have p215 : 0 ≤ ((rd l1 x11_1) : Int) := oT (by (with_reducible assumption))
  have q215 : (rd l1 x11_1) < (l0.length : Int) := oT (by (with_reducible assumption))
  obtain ⟨ad215, A215_0, c215_0, e215, hx215_0, hl215_0, hi215_0⟩ := at_L3 HR0.out (rd l1 x11_1) p215 q215
  cases e215
  have HR215_0 := ak hi215_0
  have HC215_0 := ak hl215_0
  clear hi215_0 hl215_0
  replace p215 := eq_true p215
  replace q215 := eq_true q215
  have p216 : 0 ≤ ((ji9) : Int) := oT (by (with_reducible assumption))
  have q216 : (ji9) < (l1.length : Int) := oT (by (with_reducible assumption))
  obtain ⟨ad216, e216, hx216_0⟩ := Kd.at_int HR1.out (ji9) p216 q216
  obtain rfl : ad214 = ad216 := (by injection e216)
  replace p216 := eq_true p216
  replace q216 := eq_true q216
  have p217 : 0 ≤ ((rd l1 (ji9)) : Int) := oT (by (with_reducible assumption))
  have q217 : (rd l1 (ji9)) < ((rd_L3 l0 (rd l1 x11_1)).length : Int) := oT (by (with_reducible assumption))
  obtain ⟨ad217, e217, hx217_0⟩ := Kd.at_int HR215_0.out (rd l1 (ji9)) p217 q217
  cases e217
  replace p217 := eq_true p217
  replace q217 := eq_true q217
  go_wp2
  repeat (go_quiet (fail); try go_wp2)
  go_roundg k1
  case measure => have := HK1.out; omega
  case rel => exact ⟨(wrap64 (x5_1 + (rd (rd_L3 l0 (rd l1 x11_1)) (rd l1 (ji9))))), (wrap64 (x11_1 + 1)), (by rfl), (by rfl), H', ⟨by have := HK1.out; omega⟩, by repeat (first | exact Drawn0.refl _ | apply Drawn0.step)⟩

end Go.Proofs.Ytgickejeakmenaa.F
