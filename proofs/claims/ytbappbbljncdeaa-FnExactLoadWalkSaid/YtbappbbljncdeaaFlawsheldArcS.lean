-- Printed by wip/px/px.py of this claim's repository (the kit's printer, extended there). Lean checks it.
import Derived.Test.YtbappbbljncdeaaFKinds
namespace Go.Proofs.Ytbappbbljncdeaa.F
open Go.RowKit Go.Proofs.YtbappbbljncdeaaW.PrintWords Go.Proofs.YtbappbbljncdeaaW.PrintLast Go.Proofs.YtbappbbljncdeaaW.PrintMore
attribute [local go_sem] max2_int min2_int max_two min_two max_three min_three max_four min_four   -- for this text's walks alone
set_option linter.unusedVariables false
set_option linter.unusedSimpArgs false

/-! ### laws_heldArcS: function 142 -/
def laws_heldArcS.l0 : Nat → List (S100) → Int → Int → Option (Int)
 | 0, _, _, _ => none
 | k + 1, x0, x1, x5 => if x5 < (x0.length : Int) then (if 0 ≤ x5 then (if ((rd_T100 x0 x5).f0) = x1 then (if ((rd_T100 x0 x5).f1) = (wrap64 (x1 + 1)) then (if ((rd_T100 x0 x5).f2) = (wrap64 ((wrap64 (x1 + 1)) + 1)) then (if ((rd_T100 x0 x5).f3) = (wrap64 ((wrap64 ((wrap64 (x1 + 1)) + 1)) + 1)) then (if ((rd_T100 x0 x5).f4) = (wrap64 ((wrap64 ((wrap64 ((wrap64 (x1 + 1)) + 1)) + 1)) + 1)) then (laws_heldArcS.l0 k x0 (wrap64 ((wrap64 ((wrap64 ((wrap64 ((wrap64 (x1 + 1)) + 1)) + 1)) + 1)) + 1)) (wrap64 (x5 + 1))) else (some (-1))) else (some (-1))) else (some (-1))) else (some (-1))) else (some (-1))) else (none)) else (some x1)
def laws_heldArcS.f (k : Nat) (l0 : List (S100)) (a1 : Int) : Option (Int) := laws_heldArcS.l0 k l0 a1 0
theorem laws_heldArcS.mono_l : ∀ k, (∀ y0 y1 y2, LeO (laws_heldArcS.l0 k y0 y1 y2) (laws_heldArcS.l0 (k + 1) y0 y1 y2))
 | 0 => fun _ _ _ r h => by simp [laws_heldArcS.l0] at h
 | k + 1 => by
  have ih0 := laws_heldArcS.mono_l k
  ·intro y0 y1 y2
   unfold laws_heldArcS.l0
   repeat' first
   | (with_reducible exact ih0 _ _ _)
   | (with_reducible exact LeO.refl _)
   | (with_reducible exact LeO.none _)
   | (with_reducible refine LeO.ite ?_ ?_)
   | (with_reducible refine LeO.bind ?_ (fun _ => ?_))
   | exact ih0 _ _ _
   | exact LeO.none _
   | refine LeO.ite ?_ ?_
   | refine LeO.bind ?_ (fun _ => ?_)
theorem laws_heldArcS.mono : ∀ a0 a1 k, LeO (laws_heldArcS.f k a0 a1) (laws_heldArcS.f (k + 1) a0 a1) := by
 intro a0 a1 k
 have ih0 := laws_heldArcS.mono_l k
 unfold laws_heldArcS.f
 repeat' first
   | (with_reducible exact ih0 _ _ _)
   | (with_reducible exact LeO.refl _)
   | (with_reducible exact LeO.none _)
   | (with_reducible refine LeO.ite ?_ ?_)
   | (with_reducible refine LeO.bind ?_ (fun _ => ?_))
   | exact ih0 _ _ _
   | exact LeO.none _
   | refine LeO.ite ?_ ?_
   | refine LeO.bind ?_ (fun _ => ?_)
set_option maxHeartbeats 8000000 in
set_option maxRecDepth 100000 in
theorem laws_heldArcS.calls (k : Nat) (A0 : Option Addr) (c0 : Nat) (l0 : List (S100)) (a1 : Int) (r : Int) (w : World) (hr0 : Kd.C k100 w A0 l0.length l0) (hc0 : l0.length ≤ c0) (h : laws_heldArcS.f k l0 a1 = some r) :
  Calls Try.prog 142 #[.slice A0 l0.length c0, .int .i64 a1] w fun e w' => e = .returned (.int .i64 r) ∧ Drawn0 w w' := by
 have HR0 := Aside0.mk hr0
 have HC0 := Aside0.mk hc0
 clear hr0 hc0
 have H : (laws_heldArcS.l0 k l0 a1 0) = some r := h
 clear h
 have H' := Aside0.mk H
 clear H
 go_enter Try.func142, Try.ntmps142
 go_wp2
 go_loopg [1, 5] k (fun kq v1 v5 w' => ∃ (x1_1 : Int) (x5_1 : Int), v1 = .int .i64 x1_1 ∧ v5 = .int .i64 x5_1 ∧ Aside0 (laws_heldArcS.l0 kq l0 x1_1 x5_1 = some r) ∧ Aside0 (kq ≤ k) ∧ Drawn0 w w')
 case atStart => exact ⟨(a1), (0), (by first | rfl | (simp; done) | (simp [*]; done)), (by first | rfl | (simp; done) | (simp [*]; done)), H', ⟨Nat.le_refl _⟩, by repeat (first | exact Drawn0.refl _ | apply Drawn0.step)⟩
 clear H'
 try clear c1
 try clear p2
 obtain ⟨x1_1, x5_1, rfl, rfl, HA, HK1, ⟨m1, rfl⟩⟩ := hrel
 cases gk with
 | zero => exact absurd HA.out (by simp [laws_heldArcS.l0])
 | succ k1 =>
  have H := HA.out
  clear HA
  simp only [laws_heldArcS.l0] at H
  by_cases c3 : x5_1 < (l0.length : Int)
  rotate_left
  ·rw [if_neg c3] at H
   have c3b0 : decide (x5_1 < (l0.length : Int)) = false := decide_eq_false c3
   clear c3
   obtain rfl := Option.some.inj H
   go_wp2
   go_ret
   exact ⟨by first | rfl | (simp; done) | (simp [*]; done), by repeat (first | exact Drawn0.refl _ | apply Drawn0.step)⟩
  rw [if_pos c3] at H
  have c3b0 : decide (x5_1 < (l0.length : Int)) = true := decide_eq_true c3
  clear c3
  by_cases c4 : 0 ≤ x5_1
  rotate_left
  ·rw [if_neg c4] at H
   exact absurd H (by simp)
  rw [if_pos c4] at H
  have c4b0 : decide (0 ≤ x5_1) = true := decide_eq_true c4
  clear c4
  by_cases c5 : ((rd_T100 l0 x5_1).f0) = x1_1
  rotate_left
  ·rw [if_neg c5] at H
   have c5b0 : (((rd_T100 l0 x5_1).f0) == x1_1) = false := beq_eq_false_iff_ne.mpr c5
   have c5b1 : (((rd_T100 l0 x5_1).f0) != x1_1) = true := bne_iff_ne.mpr c5
   obtain rfl := Option.some.inj H
   have p800 : 0 ≤ (x5_1 : Int) := oT (by first | (with_reducible assumption) | assumption)
   have q800 : x5_1 < (l0.length : Int) := oT (by first | (with_reducible assumption) | assumption)
   obtain ⟨ad800, e800, hx800_0, hx800_1, hx800_2, hx800_3, hx800_4⟩ := at_T100 HR0.out x5_1 p800 q800
   cases e800
   replace p800 := eq_true p800
   replace q800 := eq_true q800
   go_wp2
   go_ret
   exact ⟨by first | rfl | (simp; done) | (simp [*]; done), by repeat (first | exact Drawn0.refl _ | apply Drawn0.step)⟩
  rw [if_pos c5] at H
  have c5b0 : (((rd_T100 l0 x5_1).f0) == x1_1) = true := beq_iff_eq.mpr c5
  have c5b1 : (((rd_T100 l0 x5_1).f0) != x1_1) = false := bne_eq_false_iff_eq.mpr c5
  clear c5
  by_cases c6 : ((rd_T100 l0 x5_1).f1) = (wrap64 (x1_1 + 1))
  rotate_left
  ·rw [if_neg c6] at H
   have c6b0 : (((rd_T100 l0 x5_1).f1) == (wrap64 (x1_1 + 1))) = false := beq_eq_false_iff_ne.mpr c6
   have c6b1 : (((rd_T100 l0 x5_1).f1) != (wrap64 (x1_1 + 1))) = true := bne_iff_ne.mpr c6
   obtain rfl := Option.some.inj H
   have p800 : 0 ≤ (x5_1 : Int) := oT (by first | (with_reducible assumption) | assumption)
   have q800 : x5_1 < (l0.length : Int) := oT (by first | (with_reducible assumption) | assumption)
   obtain ⟨ad800, e800, hx800_0, hx800_1, hx800_2, hx800_3, hx800_4⟩ := at_T100 HR0.out x5_1 p800 q800
   cases e800
   replace p800 := eq_true p800
   replace q800 := eq_true q800
   have p801 : 0 ≤ (x5_1 : Int) := oT (by first | (with_reducible assumption) | assumption)
   have q801 : x5_1 < (l0.length : Int) := oT (by first | (with_reducible assumption) | assumption)
   obtain ⟨ad801, e801, hx801_0, hx801_1, hx801_2, hx801_3, hx801_4⟩ := at_T100 HR0.out x5_1 p801 q801
   obtain rfl : ad800 = ad801 := (by injection e801)
   replace p801 := eq_true p801
   replace q801 := eq_true q801
   go_wp2
   go_ret
   exact ⟨by first | rfl | (simp; done) | (simp [*]; done), by repeat (first | exact Drawn0.refl _ | apply Drawn0.step)⟩
  rw [if_pos c6] at H
  have c6b0 : (((rd_T100 l0 x5_1).f1) == (wrap64 (x1_1 + 1))) = true := beq_iff_eq.mpr c6
  have c6b1 : (((rd_T100 l0 x5_1).f1) != (wrap64 (x1_1 + 1))) = false := bne_eq_false_iff_eq.mpr c6
  clear c6
  by_cases c7 : ((rd_T100 l0 x5_1).f2) = (wrap64 ((wrap64 (x1_1 + 1)) + 1))
  rotate_left
  ·rw [if_neg c7] at H
   have c7b0 : (((rd_T100 l0 x5_1).f2) == (wrap64 ((wrap64 (x1_1 + 1)) + 1))) = false := beq_eq_false_iff_ne.mpr c7
   have c7b1 : (((rd_T100 l0 x5_1).f2) != (wrap64 ((wrap64 (x1_1 + 1)) + 1))) = true := bne_iff_ne.mpr c7
   obtain rfl := Option.some.inj H
   have p800 : 0 ≤ (x5_1 : Int) := oT (by first | (with_reducible assumption) | assumption)
   have q800 : x5_1 < (l0.length : Int) := oT (by first | (with_reducible assumption) | assumption)
   obtain ⟨ad800, e800, hx800_0, hx800_1, hx800_2, hx800_3, hx800_4⟩ := at_T100 HR0.out x5_1 p800 q800
   cases e800
   replace p800 := eq_true p800
   replace q800 := eq_true q800
   have p801 : 0 ≤ (x5_1 : Int) := oT (by first | (with_reducible assumption) | assumption)
   have q801 : x5_1 < (l0.length : Int) := oT (by first | (with_reducible assumption) | assumption)
   obtain ⟨ad801, e801, hx801_0, hx801_1, hx801_2, hx801_3, hx801_4⟩ := at_T100 HR0.out x5_1 p801 q801
   obtain rfl : ad800 = ad801 := (by injection e801)
   replace p801 := eq_true p801
   replace q801 := eq_true q801
   have p802 : 0 ≤ (x5_1 : Int) := oT (by first | (with_reducible assumption) | assumption)
   have q802 : x5_1 < (l0.length : Int) := oT (by first | (with_reducible assumption) | assumption)
   obtain ⟨ad802, e802, hx802_0, hx802_1, hx802_2, hx802_3, hx802_4⟩ := at_T100 HR0.out x5_1 p802 q802
   obtain rfl : ad800 = ad802 := (by injection e802)
   replace p802 := eq_true p802
   replace q802 := eq_true q802
   go_wp2
   go_ret
   exact ⟨by first | rfl | (simp; done) | (simp [*]; done), by repeat (first | exact Drawn0.refl _ | apply Drawn0.step)⟩
  rw [if_pos c7] at H
  have c7b0 : (((rd_T100 l0 x5_1).f2) == (wrap64 ((wrap64 (x1_1 + 1)) + 1))) = true := beq_iff_eq.mpr c7
  have c7b1 : (((rd_T100 l0 x5_1).f2) != (wrap64 ((wrap64 (x1_1 + 1)) + 1))) = false := bne_eq_false_iff_eq.mpr c7
  clear c7
  by_cases c8 : ((rd_T100 l0 x5_1).f3) = (wrap64 ((wrap64 ((wrap64 (x1_1 + 1)) + 1)) + 1))
  rotate_left
  ·rw [if_neg c8] at H
   have c8b0 : (((rd_T100 l0 x5_1).f3) == (wrap64 ((wrap64 ((wrap64 (x1_1 + 1)) + 1)) + 1))) = false := beq_eq_false_iff_ne.mpr c8
   have c8b1 : (((rd_T100 l0 x5_1).f3) != (wrap64 ((wrap64 ((wrap64 (x1_1 + 1)) + 1)) + 1))) = true := bne_iff_ne.mpr c8
   obtain rfl := Option.some.inj H
   have p800 : 0 ≤ (x5_1 : Int) := oT (by first | (with_reducible assumption) | assumption)
   have q800 : x5_1 < (l0.length : Int) := oT (by first | (with_reducible assumption) | assumption)
   obtain ⟨ad800, e800, hx800_0, hx800_1, hx800_2, hx800_3, hx800_4⟩ := at_T100 HR0.out x5_1 p800 q800
   cases e800
   replace p800 := eq_true p800
   replace q800 := eq_true q800
   have p801 : 0 ≤ (x5_1 : Int) := oT (by first | (with_reducible assumption) | assumption)
   have q801 : x5_1 < (l0.length : Int) := oT (by first | (with_reducible assumption) | assumption)
   obtain ⟨ad801, e801, hx801_0, hx801_1, hx801_2, hx801_3, hx801_4⟩ := at_T100 HR0.out x5_1 p801 q801
   obtain rfl : ad800 = ad801 := (by injection e801)
   replace p801 := eq_true p801
   replace q801 := eq_true q801
   have p802 : 0 ≤ (x5_1 : Int) := oT (by first | (with_reducible assumption) | assumption)
   have q802 : x5_1 < (l0.length : Int) := oT (by first | (with_reducible assumption) | assumption)
   obtain ⟨ad802, e802, hx802_0, hx802_1, hx802_2, hx802_3, hx802_4⟩ := at_T100 HR0.out x5_1 p802 q802
   obtain rfl : ad800 = ad802 := (by injection e802)
   replace p802 := eq_true p802
   replace q802 := eq_true q802
   have p803 : 0 ≤ (x5_1 : Int) := oT (by first | (with_reducible assumption) | assumption)
   have q803 : x5_1 < (l0.length : Int) := oT (by first | (with_reducible assumption) | assumption)
   obtain ⟨ad803, e803, hx803_0, hx803_1, hx803_2, hx803_3, hx803_4⟩ := at_T100 HR0.out x5_1 p803 q803
   obtain rfl : ad800 = ad803 := (by injection e803)
   replace p803 := eq_true p803
   replace q803 := eq_true q803
   go_wp2
   go_ret
   exact ⟨by first | rfl | (simp; done) | (simp [*]; done), by repeat (first | exact Drawn0.refl _ | apply Drawn0.step)⟩
  rw [if_pos c8] at H
  have c8b0 : (((rd_T100 l0 x5_1).f3) == (wrap64 ((wrap64 ((wrap64 (x1_1 + 1)) + 1)) + 1))) = true := beq_iff_eq.mpr c8
  have c8b1 : (((rd_T100 l0 x5_1).f3) != (wrap64 ((wrap64 ((wrap64 (x1_1 + 1)) + 1)) + 1))) = false := bne_eq_false_iff_eq.mpr c8
  clear c8
  by_cases c9 : ((rd_T100 l0 x5_1).f4) = (wrap64 ((wrap64 ((wrap64 ((wrap64 (x1_1 + 1)) + 1)) + 1)) + 1))
  rotate_left
  ·rw [if_neg c9] at H
   have c9b0 : (((rd_T100 l0 x5_1).f4) == (wrap64 ((wrap64 ((wrap64 ((wrap64 (x1_1 + 1)) + 1)) + 1)) + 1))) = false := beq_eq_false_iff_ne.mpr c9
   have c9b1 : (((rd_T100 l0 x5_1).f4) != (wrap64 ((wrap64 ((wrap64 ((wrap64 (x1_1 + 1)) + 1)) + 1)) + 1))) = true := bne_iff_ne.mpr c9
   obtain rfl := Option.some.inj H
   have p800 : 0 ≤ (x5_1 : Int) := oT (by first | (with_reducible assumption) | assumption)
   have q800 : x5_1 < (l0.length : Int) := oT (by first | (with_reducible assumption) | assumption)
   obtain ⟨ad800, e800, hx800_0, hx800_1, hx800_2, hx800_3, hx800_4⟩ := at_T100 HR0.out x5_1 p800 q800
   cases e800
   replace p800 := eq_true p800
   replace q800 := eq_true q800
   have p801 : 0 ≤ (x5_1 : Int) := oT (by first | (with_reducible assumption) | assumption)
   have q801 : x5_1 < (l0.length : Int) := oT (by first | (with_reducible assumption) | assumption)
   obtain ⟨ad801, e801, hx801_0, hx801_1, hx801_2, hx801_3, hx801_4⟩ := at_T100 HR0.out x5_1 p801 q801
   obtain rfl : ad800 = ad801 := (by injection e801)
   replace p801 := eq_true p801
   replace q801 := eq_true q801
   have p802 : 0 ≤ (x5_1 : Int) := oT (by first | (with_reducible assumption) | assumption)
   have q802 : x5_1 < (l0.length : Int) := oT (by first | (with_reducible assumption) | assumption)
   obtain ⟨ad802, e802, hx802_0, hx802_1, hx802_2, hx802_3, hx802_4⟩ := at_T100 HR0.out x5_1 p802 q802
   obtain rfl : ad800 = ad802 := (by injection e802)
   replace p802 := eq_true p802
   replace q802 := eq_true q802
   have p803 : 0 ≤ (x5_1 : Int) := oT (by first | (with_reducible assumption) | assumption)
   have q803 : x5_1 < (l0.length : Int) := oT (by first | (with_reducible assumption) | assumption)
   obtain ⟨ad803, e803, hx803_0, hx803_1, hx803_2, hx803_3, hx803_4⟩ := at_T100 HR0.out x5_1 p803 q803
   obtain rfl : ad800 = ad803 := (by injection e803)
   replace p803 := eq_true p803
   replace q803 := eq_true q803
   have p804 : 0 ≤ (x5_1 : Int) := oT (by first | (with_reducible assumption) | assumption)
   have q804 : x5_1 < (l0.length : Int) := oT (by first | (with_reducible assumption) | assumption)
   obtain ⟨ad804, e804, hx804_0, hx804_1, hx804_2, hx804_3, hx804_4⟩ := at_T100 HR0.out x5_1 p804 q804
   obtain rfl : ad800 = ad804 := (by injection e804)
   replace p804 := eq_true p804
   replace q804 := eq_true q804
   go_wp2
   go_ret
   exact ⟨by first | rfl | (simp; done) | (simp [*]; done), by repeat (first | exact Drawn0.refl _ | apply Drawn0.step)⟩
  rw [if_pos c9] at H
  have c9b0 : (((rd_T100 l0 x5_1).f4) == (wrap64 ((wrap64 ((wrap64 ((wrap64 (x1_1 + 1)) + 1)) + 1)) + 1))) = true := beq_iff_eq.mpr c9
  have c9b1 : (((rd_T100 l0 x5_1).f4) != (wrap64 ((wrap64 ((wrap64 ((wrap64 (x1_1 + 1)) + 1)) + 1)) + 1))) = false := bne_eq_false_iff_eq.mpr c9
  clear c9
  have H' := Aside0.mk H
  clear H
  have p800 : 0 ≤ (x5_1 : Int) := oT (by first | (with_reducible assumption) | assumption)
  have q800 : x5_1 < (l0.length : Int) := oT (by first | (with_reducible assumption) | assumption)
  obtain ⟨ad800, e800, hx800_0, hx800_1, hx800_2, hx800_3, hx800_4⟩ := at_T100 HR0.out x5_1 p800 q800
  cases e800
  replace p800 := eq_true p800
  replace q800 := eq_true q800
  have p801 : 0 ≤ (x5_1 : Int) := oT (by first | (with_reducible assumption) | assumption)
  have q801 : x5_1 < (l0.length : Int) := oT (by first | (with_reducible assumption) | assumption)
  obtain ⟨ad801, e801, hx801_0, hx801_1, hx801_2, hx801_3, hx801_4⟩ := at_T100 HR0.out x5_1 p801 q801
  obtain rfl : ad800 = ad801 := (by injection e801)
  replace p801 := eq_true p801
  replace q801 := eq_true q801
  have p802 : 0 ≤ (x5_1 : Int) := oT (by first | (with_reducible assumption) | assumption)
  have q802 : x5_1 < (l0.length : Int) := oT (by first | (with_reducible assumption) | assumption)
  obtain ⟨ad802, e802, hx802_0, hx802_1, hx802_2, hx802_3, hx802_4⟩ := at_T100 HR0.out x5_1 p802 q802
  obtain rfl : ad800 = ad802 := (by injection e802)
  replace p802 := eq_true p802
  replace q802 := eq_true q802
  have p803 : 0 ≤ (x5_1 : Int) := oT (by first | (with_reducible assumption) | assumption)
  have q803 : x5_1 < (l0.length : Int) := oT (by first | (with_reducible assumption) | assumption)
  obtain ⟨ad803, e803, hx803_0, hx803_1, hx803_2, hx803_3, hx803_4⟩ := at_T100 HR0.out x5_1 p803 q803
  obtain rfl : ad800 = ad803 := (by injection e803)
  replace p803 := eq_true p803
  replace q803 := eq_true q803
  have p804 : 0 ≤ (x5_1 : Int) := oT (by first | (with_reducible assumption) | assumption)
  have q804 : x5_1 < (l0.length : Int) := oT (by first | (with_reducible assumption) | assumption)
  obtain ⟨ad804, e804, hx804_0, hx804_1, hx804_2, hx804_3, hx804_4⟩ := at_T100 HR0.out x5_1 p804 q804
  obtain rfl : ad800 = ad804 := (by injection e804)
  replace p804 := eq_true p804
  replace q804 := eq_true q804
  go_wp2
  go_roundg k1
  case measure => have := HK1.out; omega
  case rel => exact ⟨(wrap64 ((wrap64 ((wrap64 ((wrap64 ((wrap64 (x1_1 + 1)) + 1)) + 1)) + 1)) + 1)), (wrap64 (x5_1 + 1)), (by first | rfl | (simp; done) | (simp [*]; done)), (by first | rfl | (simp; done) | (simp [*]; done)), H', ⟨by have := HK1.out; omega⟩, by repeat (first | exact Drawn0.refl _ | apply Drawn0.step)⟩

end Go.Proofs.Ytbappbbljncdeaa.F
