-- Printed by wip/px/px.py of this claim's repository (the kit's printer, extended there). Lean checks it.
import Derived.Test.YtgickejeakmenaaFKinds
import Derived.Test.YtgickejeakmenaaFspecl12In
import Derived.Test.YtgickejeakmenaaFspecl1In
namespace Go.Proofs.Ytgickejeakmenaa.F
open Go.RowKit Go.Proofs.YtgickejeakmenaaW.PrintWords Go.Proofs.YtgickejeakmenaaW.PrintLast Go.Proofs.YtgickejeakmenaaW.PrintMore
attribute [local go_sem] max2_int min2_int max_two min_two max_three min_three max_four min_four   -- for this text's walks alone
set_option linter.unusedVariables false
set_option linter.unusedSimpArgs false

/-! ### spec_l17Stops: function 56 -/
def spec_l17Stops.l0 : Nat → List Int → Int → Int → List (S41) → Option (Bool)
 | 0, _, _, _, _ => none
 | k + 1, x1, x5, x293000, x293001 => if x5 < (x1.length : Int) then (if 0 ≤ x5 then ((spec_l1In.f (rd x1 x5) 0 (wrap64 (x293000 - 1))).bind fun t295 => (if t295 = true then (if x5 ≤ (x1.length : Int) then ((spec_l12In.f k (x1.take (x5 : Int).toNat) (rd x1 x5)).bind fun t298 => (if t298 = true then (some false) else (spec_l17Stops.l0 k x1 (wrap64 (x5 + 1)) x293000 x293001))) else (none)) else (some false))) else (none)) else ((spec_l1In.f (x1.length : Int) 1 5).bind fun t293 => (some t293))
def spec_l17Stops.f (k : Nat) (a0_0 : Int) (l0_1 : List (S41)) (l1 : List Int) : Option (Bool) := spec_l17Stops.l0 k l1 0 a0_0 l0_1
theorem spec_l17Stops.mono_l : ∀ k, (∀ y0 y1 y2 y3, LeO (spec_l17Stops.l0 k y0 y1 y2 y3) (spec_l17Stops.l0 (k + 1) y0 y1 y2 y3))
 | 0 => fun _ _ _ _ r h => by simp [spec_l17Stops.l0] at h
 | k + 1 => by
  have ih0 := spec_l17Stops.mono_l k
  ·intro y0 y1 y2 y3
   unfold spec_l17Stops.l0
   repeat' first | (with_reducible exact ih0 _ _ _ _) | (with_reducible exact spec_l12In.mono _ _ _) | (with_reducible exact LeO.refl _) | (with_reducible refine LeO.ite ?_ ?_) | (with_reducible refine LeO.bind ?_ (fun _ => ?_))
theorem spec_l17Stops.mono : ∀ a0 a1 a2 k, LeO (spec_l17Stops.f k a0 a1 a2) (spec_l17Stops.f (k + 1) a0 a1 a2) := by
 intro a0 a1 a2 k
 have ih0 := spec_l17Stops.mono_l k
 unfold spec_l17Stops.f
 repeat' (with_reducible exact ih0 _ _ _ _)
set_option maxHeartbeats 8000000 in
set_option maxRecDepth 100000 in
theorem spec_l17Stops.calls (k : Nat) (a0_0 : Int) (A0_1 : Option Addr) (c0_1 : Nat) (l0_1 : List (S41)) (A1 : Option Addr) (c1 : Nat) (l1 : List Int) (r : Bool) (w : World) (hr0_1 : Kd.C k41 w A0_1 l0_1.length l0_1) (hc0_1 : l0_1.length ≤ c0_1) (hr1 : Kd.C (Kd.int .i64) w A1 l1.length l1) (hc1 : l1.length ≤ c1) (h : spec_l17Stops.f k a0_0 l0_1 l1 = some r) :
  Calls Try.prog 56 #[.agg #[.int .i64 a0_0, .slice A0_1 l0_1.length c0_1], .slice A1 l1.length c1] w fun e w' => e = .returned (.bool r) ∧ Below w.heap.size w w' := by
 have hu25 := Try.underlying25
 have HR0_1 := ak hr0_1
 have HC0_1 := ak hc0_1
 clear hr0_1 hc0_1
 have HR1 := ak hr1
 have HC1 := ak hc1
 clear hr1 hc1
 have HB := ak (Below.refl w.heap.size w)
 have H : (spec_l17Stops.l0 k l1 0 a0_0 l0_1) = some r := h
 clear h
 have H' := ak H
 clear H
 go_enter Try.func56, Try.ntmps56
 go_wp2_with (((with_reducible refine gate_dst (N := 2) rfl ?_); refine box_event ?hg (N := 2) ?hd (cs := #[.int .i64 a0_0, .slice A0_1 l0_1.length c0_1]) (t := 25) ?hr ?_; (case hd => rfl); (case hg => rfl); (case hr => (go_simp; done)); intro gb292 hg w3 hbox hb; have BK292 := ak (hbox); have GW292 := ak ((by rw [hg]; exact (below_size (bl HB)) : w.heap.size ≤ gb292)); have GE292 := ak ((by rw [hg]; exact (below_size (bl HB)) : w.heap.size ≤ gb292)); replace HB := ak (below_step (bl HB) hb); clear hb hbox hg))
 repeat (go_quiet (fail); try go_wp2_with (fail))
 go_loopg [5] k (fun kq v5 w' => ∃ (x5_1 : Int), v5 = .int .i64 x5_1 ∧ Aside0 (spec_l17Stops.l0 kq l1 x5_1 a0_0 l0_1 = some r) ∧ Aside0 (kq ≤ k) ∧ Aside0 (w'.heap[gb292]? = some (.cells #[.int .i64 a0_0, (.slice A0_1 l0_1.length c0_1)] 25 (0, 0))) ∧ Aside0 (Below w.heap.size w w'))
 case atStart => exact ⟨(0), (by rfl), H', ⟨Nat.le_refl _⟩, ⟨bk BK292⟩, ⟨bl1 HB GE292⟩⟩
 clear H'
 try clear c1
 try clear p2
 obtain ⟨x5_1, rfl, HA, HK1, BK292, HB⟩ := hrel
 cases gk with
 | zero => exact absurd HA.out (by simp [spec_l17Stops.l0])
 | succ k1 =>
  have H := HA.out
  clear HA
  simp only [spec_l17Stops.l0] at H
  by_cases c4 : x5_1 < (l1.length : Int)
  rotate_left
  ·rw [if_neg c4] at H
   have c4b0 : decide (x5_1 < (l1.length : Int)) = false := decide_eq_false c4
   clear c4
   replace H := Option.bind_eq_some_iff.mp H
   obtain ⟨t293, A170, H⟩ := H
   have A17 := ak A170
   clear A170
   obtain rfl := Option.some.inj H
   go_wp2_with ((go_at_call 62; (with_reducible refine (spec_l1In.calls (l1.length : Int) 1 5 t293 _ A17.out).mono ?_); rintro e w' ⟨rfl, ⟨nd, rfl⟩⟩; (try fail)))
   repeat (go_quiet (fail); try go_wp2_with (fail))
   go_ret
   exact ⟨by rfl, bl1 HB GE292⟩
  rw [if_pos c4] at H
  have c4b0 : decide (x5_1 < (l1.length : Int)) = true := decide_eq_true c4
  clear c4
  by_cases c5 : 0 ≤ x5_1
  rotate_left
  ·rw [if_neg c5] at H
   exact absurd H (by simp)
  rw [if_pos c5] at H
  have c5b0 : decide (0 ≤ x5_1) = true := decide_eq_true c5
  clear c5
  replace H := Option.bind_eq_some_iff.mp H
  obtain ⟨t295, A60, H⟩ := H
  have A6 := ak A60
  clear A60
  by_cases c7 : t295 = true
  rotate_left
  ·replace c7 := Bool.eq_false_iff.mpr c7
   subst c7
   rw [if_neg (show ¬ (false = true) by decide)] at H
   obtain rfl := Option.some.inj H
   have p294 : 0 ≤ (x5_1 : Int) := oT (by (with_reducible assumption))
   have q294 : x5_1 < (l1.length : Int) := oT (by (with_reducible assumption))
   obtain ⟨ad294, e294, hx294_0⟩ := Kd.at_int HR1.out x5_1 p294 q294
   cases e294
   replace hx294_0 := hcb HB.out hx294_0
   replace p294 := eq_true p294
   replace q294 := eq_true q294
   have hcz16_0 := bc wr BK292 0 (.int .i64 a0_0) rfl
   have hcz16_1 := bc wr BK292 1 (.slice A0_1 l0_1.length c0_1) rfl
   have hfz16_0 := fz BK292 0
   have hfz16_1 := fz BK292 1
   go_wp2_with (fail)
   repeat (go_quiet ((go_at_call 62; (try simp only [i64_w, i32_w]); (with_reducible refine (spec_l1In.calls (rd l1 x5_1) 0 (wrap64 (a0_0 - 1)) false _ A6.out).mono ?_); rintro e w' ⟨rfl, ⟨nd, rfl⟩⟩; (try exact ⟨rfl, _, World.drewN_drewN _ _ _⟩))); try go_wp2_with (fail))
   go_ret
   exact ⟨by rfl, bl1 HB GE292⟩
  subst c7
  rw [if_pos rfl] at H
  have c8b0 := eq_true (oT (by (with_reducible assumption)) : 0 ≤ x5_1)
  by_cases c9 : x5_1 ≤ (l1.length : Int)
  rotate_left
  ·rw [if_neg c9] at H
   exact absurd H (by simp)
  rw [if_pos c9] at H
  have c9b0 := eq_true c9
  have c9b1 : decide (x5_1 ≤ (l1.length : Int)) = true := decide_eq_true c9
  clear c9
  replace H := Option.bind_eq_some_iff.mp H
  obtain ⟨t298, A100, H⟩ := H
  have A10 := ak A100
  clear A100
  by_cases c11 : t298 = true
  ·subst c11
   rw [if_pos rfl] at H
   obtain rfl := Option.some.inj H
   have p294 : 0 ≤ (x5_1 : Int) := oT (by (with_reducible assumption))
   have q294 : x5_1 < (l1.length : Int) := oT (by (with_reducible assumption))
   obtain ⟨ad294, e294, hx294_0⟩ := Kd.at_int HR1.out x5_1 p294 q294
   cases e294
   replace hx294_0 := hcb HB.out hx294_0
   replace p294 := eq_true p294
   replace q294 := eq_true q294
   have hcz12_0 := bc wr BK292 0 (.int .i64 a0_0) rfl
   have hcz12_1 := bc wr BK292 1 (.slice A0_1 l0_1.length c0_1) rfl
   have hfz12_0 := fz BK292 0
   have hfz12_1 := fz BK292 1
   obtain ⟨i013, hi013, _, hsz13, _⟩ := info_parts info3
   obtain ⟨hcut13, hA13, hC13⟩ := print_take_of (P := Try.prog) (Value.int .i64) 0 26 3 .i64 Try.underlying26 hi013 hsz13 (some ad294) c1 l1 x5_1 (oT (by (with_reducible assumption))) (oT (by (with_reducible assumption))) HC1.out
   have HR296 := ak (Kd.C_of_reads (h1 := fun _ => rfl) (hA13 _ (Kd.reads_of_C HR1.out)))
   have HC296 := ak hC13
   clear hA13 hC13 hi013 hsz13
   have p297 : 0 ≤ (x5_1 : Int) := oT (by (with_reducible assumption))
   have q297 : x5_1 < (l1.length : Int) := oT (by (with_reducible assumption))
   obtain ⟨ad297, e297, hx297_0⟩ := Kd.at_int HR1.out x5_1 p297 q297
   obtain rfl : ad294 = ad297 := (by injection e297)
   replace hx297_0 := hcb HB.out hx297_0
   replace p297 := eq_true p297
   replace q297 := eq_true q297
   go_wp2_with (fail)
   repeat (go_quiet (first | (go_at_call 62; (try simp only [i64_w, i32_w]); (with_reducible refine (spec_l1In.calls (rd l1 x5_1) 0 (wrap64 (a0_0 - 1)) true _ A6.out).mono ?_); rintro e w' ⟨rfl, ⟨nd, rfl⟩⟩; (try exact ⟨rfl, _, World.drewN_drewN _ _ _⟩)) | (go_at_call 81; (try rw [show (x5_1 : Int).toNat = (l1.take (x5_1 : Int).toNat).length from (by rw [List.length_take]; have h_ : x5_1 ≤ (l1.length : Int) := oT (by (with_reducible assumption)); omega)]); (with_reducible refine (spec_l12In.calls k1 _ _ (l1.take (x5_1 : Int).toNat) (rd l1 x5_1) true _ ?side1 ?side2 A10.out).mono ?_); (case side1 => repeat (exact (Kd.C_below HR296.out (bl1 HB GE292)))); (case side2 => exact HC296.out); rintro e w' ⟨rfl, ⟨nd, rfl⟩⟩; (try exact ⟨rfl, _, World.drewN_drewN _ _ _⟩))); try go_wp2_with (fail))
   go_ret
   exact ⟨by rfl, bl1 HB GE292⟩
  replace c11 := Bool.eq_false_iff.mpr c11
  subst c11
  rw [if_neg (show ¬ (false = true) by decide)] at H
  have H' := ak H
  clear H
  have p294 : 0 ≤ (x5_1 : Int) := oT (by (with_reducible assumption))
  have q294 : x5_1 < (l1.length : Int) := oT (by (with_reducible assumption))
  obtain ⟨ad294, e294, hx294_0⟩ := Kd.at_int HR1.out x5_1 p294 q294
  cases e294
  replace hx294_0 := hcb HB.out hx294_0
  replace p294 := eq_true p294
  replace q294 := eq_true q294
  have hcz14_0 := bc wr BK292 0 (.int .i64 a0_0) rfl
  have hcz14_1 := bc wr BK292 1 (.slice A0_1 l0_1.length c0_1) rfl
  have hfz14_0 := fz BK292 0
  have hfz14_1 := fz BK292 1
  obtain ⟨i015, hi015, _, hsz15, _⟩ := info_parts info3
  obtain ⟨hcut15, hA15, hC15⟩ := print_take_of (P := Try.prog) (Value.int .i64) 0 26 3 .i64 Try.underlying26 hi015 hsz15 (some ad294) c1 l1 x5_1 (oT (by (with_reducible assumption))) (oT (by (with_reducible assumption))) HC1.out
  have HR296 := ak (Kd.C_of_reads (h1 := fun _ => rfl) (hA15 _ (Kd.reads_of_C HR1.out)))
  have HC296 := ak hC15
  clear hA15 hC15 hi015 hsz15
  have p297 : 0 ≤ (x5_1 : Int) := oT (by (with_reducible assumption))
  have q297 : x5_1 < (l1.length : Int) := oT (by (with_reducible assumption))
  obtain ⟨ad297, e297, hx297_0⟩ := Kd.at_int HR1.out x5_1 p297 q297
  obtain rfl : ad294 = ad297 := (by injection e297)
  replace hx297_0 := hcb HB.out hx297_0
  replace p297 := eq_true p297
  replace q297 := eq_true q297
  go_wp2_with (fail)
  repeat (go_quiet (first | (go_at_call 62; (try simp only [i64_w, i32_w]); (with_reducible refine (spec_l1In.calls (rd l1 x5_1) 0 (wrap64 (a0_0 - 1)) true _ A6.out).mono ?_); rintro e w' ⟨rfl, ⟨nd, rfl⟩⟩; (try exact ⟨rfl, _, World.drewN_drewN _ _ _⟩)) | (go_at_call 81; (try rw [show (x5_1 : Int).toNat = (l1.take (x5_1 : Int).toNat).length from (by rw [List.length_take]; have h_ : x5_1 ≤ (l1.length : Int) := oT (by (with_reducible assumption)); omega)]); (with_reducible refine (spec_l12In.calls k1 _ _ (l1.take (x5_1 : Int).toNat) (rd l1 x5_1) false _ ?side1 ?side2 A10.out).mono ?_); (case side1 => repeat (exact (Kd.C_below HR296.out (bl1 HB GE292)))); (case side2 => exact HC296.out); rintro e w' ⟨rfl, ⟨nd, rfl⟩⟩; (try exact ⟨rfl, _, World.drewN_drewN _ _ _⟩))); try go_wp2_with (fail))
  go_roundg k1
  case measure => have := HK1.out; omega
  case rel => exact ⟨(wrap64 (x5_1 + 1)), (by rfl), H', ⟨by have := HK1.out; omega⟩, ⟨bk BK292⟩, ⟨bl1 HB GE292⟩⟩

end Go.Proofs.Ytgickejeakmenaa.F
