-- Printed by wip/px/px.py of this claim's repository (the kit's printer, extended there). Lean checks it.
import Derived.Test.YtgickejeakmenaaFKinds
import Derived.Test.YtgickejeakmenaaFimplwithin
import Derived.Test.YtgickejeakmenaaFimplnodesIn
import Derived.Test.YtgickejeakmenaaFslicesIn
namespace Go.Proofs.Ytgickejeakmenaa.F
open Go.RowKit Go.Proofs.YtgickejeakmenaaW.PrintWords Go.Proofs.YtgickejeakmenaaW.PrintLast Go.Proofs.YtgickejeakmenaaW.PrintMore
attribute [local go_sem] max2_int min2_int max_two min_two max_three min_three max_four min_four   -- for this text's walks alone
set_option linter.unusedVariables false
set_option linter.unusedSimpArgs false

/-! ### impl_stopsOk: function 52 -/
def impl_stopsOk.l0 : Nat → List Int → List Int → Int → Int → Int → List (S41) → Option (Bool)
 | 0, _, _, _, _, _, _ => none
 | k + 1, x1, x7, x8, x9, x209000, x209001 => if x9 < x8 then (if 0 ≤ x9 then (if x9 < (x7.length : Int) then (if x9 ≤ (x1.length : Int) then ((slices_Contains_int_int.f k (x1.take (x9 : Int).toNat) (rd x7 x9)).bind fun t211 => (if t211 = true then (some false) else (impl_stopsOk.l0 k x1 x7 x8 (wrap64 (x9 + 1)) x209000 x209001))) else (none)) else (none)) else (none)) else ((impl_within.f (x1.length : Int) 1 5).bind fun t212 => (if t212 = true then ((impl_nodesIn.f x209000 x209001 x1).bind fun t213 => (some t213)) else (some false)))
def impl_stopsOk.f (k : Nat) (a0_0 : Int) (l0_1 : List (S41)) (l1 : List Int) : Option (Bool) := impl_stopsOk.l0 k l1 l1 (l1.length : Int) 0 a0_0 l0_1
theorem impl_stopsOk.mono_l : ∀ k, (∀ y0 y1 y2 y3 y4 y5, LeO (impl_stopsOk.l0 k y0 y1 y2 y3 y4 y5) (impl_stopsOk.l0 (k + 1) y0 y1 y2 y3 y4 y5))
 | 0 => fun _ _ _ _ _ _ r h => by simp [impl_stopsOk.l0] at h
 | k + 1 => by
  have ih0 := impl_stopsOk.mono_l k
  ·intro y0 y1 y2 y3 y4 y5
   unfold impl_stopsOk.l0
   repeat' first | (with_reducible exact ih0 _ _ _ _ _ _) | (with_reducible exact slices_Contains_int_int.mono _ _ _) | (with_reducible exact LeO.refl _) | (with_reducible refine LeO.ite ?_ ?_) | (with_reducible refine LeO.bind ?_ (fun _ => ?_))
theorem impl_stopsOk.mono : ∀ a0 a1 a2 k, LeO (impl_stopsOk.f k a0 a1 a2) (impl_stopsOk.f (k + 1) a0 a1 a2) := by
 intro a0 a1 a2 k
 have ih0 := impl_stopsOk.mono_l k
 unfold impl_stopsOk.f
 repeat' (with_reducible exact ih0 _ _ _ _ _ _)
set_option maxHeartbeats 8000000 in
set_option maxRecDepth 100000 in
theorem impl_stopsOk.calls (k : Nat) (a0_0 : Int) (A0_1 : Option Addr) (c0_1 : Nat) (l0_1 : List (S41)) (A1 : Option Addr) (c1 : Nat) (l1 : List Int) (r : Bool) (w : World) (hr0_1 : Kd.C k41 w A0_1 l0_1.length l0_1) (hc0_1 : l0_1.length ≤ c0_1) (hr1 : Kd.C (Kd.int .i64) w A1 l1.length l1) (hc1 : l1.length ≤ c1) (h : impl_stopsOk.f k a0_0 l0_1 l1 = some r) :
  Calls Try.prog 52 #[.agg #[.int .i64 a0_0, .slice A0_1 l0_1.length c0_1], .slice A1 l1.length c1] w fun e w' => e = .returned (.bool r) ∧ Below w.heap.size w w' := by
 have hu25 := Try.underlying25
 have HR0_1 := ak hr0_1
 have HC0_1 := ak hc0_1
 clear hr0_1 hc0_1
 have HR1 := ak hr1
 have HC1 := ak hc1
 clear hr1 hc1
 have HB := ak (Below.refl w.heap.size w)
 have H : (impl_stopsOk.l0 k l1 l1 (l1.length : Int) 0 a0_0 l0_1) = some r := h
 clear h
 have H' := ak H
 clear H
 go_enter Try.func52, Try.ntmps52
 go_wp2_with (((with_reducible refine gate_dst (N := 2) rfl ?_); refine box_event ?hg (N := 2) ?hd (cs := #[.int .i64 a0_0, .slice A0_1 l0_1.length c0_1]) (t := 25) ?hr ?_; (case hd => rfl); (case hg => rfl); (case hr => (go_simp; done)); intro gb208 hg w3 hbox hb; have BK208 := ak (hbox); have GW208 := ak ((by rw [hg]; exact (below_size (bl HB)) : w.heap.size ≤ gb208)); have GE208 := ak ((by rw [hg]; exact (below_size (bl HB)) : w.heap.size ≤ gb208)); replace HB := ak (below_step (bl HB) hb); clear hb hbox hg))
 go_loopg [9] k (fun kq v9 w' => ∃ (x9_1 : Int), v9 = .int .i64 x9_1 ∧ Aside0 (impl_stopsOk.l0 kq l1 l1 (l1.length : Int) x9_1 a0_0 l0_1 = some r) ∧ Aside0 (kq ≤ k) ∧ Aside0 (w'.heap[gb208]? = some (.cells #[.int .i64 a0_0, (.slice A0_1 l0_1.length c0_1)] 25 (0, 0))) ∧ Aside0 (Below w.heap.size w w'))
 case atStart => exact ⟨(0), (by rfl), H', ⟨Nat.le_refl _⟩, ⟨bk BK208⟩, ⟨bl1 HB GE208⟩⟩
 clear H'
 try clear c1
 try clear p2
 obtain ⟨x9_1, rfl, HA, HK1, BK208, HB⟩ := hrel
 cases gk with
 | zero => exact absurd HA.out (by simp [impl_stopsOk.l0])
 | succ k1 =>
  have H := HA.out
  clear HA
  simp only [impl_stopsOk.l0] at H
  by_cases c4 : x9_1 < (l1.length : Int)
  rotate_left
  ·rw [if_neg c4] at H
   have c4b0 : decide (x9_1 < (l1.length : Int)) = false := decide_eq_false c4
   clear c4
   replace H := Option.bind_eq_some_iff.mp H
   obtain ⟨t212, A130, H⟩ := H
   have A13 := ak A130
   clear A130
   by_cases c14 : t212 = true
   rotate_left
   ·replace c14 := Bool.eq_false_iff.mpr c14
    subst c14
    rw [if_neg (show ¬ (false = true) by decide)] at H
    obtain rfl := Option.some.inj H
    go_wp2_with (((with_reducible refine gate_callee (f := 103) rfl ?_); refine goesL_ (some 22) rfl rfl Try.func103 (by kernel_rfl) rfl #[.int .i64 (l1.length : Int), .int .i64 1, .int .i64 5] rfl (by (try simp only [List.map_toArray, List.map_cons, List.map_nil]); rfl) ?_; (with_reducible refine (impl_within.calls (l1.length : Int) 1 5 false _ A13.out).mono ?_); rintro e w' ⟨rfl, ⟨nd, rfl⟩⟩; refine ⟨_, rfl, ?_⟩))
    go_ret
    exact ⟨by rfl, bl1 HB GE208⟩
   subst c14
   rw [if_pos rfl] at H
   replace H := Option.bind_eq_some_iff.mp H
   obtain ⟨t213, A150, H⟩ := H
   have A15 := ak A150
   clear A150
   obtain rfl := Option.some.inj H
   go_wp2_with (first | ((with_reducible refine gate_callee (f := 103) rfl ?_); refine goesL_ (some 22) rfl rfl Try.func103 (by kernel_rfl) rfl #[.int .i64 (l1.length : Int), .int .i64 1, .int .i64 5] rfl (by (try simp only [List.map_toArray, List.map_cons, List.map_nil]); rfl) ?_; (with_reducible refine (impl_within.calls (l1.length : Int) 1 5 true _ A13.out).mono ?_); rintro e w' ⟨rfl, ⟨nd, rfl⟩⟩; refine ⟨_, rfl, ?_⟩; have hcz16_0 := bc wr BK208 0 (.int .i64 a0_0) rfl; have hcz16_1 := bc wr BK208 1 (.slice A0_1 l0_1.length c0_1) rfl; have hfz16_0 := fz BK208 0; have hfz16_1 := fz BK208 1) | (go_at_call 58; (with_reducible refine (impl_nodesIn.calls a0_0 _ _ l0_1 _ _ l1 t213 _ ?side1 ?side2 ?side3 ?side4 A15.out).mono ?_); (case side1 => repeat (exact (Kd.C_below HR0_1.out (bl1 HB GE208)))); (case side2 => exact HC0_1.out); (case side3 => repeat (exact (Kd.C_below HR1.out (bl1 HB GE208)))); (case side4 => exact HC1.out); rintro e w17 ⟨rfl, hb⟩; have n0_ := ak (blk_below (bk BK208) hb); have n1_ := ak (below_step (bl1 HB GE208) hb); clear BK208; clear HB; have BK208 := n0_; have HB := n1_; clear n0_ n1_; (try clear hb); (try clear hb2); (try clear hk); (try clear hi)))
   go_ret
   exact ⟨by rfl, bl1 HB GE208⟩
  rw [if_pos c4] at H
  have c4b0 : decide (x9_1 < (l1.length : Int)) = true := decide_eq_true c4
  clear c4
  by_cases c5 : 0 ≤ x9_1
  rotate_left
  ·rw [if_neg c5] at H
   exact absurd H (by simp)
  rw [if_pos c5] at H
  have c5b0 : decide (0 ≤ x9_1) = true := decide_eq_true c5
  clear c5
  by_cases c6 : x9_1 < (l1.length : Int)
  rotate_left
  ·rw [if_neg c6] at H
   exact absurd H (by simp)
  rw [if_pos c6] at H
  have c6b0 : decide (x9_1 < (l1.length : Int)) = true := decide_eq_true c6
  clear c6
  have c7b0 := eq_true (oT (by (with_reducible assumption)) : 0 ≤ x9_1)
  by_cases c8 : x9_1 ≤ (l1.length : Int)
  rotate_left
  ·rw [if_neg c8] at H
   exact absurd H (by simp)
  rw [if_pos c8] at H
  have c8b0 := eq_true c8
  have c8b1 : decide (x9_1 ≤ (l1.length : Int)) = true := decide_eq_true c8
  clear c8
  replace H := Option.bind_eq_some_iff.mp H
  obtain ⟨t211, A90, H⟩ := H
  have A9 := ak A90
  clear A90
  by_cases c10 : t211 = true
  ·subst c10
   rw [if_pos rfl] at H
   obtain rfl := Option.some.inj H
   have p209 : 0 ≤ (x9_1 : Int) := oT (by (with_reducible assumption))
   have q209 : x9_1 < (l1.length : Int) := oT (by (with_reducible assumption))
   obtain ⟨ad209, e209, hx209_0⟩ := Kd.at_int HR1.out x9_1 p209 q209
   cases e209
   replace hx209_0 := hcb HB.out hx209_0
   replace p209 := eq_true p209
   replace q209 := eq_true q209
   obtain ⟨i011, hi011, _, hsz11, _⟩ := info_parts info3
   obtain ⟨hcut11, hA11, hC11⟩ := print_take_of (P := Try.prog) (Value.int .i64) 0 26 3 .i64 Try.underlying26 hi011 hsz11 (some ad209) c1 l1 x9_1 (oT (by (with_reducible assumption))) (oT (by (with_reducible assumption))) HC1.out
   have HR210 := ak (Kd.C_of_reads (h1 := fun _ => rfl) (hA11 _ (Kd.reads_of_C HR1.out)))
   have HC210 := ak hC11
   clear hA11 hC11 hi011 hsz11
   go_wp2_with (((with_reducible refine gate_callee (f := 79) rfl ?_); refine goesL_ (some 18) rfl rfl Try.func79 (by kernel_rfl) rfl #[.slice (some ad209) (l1.take (x9_1 : Int).toNat).length c1, .int .i64 (rd l1 x9_1)] rfl (by (try simp only [List.map_toArray, List.map_cons, List.map_nil]); (rw [show (l1.take (x9_1 : Int).toNat).length = x9_1.toNat from (by rw [List.length_take]; have h_ : (x9_1 : Int) ≤ (l1.length : Int) := oT (by (with_reducible assumption)); omega)] <;> rfl)) ?_; (with_reducible refine (slices_Contains_int_int.calls k1 _ _ (l1.take (x9_1 : Int).toNat) (rd l1 x9_1) true _ ?side1 ?side2 A9.out).mono ?_); (case side1 => repeat (exact (Kd.C_below HR210.out HB.out))); (case side2 => exact HC210.out); rintro e w' ⟨rfl, ⟨nd, rfl⟩⟩; refine ⟨_, rfl, ?_⟩))
   go_ret
   exact ⟨by rfl, bl1 HB GE208⟩
  replace c10 := Bool.eq_false_iff.mpr c10
  subst c10
  rw [if_neg (show ¬ (false = true) by decide)] at H
  have H' := ak H
  clear H
  have p209 : 0 ≤ (x9_1 : Int) := oT (by (with_reducible assumption))
  have q209 : x9_1 < (l1.length : Int) := oT (by (with_reducible assumption))
  obtain ⟨ad209, e209, hx209_0⟩ := Kd.at_int HR1.out x9_1 p209 q209
  cases e209
  replace hx209_0 := hcb HB.out hx209_0
  replace p209 := eq_true p209
  replace q209 := eq_true q209
  obtain ⟨i012, hi012, _, hsz12, _⟩ := info_parts info3
  obtain ⟨hcut12, hA12, hC12⟩ := print_take_of (P := Try.prog) (Value.int .i64) 0 26 3 .i64 Try.underlying26 hi012 hsz12 (some ad209) c1 l1 x9_1 (oT (by (with_reducible assumption))) (oT (by (with_reducible assumption))) HC1.out
  have HR210 := ak (Kd.C_of_reads (h1 := fun _ => rfl) (hA12 _ (Kd.reads_of_C HR1.out)))
  have HC210 := ak hC12
  clear hA12 hC12 hi012 hsz12
  go_wp2_with (((with_reducible refine gate_callee (f := 79) rfl ?_); refine goesL_ (some 18) rfl rfl Try.func79 (by kernel_rfl) rfl #[.slice (some ad209) (l1.take (x9_1 : Int).toNat).length c1, .int .i64 (rd l1 x9_1)] rfl (by (try simp only [List.map_toArray, List.map_cons, List.map_nil]); (rw [show (l1.take (x9_1 : Int).toNat).length = x9_1.toNat from (by rw [List.length_take]; have h_ : (x9_1 : Int) ≤ (l1.length : Int) := oT (by (with_reducible assumption)); omega)] <;> rfl)) ?_; (with_reducible refine (slices_Contains_int_int.calls k1 _ _ (l1.take (x9_1 : Int).toNat) (rd l1 x9_1) false _ ?side1 ?side2 A9.out).mono ?_); (case side1 => repeat (exact (Kd.C_below HR210.out HB.out))); (case side2 => exact HC210.out); rintro e w' ⟨rfl, ⟨nd, rfl⟩⟩; refine ⟨_, rfl, ?_⟩))
  go_roundg k1
  case measure => have := HK1.out; omega
  case rel => exact ⟨(wrap64 (x9_1 + 1)), (by rfl), H', ⟨by have := HK1.out; omega⟩, ⟨bk BK208⟩, ⟨bl1 HB GE208⟩⟩

end Go.Proofs.Ytgickejeakmenaa.F
