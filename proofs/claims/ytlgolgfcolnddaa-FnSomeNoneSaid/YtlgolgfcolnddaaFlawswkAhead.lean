-- Printed by wip/px/px.py of this claim's repository (the kit's printer, extended there). Lean checks it.
import Derived.Test.YtlgolgfcolnddaaFKinds
import Derived.Test.YtlgolgfcolnddaaFimplWalkCost
namespace Go.Proofs.Ytlgolgfcolnddaa.F
open Go.RowKit Go.Proofs.YtlgolgfcolnddaaW.PrintWords Go.Proofs.YtlgolgfcolnddaaW.PrintLast Go.Proofs.YtlgolgfcolnddaaW.PrintMore
attribute [local go_sem] max2_int min2_int max_two min_two max_three min_three max_four min_four   -- for this text's walks alone
set_option linter.unusedVariables false
set_option linter.unusedSimpArgs false

/-! ### laws_wkAhead: function 30 -/
def laws_wkAhead.l0 : Nat → List Int → List Int → Int → Option (Bool)
 | 0, _, _, _ => none
 | k + 1, x1, x2, x9 => if x9 < (x1.length : Int) then (if 0 ≤ x9 then (if x9 < (x2.length : Int) then (if (rd x1 x9) = (rd x2 x9) then (laws_wkAhead.l0 k x1 x2 (wrap64 (x9 + 1))) else (some (decide ((rd x1 x9) < (rd x2 x9))))) else (none)) else (none)) else (some false)
def laws_wkAhead.f (k : Nat) (a0_0 : Int) (l0_1 : List (S58)) (l1 : List Int) (l2 : List Int) : Option (Bool) := (impl_WalkCost.f k a0_0 l0_1 l1).bind fun t404 => ((impl_WalkCost.f k a0_0 l0_1 l2).bind fun t405 => (if t404 = t405 then (if (l1.length : Int) = (l2.length : Int) then (laws_wkAhead.l0 k l1 l2 0) else (some (decide ((l1.length : Int) < (l2.length : Int))))) else (some (decide (t404 < t405)))))
theorem laws_wkAhead.mono_l : ∀ k, (∀ y0 y1 y2, LeO (laws_wkAhead.l0 k y0 y1 y2) (laws_wkAhead.l0 (k + 1) y0 y1 y2))
 | 0 => fun _ _ _ r h => by simp [laws_wkAhead.l0] at h
 | k + 1 => by
  have ih0 := laws_wkAhead.mono_l k
  ·intro y0 y1 y2
   unfold laws_wkAhead.l0
   repeat' first | (with_reducible exact ih0 _ _ _) | (with_reducible exact LeO.refl _) | (with_reducible refine LeO.ite ?_ ?_)
theorem laws_wkAhead.mono : ∀ a0 a1 a2 a3 k, LeO (laws_wkAhead.f k a0 a1 a2 a3) (laws_wkAhead.f (k + 1) a0 a1 a2 a3) := by
 intro a0 a1 a2 a3 k
 have ih0 := laws_wkAhead.mono_l k
 unfold laws_wkAhead.f
 repeat' first | (with_reducible exact ih0 _ _ _) | (with_reducible exact impl_WalkCost.mono _ _ _ _) | (with_reducible exact LeO.refl _) | (with_reducible refine LeO.ite ?_ ?_) | (with_reducible refine LeO.bind ?_ (fun _ => ?_))
set_option maxHeartbeats 8000000 in
set_option maxRecDepth 100000 in
theorem laws_wkAhead.calls (k : Nat) (a0_0 : Int) (A0_1 : Option Addr) (c0_1 : Nat) (l0_1 : List (S58)) (A1 : Option Addr) (c1 : Nat) (l1 : List Int) (A2 : Option Addr) (c2 : Nat) (l2 : List Int) (r : Bool) (w : World) (hr0_1 : Kd.C k58 w A0_1 l0_1.length l0_1) (hc0_1 : l0_1.length ≤ c0_1) (hr1 : Kd.C (Kd.int .i64) w A1 l1.length l1) (hc1 : l1.length ≤ c1) (hr2 : Kd.C (Kd.int .i64) w A2 l2.length l2) (hc2 : l2.length ≤ c2) (h : laws_wkAhead.f k a0_0 l0_1 l1 l2 = some r) :
  Calls Try.prog 30 #[.agg #[.int .i64 a0_0, .slice A0_1 l0_1.length c0_1], .slice A1 l1.length c1, .slice A2 l2.length c2] w fun e w' => e = .returned (.bool r) ∧ Below w.heap.size w w' := by
 have hu25 := Try.underlying25
 have HR0_1 := ak hr0_1
 have HC0_1 := ak hc0_1
 clear hr0_1 hc0_1
 have HR1 := ak hr1
 have HC1 := ak hc1
 clear hr1 hc1
 have HR2 := ak hr2
 have HC2 := ak hc2
 clear hr2 hc2
 have HB := ak (Below.refl w.heap.size w)
 have H : ((impl_WalkCost.f k a0_0 l0_1 l1).bind fun t404 => ((impl_WalkCost.f k a0_0 l0_1 l2).bind fun t405 => (if t404 = t405 then (if (l1.length : Int) = (l2.length : Int) then (laws_wkAhead.l0 k l1 l2 0) else (some (decide ((l1.length : Int) < (l2.length : Int))))) else (some (decide (t404 < t405)))))) = some r := h
 clear h
 replace H := Option.bind_eq_some_iff.mp H
 obtain ⟨t404, A40, H⟩ := H
 have A4 := ak A40
 clear A40
 replace H := Option.bind_eq_some_iff.mp H
 obtain ⟨t405, A50, H⟩ := H
 have A5 := ak A50
 clear A50
 by_cases c6 : t404 = t405
 rotate_left
 ·rw [if_neg c6] at H
  have c6b0 : (t404 == t405) = false := beq_eq_false_iff_ne.mpr c6
  have c6b1 : (t404 != t405) = true := bne_iff_ne.mpr c6
  obtain rfl := Option.some.inj H
  go_enter Try.func30, Try.ntmps30
  go_wp2_with (first | ((with_reducible refine gate_dst (N := 3) rfl ?_); refine box_event ?hg (N := 3) ?hd (cs := #[.int .i64 a0_0, .slice A0_1 l0_1.length c0_1]) (t := 25) ?hr ?_; (case hd => rfl); (case hg => rfl); (case hr => (go_simp; done)); intro gb403 hg w22 hbox hb; have BK403 := ak (hbox); have GW403 := ak ((by rw [hg]; exact (below_size (bl HB)) : w.heap.size ≤ gb403)); have GE403 := ak ((by rw [hg]; exact (below_size (bl HB)) : w.heap.size ≤ gb403)); replace HB := ak (below_step (bl HB) hb); clear hb hbox hg; have hcz23_0 := bc w22 BK403 0 (.int .i64 a0_0) rfl; have hcz23_1 := bc w22 BK403 1 (.slice A0_1 l0_1.length c0_1) rfl; have hfz23_0 := fz BK403 0; have hfz23_1 := fz BK403 1) | (go_at_call 16; (with_reducible refine (impl_WalkCost.calls k a0_0 _ _ l0_1 _ _ l1 t404 _ ?side1 ?side2 ?side3 ?side4 A4.out).mono ?_); (case side1 => repeat (exact (Kd.C_below HR0_1.out HB.out))); (case side2 => exact HC0_1.out); (case side3 => repeat (exact (Kd.C_below HR1.out HB.out))); (case side4 => exact HC1.out); rintro e w24 ⟨rfl, hb⟩; have n0_ := ak (blk_below (bk BK403) hb); have n1_ := ak (below_step (bl1 HB GE403) hb); clear BK403; clear HB; have BK403 := n0_; have HB := n1_; clear n0_ n1_; (try clear hb); (try clear hb2); (try clear hk); (try clear hi); have hcz25_0 := bc w24 BK403 0 (.int .i64 a0_0) rfl; have hcz25_1 := bc w24 BK403 1 (.slice A0_1 l0_1.length c0_1) rfl; have hfz25_0 := fz BK403 0; have hfz25_1 := fz BK403 1) | (go_at_call 16; (with_reducible refine (impl_WalkCost.calls k a0_0 _ _ l0_1 _ _ l2 t405 _ ?side1 ?side2 ?side3 ?side4 A5.out).mono ?_); (case side1 => repeat (exact (Kd.C_below HR0_1.out HB.out))); (case side2 => exact HC0_1.out); (case side3 => repeat (exact (Kd.C_below HR2.out HB.out))); (case side4 => exact HC2.out); rintro e w26 ⟨rfl, hb⟩; have n0_ := ak (blk_below (bk BK403) hb); have n1_ := ak (below_step (bl1 HB GE403) hb); clear BK403; clear HB; have BK403 := n0_; have HB := n1_; clear n0_ n1_; (try clear hb); (try clear hb2); (try clear hk); (try clear hi)) | go_step)
  go_ret
  exact ⟨by rfl, bl1 HB GE403⟩
 rw [if_pos c6] at H
 have c6b0 : (t404 == t405) = true := beq_iff_eq.mpr c6
 have c6b1 : (t404 != t405) = false := bne_eq_false_iff_eq.mpr c6
 clear c6
 by_cases c7 : (l1.length : Int) = (l2.length : Int)
 rotate_left
 ·rw [if_neg c7] at H
  have c7b0 : ((l1.length : Int) == (l2.length : Int)) = false := beq_eq_false_iff_ne.mpr c7
  have c7b1 : ((l1.length : Int) != (l2.length : Int)) = true := bne_iff_ne.mpr c7
  have c7b2 : (l1.length == l2.length) = false := by (simp at c7 ⊢; omega)
  obtain rfl := Option.some.inj H
  go_enter Try.func30, Try.ntmps30
  go_wp2_with (first | ((with_reducible refine gate_dst (N := 3) rfl ?_); refine box_event ?hg (N := 3) ?hd (cs := #[.int .i64 a0_0, .slice A0_1 l0_1.length c0_1]) (t := 25) ?hr ?_; (case hd => rfl); (case hg => rfl); (case hr => (go_simp; done)); intro gb403 hg w17 hbox hb; have BK403 := ak (hbox); have GW403 := ak ((by rw [hg]; exact (below_size (bl HB)) : w.heap.size ≤ gb403)); have GE403 := ak ((by rw [hg]; exact (below_size (bl HB)) : w.heap.size ≤ gb403)); replace HB := ak (below_step (bl HB) hb); clear hb hbox hg; have hcz18_0 := bc w17 BK403 0 (.int .i64 a0_0) rfl; have hcz18_1 := bc w17 BK403 1 (.slice A0_1 l0_1.length c0_1) rfl; have hfz18_0 := fz BK403 0; have hfz18_1 := fz BK403 1) | (go_at_call 16; (with_reducible refine (impl_WalkCost.calls k a0_0 _ _ l0_1 _ _ l1 t404 _ ?side1 ?side2 ?side3 ?side4 A4.out).mono ?_); (case side1 => repeat (exact (Kd.C_below HR0_1.out HB.out))); (case side2 => exact HC0_1.out); (case side3 => repeat (exact (Kd.C_below HR1.out HB.out))); (case side4 => exact HC1.out); rintro e w19 ⟨rfl, hb⟩; have n0_ := ak (blk_below (bk BK403) hb); have n1_ := ak (below_step (bl1 HB GE403) hb); clear BK403; clear HB; have BK403 := n0_; have HB := n1_; clear n0_ n1_; (try clear hb); (try clear hb2); (try clear hk); (try clear hi); have hcz20_0 := bc w19 BK403 0 (.int .i64 a0_0) rfl; have hcz20_1 := bc w19 BK403 1 (.slice A0_1 l0_1.length c0_1) rfl; have hfz20_0 := fz BK403 0; have hfz20_1 := fz BK403 1) | (go_at_call 16; (with_reducible refine (impl_WalkCost.calls k a0_0 _ _ l0_1 _ _ l2 t405 _ ?side1 ?side2 ?side3 ?side4 A5.out).mono ?_); (case side1 => repeat (exact (Kd.C_below HR0_1.out HB.out))); (case side2 => exact HC0_1.out); (case side3 => repeat (exact (Kd.C_below HR2.out HB.out))); (case side4 => exact HC2.out); rintro e w21 ⟨rfl, hb⟩; have n0_ := ak (blk_below (bk BK403) hb); have n1_ := ak (below_step (bl1 HB GE403) hb); clear BK403; clear HB; have BK403 := n0_; have HB := n1_; clear n0_ n1_; (try clear hb); (try clear hb2); (try clear hk); (try clear hi)) | go_step)
  go_ret
  exact ⟨by (simp [errW_none, errW_some] <;> rfl), bl1 HB GE403⟩
 rw [if_pos c7] at H
 have c7b0 : ((l1.length : Int) == (l2.length : Int)) = true := beq_iff_eq.mpr c7
 have c7b1 : ((l1.length : Int) != (l2.length : Int)) = false := bne_eq_false_iff_eq.mpr c7
 have c7b2 : (l1.length == l2.length) = true := by (simp at c7 ⊢; omega)
 clear c7
 have H' := ak H
 clear H
 go_enter Try.func30, Try.ntmps30
 go_wp2_with (first | ((with_reducible refine gate_dst (N := 3) rfl ?_); refine box_event ?hg (N := 3) ?hd (cs := #[.int .i64 a0_0, .slice A0_1 l0_1.length c0_1]) (t := 25) ?hr ?_; (case hd => rfl); (case hg => rfl); (case hr => (go_simp; done)); intro gb403 hg w8 hbox hb; have BK403 := ak (hbox); have GW403 := ak ((by rw [hg]; exact (below_size (bl HB)) : w.heap.size ≤ gb403)); have GE403 := ak ((by rw [hg]; exact (below_size (bl HB)) : w.heap.size ≤ gb403)); replace HB := ak (below_step (bl HB) hb); clear hb hbox hg; have hcz9_0 := bc w8 BK403 0 (.int .i64 a0_0) rfl; have hcz9_1 := bc w8 BK403 1 (.slice A0_1 l0_1.length c0_1) rfl; have hfz9_0 := fz BK403 0; have hfz9_1 := fz BK403 1) | (go_at_call 16; (with_reducible refine (impl_WalkCost.calls k a0_0 _ _ l0_1 _ _ l1 t404 _ ?side1 ?side2 ?side3 ?side4 A4.out).mono ?_); (case side1 => repeat (exact (Kd.C_below HR0_1.out HB.out))); (case side2 => exact HC0_1.out); (case side3 => repeat (exact (Kd.C_below HR1.out HB.out))); (case side4 => exact HC1.out); rintro e w10 ⟨rfl, hb⟩; have n0_ := ak (blk_below (bk BK403) hb); have n1_ := ak (below_step (bl1 HB GE403) hb); clear BK403; clear HB; have BK403 := n0_; have HB := n1_; clear n0_ n1_; (try clear hb); (try clear hb2); (try clear hk); (try clear hi); have hcz11_0 := bc w10 BK403 0 (.int .i64 a0_0) rfl; have hcz11_1 := bc w10 BK403 1 (.slice A0_1 l0_1.length c0_1) rfl; have hfz11_0 := fz BK403 0; have hfz11_1 := fz BK403 1) | (go_at_call 16; (with_reducible refine (impl_WalkCost.calls k a0_0 _ _ l0_1 _ _ l2 t405 _ ?side1 ?side2 ?side3 ?side4 A5.out).mono ?_); (case side1 => repeat (exact (Kd.C_below HR0_1.out HB.out))); (case side2 => exact HC0_1.out); (case side3 => repeat (exact (Kd.C_below HR2.out HB.out))); (case side4 => exact HC2.out); rintro e w12 ⟨rfl, hb⟩; have n0_ := ak (blk_below (bk BK403) hb); have n1_ := ak (below_step (bl1 HB GE403) hb); clear BK403; clear HB; have BK403 := n0_; have HB := n1_; clear n0_ n1_; (try clear hb); (try clear hb2); (try clear hk); (try clear hi)) | go_step)
 go_loopg [9] k (fun kq v9 w' => ∃ (x9_1 : Int), v9 = .int .i64 x9_1 ∧ Aside0 (laws_wkAhead.l0 kq l1 l2 x9_1 = some r) ∧ Aside0 (kq ≤ k) ∧ Aside0 (w'.heap[gb403]? = some (.cells #[.int .i64 a0_0, (.slice A0_1 l0_1.length c0_1)] 25 (0, 0))) ∧ Aside0 (Below w.heap.size w w'))
 case atStart => exact ⟨(0), (by rfl), H', ⟨Nat.le_refl _⟩, ⟨bk BK403⟩, ⟨bl1 HB GE403⟩⟩
 clear H'
 try clear c1
 try clear c2
 try clear p2
 try clear c3
 try clear c6
 try clear c6b0
 try clear c6b1
 try clear c7
 try clear c7b0
 try clear c7b1
 try clear c7b2
 try clear hcz11_0
 try clear hcz11_1
 try clear hcz9_0
 try clear hcz9_1
 try clear hfz11_0
 try clear hfz11_1
 try clear hfz9_0
 try clear hfz9_1
 obtain ⟨x9_1, rfl, HA, HK1, BK403, HB⟩ := hrel
 cases gk with
 | zero => exact absurd HA.out (by simp [laws_wkAhead.l0])
 | succ k1 =>
  have H := HA.out
  clear HA
  simp only [laws_wkAhead.l0] at H
  by_cases c13 : x9_1 < (l1.length : Int)
  rotate_left
  ·rw [if_neg c13] at H
   have c13b0 : decide (x9_1 < (l1.length : Int)) = false := decide_eq_false c13
   clear c13
   obtain rfl := Option.some.inj H
   go_wp2
   repeat (go_quiet (fail); try go_wp2)
   go_ret
   exact ⟨by rfl, bl1 HB GE403⟩
  rw [if_pos c13] at H
  have c13b0 : decide (x9_1 < (l1.length : Int)) = true := decide_eq_true c13
  clear c13
  by_cases c14 : 0 ≤ x9_1
  rotate_left
  ·rw [if_neg c14] at H
   exact absurd H (by simp)
  rw [if_pos c14] at H
  have c14b0 : decide (0 ≤ x9_1) = true := decide_eq_true c14
  clear c14
  by_cases c15 : x9_1 < (l2.length : Int)
  rotate_left
  ·rw [if_neg c15] at H
   exact absurd H (by simp)
  rw [if_pos c15] at H
  have c15b0 : decide (x9_1 < (l2.length : Int)) = true := decide_eq_true c15
  clear c15
  by_cases c16 : (rd l1 x9_1) = (rd l2 x9_1)
  ·rw [if_pos c16] at H
   have c16b0 : ((rd l1 x9_1) == (rd l2 x9_1)) = true := beq_iff_eq.mpr c16
   have c16b1 : ((rd l1 x9_1) != (rd l2 x9_1)) = false := bne_eq_false_iff_eq.mpr c16
   clear c16
   have H' := ak H
   clear H
   have p406 : 0 ≤ (x9_1 : Int) := oT (by (with_reducible assumption))
   have q406 : x9_1 < (l1.length : Int) := oT (by (with_reducible assumption))
   obtain ⟨ad406, e406, hx406_0⟩ := Kd.at_int HR1.out x9_1 p406 q406
   cases e406
   replace hx406_0 := hcb HB.out hx406_0
   replace p406 := eq_true p406
   replace q406 := eq_true q406
   have p407 : 0 ≤ (x9_1 : Int) := oT (by (with_reducible assumption))
   have q407 : x9_1 < (l2.length : Int) := oT (by (with_reducible assumption))
   obtain ⟨ad407, e407, hx407_0⟩ := Kd.at_int HR2.out x9_1 p407 q407
   cases e407
   replace hx407_0 := hcb HB.out hx407_0
   replace p407 := eq_true p407
   replace q407 := eq_true q407
   go_wp2
   repeat (go_quiet (fail); try go_wp2)
   go_roundg k1
   case measure => have := HK1.out; omega
   case rel => exact ⟨(wrap64 (x9_1 + 1)), (by rfl), H', ⟨by have := HK1.out; omega⟩, ⟨bk BK403⟩, ⟨bl1 HB GE403⟩⟩
  rw [if_neg c16] at H
  have c16b0 : ((rd l1 x9_1) == (rd l2 x9_1)) = false := beq_eq_false_iff_ne.mpr c16
  have c16b1 : ((rd l1 x9_1) != (rd l2 x9_1)) = true := bne_iff_ne.mpr c16
  obtain rfl := Option.some.inj H
  have p406 : 0 ≤ (x9_1 : Int) := oT (by (with_reducible assumption))
  have q406 : x9_1 < (l1.length : Int) := oT (by (with_reducible assumption))
  obtain ⟨ad406, e406, hx406_0⟩ := Kd.at_int HR1.out x9_1 p406 q406
  cases e406
  replace hx406_0 := hcb HB.out hx406_0
  replace p406 := eq_true p406
  replace q406 := eq_true q406
  have p407 : 0 ≤ (x9_1 : Int) := oT (by (with_reducible assumption))
  have q407 : x9_1 < (l2.length : Int) := oT (by (with_reducible assumption))
  obtain ⟨ad407, e407, hx407_0⟩ := Kd.at_int HR2.out x9_1 p407 q407
  cases e407
  replace hx407_0 := hcb HB.out hx407_0
  replace p407 := eq_true p407
  replace q407 := eq_true q407
  have p408 : 0 ≤ (x9_1 : Int) := oT (by (with_reducible assumption))
  have q408 : x9_1 < (l1.length : Int) := oT (by (with_reducible assumption))
  obtain ⟨ad408, e408, hx408_0⟩ := Kd.at_int HR1.out x9_1 p408 q408
  obtain rfl : ad406 = ad408 := (by injection e408)
  replace hx408_0 := hcb HB.out hx408_0
  replace p408 := eq_true p408
  replace q408 := eq_true q408
  have p409 : 0 ≤ (x9_1 : Int) := oT (by (with_reducible assumption))
  have q409 : x9_1 < (l2.length : Int) := oT (by (with_reducible assumption))
  obtain ⟨ad409, e409, hx409_0⟩ := Kd.at_int HR2.out x9_1 p409 q409
  obtain rfl : ad407 = ad409 := (by injection e409)
  replace hx409_0 := hcb HB.out hx409_0
  replace p409 := eq_true p409
  replace q409 := eq_true q409
  go_wp2
  repeat (go_quiet (fail); try go_wp2)
  go_ret
  exact ⟨by rfl, bl1 HB GE403⟩

end Go.Proofs.Ytlgolgfcolnddaa.F
