-- Printed by wip/px/px.py of this claim's repository (the kit's printer, extended there). Lean checks it.
import Derived.Test.YtlgolgfcolnddaaFKinds
import Derived.Test.YtlgolgfcolnddaaFspecl12In
namespace Go.Proofs.Ytlgolgfcolnddaa.F
open Go.RowKit Go.Proofs.YtlgolgfcolnddaaW.PrintWords Go.Proofs.YtlgolgfcolnddaaW.PrintLast Go.Proofs.YtlgolgfcolnddaaW.PrintMore
attribute [local go_sem] max2_int min2_int max_two min_two max_three min_three max_four min_four   -- for this text's walks alone
set_option linter.unusedVariables false
set_option linter.unusedSimpArgs false

/-! ### spec_l14Share: function 57 -/
def spec_l14Share.l0 : Nat → List Int → List Int → Int → Int → Int → List (S58) → Option (Int)
 | 0, _, _, _, _, _, _ => none
 | k + 1, x1, x2, x7, x8, x304000, x304001 => if x8 < (x1.length : Int) then (if 0 ≤ x8 then ((spec_l12In.f k x2 (rd x1 x8)).bind fun t305 => (if t305 = true then (if 0 ≤ (rd x1 x8) then (if (rd x1 x8) < (x304001.length : Int) then (spec_l14Share.l0 k x1 x2 (wrap64 (x7 + ((rd_T58 x304001 (rd x1 x8)).f2))) (wrap64 (x8 + 1)) x304000 x304001) else (none)) else (none)) else (spec_l14Share.l0 k x1 x2 x7 (wrap64 (x8 + 1)) x304000 x304001))) else (none)) else (some x7)
def spec_l14Share.f (k : Nat) (a0_0 : Int) (l0_1 : List (S58)) (l1 : List Int) (l2 : List Int) : Option (Int) := spec_l14Share.l0 k l1 l2 0 0 a0_0 l0_1
theorem spec_l14Share.mono_l : ∀ k, (∀ y0 y1 y2 y3 y4 y5, LeO (spec_l14Share.l0 k y0 y1 y2 y3 y4 y5) (spec_l14Share.l0 (k + 1) y0 y1 y2 y3 y4 y5))
 | 0 => fun _ _ _ _ _ _ r h => by simp [spec_l14Share.l0] at h
 | k + 1 => by
  have ih0 := spec_l14Share.mono_l k
  ·intro y0 y1 y2 y3 y4 y5
   unfold spec_l14Share.l0
   repeat' first
   | (with_reducible exact ih0 _ _ _ _ _ _)
   | (with_reducible exact spec_l12In.mono _ _ _)
   | (with_reducible exact LeO.refl _)
   | (with_reducible exact LeO.none _)
   | (with_reducible refine LeO.ite ?_ ?_)
   | (with_reducible refine LeO.bind ?_ (fun _ => ?_))
   | exact ih0 _ _ _ _ _ _
   | exact spec_l12In.mono _ _ _
   | exact LeO.none _
   | refine LeO.ite ?_ ?_
   | refine LeO.bind ?_ (fun _ => ?_)
theorem spec_l14Share.mono : ∀ a0 a1 a2 a3 k, LeO (spec_l14Share.f k a0 a1 a2 a3) (spec_l14Share.f (k + 1) a0 a1 a2 a3) := by
 intro a0 a1 a2 a3 k
 have ih0 := spec_l14Share.mono_l k
 unfold spec_l14Share.f
 repeat' first
   | (with_reducible exact ih0 _ _ _ _ _ _)
   | (with_reducible exact spec_l12In.mono _ _ _)
   | (with_reducible exact LeO.refl _)
   | (with_reducible exact LeO.none _)
   | (with_reducible refine LeO.ite ?_ ?_)
   | (with_reducible refine LeO.bind ?_ (fun _ => ?_))
   | exact ih0 _ _ _ _ _ _
   | exact spec_l12In.mono _ _ _
   | exact LeO.none _
   | refine LeO.ite ?_ ?_
   | refine LeO.bind ?_ (fun _ => ?_)
set_option maxHeartbeats 8000000 in
set_option maxRecDepth 100000 in
theorem spec_l14Share.calls (k : Nat) (a0_0 : Int) (A0_1 : Option Addr) (c0_1 : Nat) (l0_1 : List (S58)) (A1 : Option Addr) (c1 : Nat) (l1 : List Int) (A2 : Option Addr) (c2 : Nat) (l2 : List Int) (r : Int) (w : World) (hr0_1 : Kd.C k58 w A0_1 l0_1.length l0_1) (hc0_1 : l0_1.length ≤ c0_1) (hr1 : Kd.C (Kd.int .i64) w A1 l1.length l1) (hc1 : l1.length ≤ c1) (hr2 : Kd.C (Kd.int .i64) w A2 l2.length l2) (hc2 : l2.length ≤ c2) (h : spec_l14Share.f k a0_0 l0_1 l1 l2 = some r) :
  Calls Try.prog 57 #[.agg #[.int .i64 a0_0, .slice A0_1 l0_1.length c0_1], .slice A1 l1.length c1, .slice A2 l2.length c2] w fun e w' => e = .returned (.int .i64 r) ∧ Below w.heap.size w w' := by
 have hu25 := Try.underlying25
 have HR0_1 := ak hr0_1
 have HC0_1 := ak hc0_1
 clear hr0_1 hc0_1
 have HR1 := ak hr1
 have HC1 := ak hc1
 clear hr1 hc1
 have HR2 := ak hr2
 have HC2 := ak hc2
 clear hr2 hc2
 have HB := ak (Below.refl w.heap.size w)
 have H : (spec_l14Share.l0 k l1 l2 0 0 a0_0 l0_1) = some r := h
 clear h
 have H' := ak H
 clear H
 go_enter Try.func57, Try.ntmps57
 go_wp2_with (first | ((with_reducible refine gate_dst (N := 3) rfl ?_); refine box_event ?hg (N := 3) ?hd (cs := #[.int .i64 a0_0, .slice A0_1 l0_1.length c0_1]) (t := 25) ?hr ?_; (case hd => rfl); (case hg => rfl); (case hr => first | (go_simp; done) | (go_simp; rfl)); intro gb303 hg w4 hbox hb; have BK303 := ak (hbox); have GW303 := ak ((by rw [hg]; exact (below_size (bl HB)) : w.heap.size ≤ gb303)); have GE303 := ak ((by rw [hg]; exact (below_size (bl HB)) : w.heap.size ≤ gb303)); replace HB := ak (below_step (bl HB) hb); clear hb hbox hg))
 repeat (go_quiet (first | ((with_reducible refine gate_dst (N := 3) rfl ?_); refine box_event ?hg (N := 3) ?hd (cs := #[.int .i64 a0_0, .slice A0_1 l0_1.length c0_1]) (t := 25) ?hr ?_; (case hd => rfl); (case hg => rfl); (case hr => first | (go_simp; done) | (go_simp; rfl)); intro gb303 hg w4 hbox hb; have BK303 := ak (hbox); have GW303 := ak ((by rw [hg]; exact (below_size (bl HB)) : w.heap.size ≤ gb303)); have GE303 := ak ((by rw [hg]; exact (below_size (bl HB)) : w.heap.size ≤ gb303)); replace HB := ak (below_step (bl HB) hb); clear hb hbox hg)); try go_wp2_with (first | ((with_reducible refine gate_dst (N := 3) rfl ?_); refine box_event ?hg (N := 3) ?hd (cs := #[.int .i64 a0_0, .slice A0_1 l0_1.length c0_1]) (t := 25) ?hr ?_; (case hd => rfl); (case hg => rfl); (case hr => first | (go_simp; done) | (go_simp; rfl)); intro gb303 hg w4 hbox hb; have BK303 := ak (hbox); have GW303 := ak ((by rw [hg]; exact (below_size (bl HB)) : w.heap.size ≤ gb303)); have GE303 := ak ((by rw [hg]; exact (below_size (bl HB)) : w.heap.size ≤ gb303)); replace HB := ak (below_step (bl HB) hb); clear hb hbox hg)))
 go_loopg [7, 8] k (fun kq v7 v8 w' => ∃ (x7_1 : Int) (x8_1 : Int), v7 = .int .i64 x7_1 ∧ v8 = .int .i64 x8_1 ∧ Aside0 (spec_l14Share.l0 kq l1 l2 x7_1 x8_1 a0_0 l0_1 = some r) ∧ Aside0 (kq ≤ k) ∧ Aside0 (w'.heap[gb303]? = some (.cells #[.int .i64 a0_0, (.slice A0_1 l0_1.length c0_1)] 25 (0, 0))) ∧ Aside0 (Below w.heap.size w w'))
 case atStart => exact ⟨(0), (0), (by first | rfl | (simp; done) | (simp [*]; done)), (by first | rfl | (simp; done) | (simp [*]; done)), H', ⟨Nat.le_refl _⟩, ⟨bk BK303⟩, ⟨bl1 HB GE303⟩⟩
 clear H'
 try clear c1
 try clear c2
 try clear p2
 obtain ⟨x7_1, x8_1, rfl, rfl, HA, HK1, BK303, HB⟩ := hrel
 cases gk with
 | zero => exact absurd HA.out (by simp [spec_l14Share.l0])
 | succ k1 =>
  have H := HA.out
  clear HA
  simp only [spec_l14Share.l0] at H
  by_cases c5 : x8_1 < (l1.length : Int)
  rotate_left
  ·rw [if_neg c5] at H
   have c5b0 : decide (x8_1 < (l1.length : Int)) = false := decide_eq_false c5
   clear c5
   obtain rfl := Option.some.inj H
   go_wp2
   repeat (go_quiet (fail); try go_wp2)
   go_ret
   exact ⟨by first | rfl | (simp [errW_none, errW_some] <;> rfl) | (simp [*, errW_none, errW_some] <;> rfl), bl1 HB GE303⟩
  rw [if_pos c5] at H
  have c5b0 : decide (x8_1 < (l1.length : Int)) = true := decide_eq_true c5
  clear c5
  by_cases c6 : 0 ≤ x8_1
  rotate_left
  ·rw [if_neg c6] at H
   exact absurd H (by simp)
  rw [if_pos c6] at H
  have c6b0 : decide (0 ≤ x8_1) = true := decide_eq_true c6
  clear c6
  replace H := Option.bind_eq_some_iff.mp H
  obtain ⟨t305, A70, H⟩ := H
  have A7 := ak A70
  clear A70
  by_cases c8 : t305 = true
  rotate_left
  ·replace c8 := Bool.eq_false_iff.mpr c8
   subst c8
   rw [if_neg (show ¬ (false = true) by decide)] at H
   have H' := ak H
   clear H
   have p304 : 0 ≤ (x8_1 : Int) := oT (by first | (with_reducible assumption) | assumption)
   have q304 : x8_1 < (l1.length : Int) := oT (by first | (with_reducible assumption) | assumption)
   obtain ⟨ad304, e304, hx304_0⟩ := Kd.at_int HR1.out x8_1 p304 q304
   cases e304
   replace hx304_0 := hcb HB.out hx304_0
   replace p304 := eq_true p304
   replace q304 := eq_true q304
   go_wp2_with (first | (go_at_call 91; (with_reducible refine (spec_l12In.calls k1 _ _ l2 (rd l1 x8_1) false _ ?side1 ?side2 A7.out).mono ?_); (case side1 => repeat (first | exact (Kd.C_below HR2.out HB.out) | (with_reducible refine Kd.C_alloc ?_ _) | (with_reducible refine Kd.C_drewN ?_ _) | (with_reducible refine Kd.C_drew ?_))); (case side2 => exact HC2.out); rintro e w' ⟨rfl, ⟨nd, rfl⟩⟩; (try first | exact ⟨rfl, _, World.drewN_drewN _ _ _⟩ | exact ⟨rfl, _, Eq.trans (World.drewN_drewN _ _ _) (congrArg (World.drewN _) (Nat.add_assoc _ _ _))⟩)))
   repeat (go_quiet (first | (go_at_call 91; (with_reducible refine (spec_l12In.calls k1 _ _ l2 (rd l1 x8_1) false _ ?side1 ?side2 A7.out).mono ?_); (case side1 => repeat (first | exact (Kd.C_below HR2.out HB.out) | (with_reducible refine Kd.C_alloc ?_ _) | (with_reducible refine Kd.C_drewN ?_ _) | (with_reducible refine Kd.C_drew ?_))); (case side2 => exact HC2.out); rintro e w' ⟨rfl, ⟨nd, rfl⟩⟩; (try first | exact ⟨rfl, _, World.drewN_drewN _ _ _⟩ | exact ⟨rfl, _, Eq.trans (World.drewN_drewN _ _ _) (congrArg (World.drewN _) (Nat.add_assoc _ _ _))⟩))); try go_wp2_with (first | (go_at_call 91; (with_reducible refine (spec_l12In.calls k1 _ _ l2 (rd l1 x8_1) false _ ?side1 ?side2 A7.out).mono ?_); (case side1 => repeat (first | exact (Kd.C_below HR2.out HB.out) | (with_reducible refine Kd.C_alloc ?_ _) | (with_reducible refine Kd.C_drewN ?_ _) | (with_reducible refine Kd.C_drew ?_))); (case side2 => exact HC2.out); rintro e w' ⟨rfl, ⟨nd, rfl⟩⟩; (try first | exact ⟨rfl, _, World.drewN_drewN _ _ _⟩ | exact ⟨rfl, _, Eq.trans (World.drewN_drewN _ _ _) (congrArg (World.drewN _) (Nat.add_assoc _ _ _))⟩))))
   go_roundg k1
   case measure => have := HK1.out; omega
   case rel => exact ⟨(x7_1), (wrap64 (x8_1 + 1)), (by first | rfl | (simp; done) | (simp [*]; done)), (by first | rfl | (simp; done) | (simp [*]; done)), H', ⟨by have := HK1.out; omega⟩, ⟨bk BK303⟩, ⟨bl1 HB GE303⟩⟩
  subst c8
  rw [if_pos rfl] at H
  by_cases c9 : 0 ≤ (rd l1 x8_1)
  rotate_left
  ·rw [if_neg c9] at H
   exact absurd H (by simp)
  rw [if_pos c9] at H
  have c9b0 : decide (0 ≤ (rd l1 x8_1)) = true := decide_eq_true c9
  clear c9
  by_cases c10 : (rd l1 x8_1) < (l0_1.length : Int)
  rotate_left
  ·rw [if_neg c10] at H
   exact absurd H (by simp)
  rw [if_pos c10] at H
  have c10b0 : decide ((rd l1 x8_1) < (l0_1.length : Int)) = true := decide_eq_true c10
  clear c10
  have H' := ak H
  clear H
  have p304 : 0 ≤ (x8_1 : Int) := oT (by first | (with_reducible assumption) | assumption)
  have q304 : x8_1 < (l1.length : Int) := oT (by first | (with_reducible assumption) | assumption)
  obtain ⟨ad304, e304, hx304_0⟩ := Kd.at_int HR1.out x8_1 p304 q304
  cases e304
  replace hx304_0 := hcb HB.out hx304_0
  replace p304 := eq_true p304
  replace q304 := eq_true q304
  have hcz11_0 := bc wr BK303 0 (.int .i64 a0_0) rfl
  have hcz11_1 := bc wr BK303 1 (.slice A0_1 l0_1.length c0_1) rfl
  have hfz11_0 := fz BK303 0
  have hfz11_1 := fz BK303 1
  have p306 : 0 ≤ (x8_1 : Int) := oT (by first | (with_reducible assumption) | assumption)
  have q306 : x8_1 < (l1.length : Int) := oT (by first | (with_reducible assumption) | assumption)
  obtain ⟨ad306, e306, hx306_0⟩ := Kd.at_int HR1.out x8_1 p306 q306
  obtain rfl : ad304 = ad306 := (by injection e306)
  replace hx306_0 := hcb HB.out hx306_0
  replace p306 := eq_true p306
  replace q306 := eq_true q306
  have p307 : 0 ≤ ((rd l1 x8_1) : Int) := oT (by first | (with_reducible assumption) | assumption)
  have q307 : (rd l1 x8_1) < (l0_1.length : Int) := oT (by first | (with_reducible assumption) | assumption)
  obtain ⟨ad307, e307, hx307_0, hx307_1, hx307_2, hx307_3, hx307_4⟩ := at_T58 HR0_1.out (rd l1 x8_1) p307 q307
  cases e307
  replace hx307_0 := hcb HB.out hx307_0
  replace hx307_1 := hcb HB.out hx307_1
  replace hx307_2 := hcb HB.out hx307_2
  replace hx307_3 := hcb HB.out hx307_3
  replace hx307_4 := hcb HB.out hx307_4
  replace p307 := eq_true p307
  replace q307 := eq_true q307
  go_wp2_with (first | (go_at_call 91; (with_reducible refine (spec_l12In.calls k1 _ _ l2 (rd l1 x8_1) true _ ?side1 ?side2 A7.out).mono ?_); (case side1 => repeat (first | exact (Kd.C_below HR2.out HB.out) | (with_reducible refine Kd.C_alloc ?_ _) | (with_reducible refine Kd.C_drewN ?_ _) | (with_reducible refine Kd.C_drew ?_))); (case side2 => exact HC2.out); rintro e w' ⟨rfl, ⟨nd, rfl⟩⟩; (try first | exact ⟨rfl, _, World.drewN_drewN _ _ _⟩ | exact ⟨rfl, _, Eq.trans (World.drewN_drewN _ _ _) (congrArg (World.drewN _) (Nat.add_assoc _ _ _))⟩)))
  repeat (go_quiet (first | (go_at_call 91; (with_reducible refine (spec_l12In.calls k1 _ _ l2 (rd l1 x8_1) true _ ?side1 ?side2 A7.out).mono ?_); (case side1 => repeat (first | exact (Kd.C_below HR2.out HB.out) | (with_reducible refine Kd.C_alloc ?_ _) | (with_reducible refine Kd.C_drewN ?_ _) | (with_reducible refine Kd.C_drew ?_))); (case side2 => exact HC2.out); rintro e w' ⟨rfl, ⟨nd, rfl⟩⟩; (try first | exact ⟨rfl, _, World.drewN_drewN _ _ _⟩ | exact ⟨rfl, _, Eq.trans (World.drewN_drewN _ _ _) (congrArg (World.drewN _) (Nat.add_assoc _ _ _))⟩))); try go_wp2_with (first | (go_at_call 91; (with_reducible refine (spec_l12In.calls k1 _ _ l2 (rd l1 x8_1) true _ ?side1 ?side2 A7.out).mono ?_); (case side1 => repeat (first | exact (Kd.C_below HR2.out HB.out) | (with_reducible refine Kd.C_alloc ?_ _) | (with_reducible refine Kd.C_drewN ?_ _) | (with_reducible refine Kd.C_drew ?_))); (case side2 => exact HC2.out); rintro e w' ⟨rfl, ⟨nd, rfl⟩⟩; (try first | exact ⟨rfl, _, World.drewN_drewN _ _ _⟩ | exact ⟨rfl, _, Eq.trans (World.drewN_drewN _ _ _) (congrArg (World.drewN _) (Nat.add_assoc _ _ _))⟩))))
  go_roundg k1
  case measure => have := HK1.out; omega
  case rel => exact ⟨(wrap64 (x7_1 + ((rd_T58 l0_1 (rd l1 x8_1)).f2))), (wrap64 (x8_1 + 1)), (by first | rfl | (simp; done) | (simp [*]; done)), (by first | rfl | (simp; done) | (simp [*]; done)), H', ⟨by have := HK1.out; omega⟩, ⟨bk BK303⟩, ⟨bl1 HB GE303⟩⟩

end Go.Proofs.Ytlgolgfcolnddaa.F
