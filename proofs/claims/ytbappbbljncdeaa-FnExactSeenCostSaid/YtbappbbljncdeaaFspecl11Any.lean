-- Printed by wip/px/px.py of this claim's repository (the kit's printer, extended there). Lean checks it.
import Derived.Test.YtbappbbljncdeaaFKinds
import Derived.Test.YtbappbbljncdeaaFspecl1In
namespace Go.Proofs.Ytbappbbljncdeaa.F
open Go.RowKit Go.Proofs.YtbappbbljncdeaaW.PrintWords Go.Proofs.YtbappbbljncdeaaW.PrintLast Go.Proofs.YtbappbbljncdeaaW.PrintMore
attribute [local go_sem] max2_int min2_int max_two min_two max_three min_three max_four min_four   -- for this text's walks alone
set_option linter.unusedVariables false
set_option linter.unusedSimpArgs false

/-! ### spec_l11Any: function 95 -/
def spec_l11Any.l0 : Nat → List Int → Int → Int → List (S100) → Option (Bool)
 | 0, _, _, _, _ => none
 | k + 1, x1, x5, x896000, x896001 => if x5 < (x1.length : Int) then (if 0 ≤ x5 then ((spec_l1In.f (rd x1 x5) 0 (wrap64 (x896000 - 1))).bind fun t897 => (if t897 = true then (spec_l11Any.l0 k x1 (wrap64 (x5 + 1)) x896000 x896001) else (some false))) else (none)) else (some true)
def spec_l11Any.f (k : Nat) (a0_0 : Int) (l0_1 : List (S100)) (l1 : List Int) : Option (Bool) := spec_l11Any.l0 k l1 0 a0_0 l0_1
theorem spec_l11Any.mono_l : ∀ k, (∀ y0 y1 y2 y3, LeO (spec_l11Any.l0 k y0 y1 y2 y3) (spec_l11Any.l0 (k + 1) y0 y1 y2 y3))
 | 0 => fun _ _ _ _ r h => by simp [spec_l11Any.l0] at h
 | k + 1 => by
  have ih0 := spec_l11Any.mono_l k
  ·intro y0 y1 y2 y3
   unfold spec_l11Any.l0
   repeat' first | (with_reducible exact ih0 _ _ _ _) | (with_reducible exact LeO.refl _) | (with_reducible refine LeO.ite ?_ ?_) | (with_reducible refine LeO.bind ?_ (fun _ => ?_))
theorem spec_l11Any.mono : ∀ a0 a1 a2 k, LeO (spec_l11Any.f k a0 a1 a2) (spec_l11Any.f (k + 1) a0 a1 a2) := by
 intro a0 a1 a2 k
 have ih0 := spec_l11Any.mono_l k
 unfold spec_l11Any.f
 repeat' (with_reducible exact ih0 _ _ _ _)
set_option maxHeartbeats 8000000 in
set_option maxRecDepth 100000 in
theorem spec_l11Any.calls (k : Nat) (a0_0 : Int) (A0_1 : Option Addr) (c0_1 : Nat) (l0_1 : List (S100)) (A1 : Option Addr) (c1 : Nat) (l1 : List Int) (r : Bool) (w : World) (hr0_1 : Kd.C k100 w A0_1 l0_1.length l0_1) (hc0_1 : l0_1.length ≤ c0_1) (hr1 : Kd.C (Kd.int .i64) w A1 l1.length l1) (hc1 : l1.length ≤ c1) (h : spec_l11Any.f k a0_0 l0_1 l1 = some r) :
  Calls Try.prog 95 #[.agg #[.int .i64 a0_0, .slice A0_1 l0_1.length c0_1], .slice A1 l1.length c1] w fun e w' => e = .returned (.bool r) ∧ Below w.heap.size w w' := by
 have hu30 := Try.underlying30
 have HR0_1 := ak hr0_1
 have HC0_1 := ak hc0_1
 clear hr0_1 hc0_1
 have HR1 := ak hr1
 have HC1 := ak hc1
 clear hr1 hc1
 have HB := ak (Below.refl w.heap.size w)
 have H : (spec_l11Any.l0 k l1 0 a0_0 l0_1) = some r := h
 clear h
 have H' := ak H
 clear H
 go_enter Try.func95, Try.ntmps95
 go_wp2_with (((with_reducible refine gate_dst (N := 2) rfl ?_); refine box_event ?hg (N := 2) ?hd (cs := #[.int .i64 a0_0, .slice A0_1 l0_1.length c0_1]) (t := 30) ?hr ?_; (case hd => rfl); (case hg => rfl); (case hr => (go_simp; done)); intro gb895 hg w3 hbox hb; have BK895 := ak (hbox); have GW895 := ak ((by rw [hg]; exact (below_size (bl HB)) : w.heap.size ≤ gb895)); have GE895 := ak ((by rw [hg]; exact (below_size (bl HB)) : w.heap.size ≤ gb895)); replace HB := ak (below_step (bl HB) hb); clear hb hbox hg))
 repeat (go_quiet (fail); try go_wp2_with (fail))
 go_loopg [5] k (fun kq v5 w' => ∃ (x5_1 : Int), v5 = .int .i64 x5_1 ∧ Aside0 (spec_l11Any.l0 kq l1 x5_1 a0_0 l0_1 = some r) ∧ Aside0 (kq ≤ k) ∧ Aside0 (w'.heap[gb895]? = some (.cells #[.int .i64 a0_0, (.slice A0_1 l0_1.length c0_1)] 30 (0, 0))) ∧ Aside0 (Below w.heap.size w w'))
 case atStart => exact ⟨(0), (by rfl), H', ⟨Nat.le_refl _⟩, ⟨bk BK895⟩, ⟨bl1 HB GE895⟩⟩
 clear H'
 try clear c1
 try clear p2
 obtain ⟨x5_1, rfl, HA, HK1, BK895, HB⟩ := hrel
 cases gk with
 | zero => exact absurd HA.out (by simp [spec_l11Any.l0])
 | succ k1 =>
  have H := HA.out
  clear HA
  simp only [spec_l11Any.l0] at H
  by_cases c4 : x5_1 < (l1.length : Int)
  rotate_left
  ·rw [if_neg c4] at H
   have c4b0 : decide (x5_1 < (l1.length : Int)) = false := decide_eq_false c4
   clear c4
   obtain rfl := Option.some.inj H
   go_wp2
   repeat (go_quiet (fail); try go_wp2)
   go_ret
   exact ⟨by rfl, bl1 HB GE895⟩
  rw [if_pos c4] at H
  have c4b0 : decide (x5_1 < (l1.length : Int)) = true := decide_eq_true c4
  clear c4
  by_cases c5 : 0 ≤ x5_1
  rotate_left
  ·rw [if_neg c5] at H
   exact absurd H (by simp)
  rw [if_pos c5] at H
  have c5b0 : decide (0 ≤ x5_1) = true := decide_eq_true c5
  clear c5
  replace H := Option.bind_eq_some_iff.mp H
  obtain ⟨t897, A60, H⟩ := H
  have A6 := ak A60
  clear A60
  by_cases c7 : t897 = true
  rotate_left
  ·replace c7 := Bool.eq_false_iff.mpr c7
   subst c7
   rw [if_neg (show ¬ (false = true) by decide)] at H
   obtain rfl := Option.some.inj H
   have p896 : 0 ≤ (x5_1 : Int) := oT (by (with_reducible assumption))
   have q896 : x5_1 < (l1.length : Int) := oT (by (with_reducible assumption))
   obtain ⟨ad896, e896, hx896_0⟩ := Kd.at_int HR1.out x5_1 p896 q896
   cases e896
   replace hx896_0 := hcb HB.out hx896_0
   replace p896 := eq_true p896
   replace q896 := eq_true q896
   have hcz9_0 := bc wr BK895 0 (.int .i64 a0_0) rfl
   have hcz9_1 := bc wr BK895 1 (.slice A0_1 l0_1.length c0_1) rfl
   have hfz9_0 := fz BK895 0
   have hfz9_1 := fz BK895 1
   go_wp2_with (fail)
   repeat (go_quiet ((go_at_call 70; (try simp only [i64_w, i32_w]); (with_reducible refine (spec_l1In.calls (rd l1 x5_1) 0 (wrap64 (a0_0 - 1)) false _ A6.out).mono ?_); rintro e w' ⟨rfl, ⟨nd, rfl⟩⟩; (try exact ⟨rfl, _, World.drewN_drewN _ _ _⟩))); try go_wp2_with (fail))
   go_ret
   exact ⟨by rfl, bl1 HB GE895⟩
  subst c7
  rw [if_pos rfl] at H
  have H' := ak H
  clear H
  have p896 : 0 ≤ (x5_1 : Int) := oT (by (with_reducible assumption))
  have q896 : x5_1 < (l1.length : Int) := oT (by (with_reducible assumption))
  obtain ⟨ad896, e896, hx896_0⟩ := Kd.at_int HR1.out x5_1 p896 q896
  cases e896
  replace hx896_0 := hcb HB.out hx896_0
  replace p896 := eq_true p896
  replace q896 := eq_true q896
  have hcz8_0 := bc wr BK895 0 (.int .i64 a0_0) rfl
  have hcz8_1 := bc wr BK895 1 (.slice A0_1 l0_1.length c0_1) rfl
  have hfz8_0 := fz BK895 0
  have hfz8_1 := fz BK895 1
  go_wp2_with (fail)
  repeat (go_quiet ((go_at_call 70; (try simp only [i64_w, i32_w]); (with_reducible refine (spec_l1In.calls (rd l1 x5_1) 0 (wrap64 (a0_0 - 1)) true _ A6.out).mono ?_); rintro e w' ⟨rfl, ⟨nd, rfl⟩⟩; (try exact ⟨rfl, _, World.drewN_drewN _ _ _⟩))); try go_wp2_with (fail))
  go_roundg k1
  case measure => have := HK1.out; omega
  case rel => exact ⟨(wrap64 (x5_1 + 1)), (by rfl), H', ⟨by have := HK1.out; omega⟩, ⟨bk BK895⟩, ⟨bl1 HB GE895⟩⟩

end Go.Proofs.Ytbappbbljncdeaa.F
