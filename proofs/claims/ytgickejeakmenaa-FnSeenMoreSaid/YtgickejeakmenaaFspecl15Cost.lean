-- Printed by wip/px/px.py of this claim's repository (the kit's printer, extended there). Lean checks it.
import Derived.Test.YtgickejeakmenaaFKinds
import Derived.Test.YtgickejeakmenaaFspecl3All
namespace Go.Proofs.Ytgickejeakmenaa.F
open Go.RowKit Go.Proofs.YtgickejeakmenaaW.PrintWords Go.Proofs.YtgickejeakmenaaW.PrintLast Go.Proofs.YtgickejeakmenaaW.PrintMore
attribute [local go_sem] max2_int min2_int max_two min_two max_three min_three max_four min_four   -- for this text's walks alone
set_option linter.unusedVariables false
set_option linter.unusedSimpArgs false

/-! ### spec_l15Cost: function 94 -/
def spec_l15Cost.l0 : Nat → List (List Int) → List Int → Int → Int → Int → List (S41) → Option (Int)
 | 0, _, _, _, _, _, _ => none
 | k + 1, x1, x2, x7, x8, x489000, x489001 => if x8 < (x2.length : Int) then (if 0 ≤ x8 then (if x8 < (x1.length : Int) then (if 0 ≤ (rd x2 x8) then (if (rd x2 x8) < ((rd_L3 x1 x8).length : Int) then (if x8 > 0 then (if 0 ≤ (wrap64 (x8 - 1)) then (if (wrap64 (x8 - 1)) < (x2.length : Int) then ((spec_l3All.f k x489000 x489001 (rd x2 (wrap64 (x8 - 1)))).bind fun t493 => (if (rd x2 x8) < (t493.length : Int) then (if (rd t493 (rd x2 x8)) ≥ 99999 then (some 99999) else (spec_l15Cost.l0 k x1 x2 (wrap64 ((wrap64 (x7 + (rd (rd_L3 x1 x8) (rd x2 x8)))) + (rd t493 (rd x2 x8)))) (wrap64 (x8 + 1)) x489000 x489001)) else (none))) else (none)) else (none)) else (spec_l15Cost.l0 k x1 x2 (wrap64 (x7 + (rd (rd_L3 x1 x8) (rd x2 x8)))) (wrap64 (x8 + 1)) x489000 x489001)) else (none)) else (none)) else (none)) else (none)) else (some x7)
def spec_l15Cost.f (k : Nat) (a0_0 : Int) (l0_1 : List (S41)) (l1 : List (List Int)) (l2 : List Int) : Option (Int) := spec_l15Cost.l0 k l1 l2 0 0 a0_0 l0_1
theorem spec_l15Cost.mono_l : ∀ k, (∀ y0 y1 y2 y3 y4 y5, LeO (spec_l15Cost.l0 k y0 y1 y2 y3 y4 y5) (spec_l15Cost.l0 (k + 1) y0 y1 y2 y3 y4 y5))
 | 0 => fun _ _ _ _ _ _ r h => by simp [spec_l15Cost.l0] at h
 | k + 1 => by
  have ih0 := spec_l15Cost.mono_l k
  ·intro y0 y1 y2 y3 y4 y5
   unfold spec_l15Cost.l0
   repeat' first
   | (with_reducible exact ih0 _ _ _ _ _ _)
   | (with_reducible exact spec_l3All.mono _ _ _ _)
   | (with_reducible exact LeO.refl _)
   | (with_reducible exact LeO.none _)
   | (with_reducible refine LeO.ite ?_ ?_)
   | (with_reducible refine LeO.bind ?_ (fun _ => ?_))
   | exact ih0 _ _ _ _ _ _
   | exact spec_l3All.mono _ _ _ _
   | exact LeO.none _
   | refine LeO.ite ?_ ?_
   | refine LeO.bind ?_ (fun _ => ?_)
theorem spec_l15Cost.mono : ∀ a0 a1 a2 a3 k, LeO (spec_l15Cost.f k a0 a1 a2 a3) (spec_l15Cost.f (k + 1) a0 a1 a2 a3) := by
 intro a0 a1 a2 a3 k
 have ih0 := spec_l15Cost.mono_l k
 unfold spec_l15Cost.f
 repeat' first
   | (with_reducible exact ih0 _ _ _ _ _ _)
   | (with_reducible exact spec_l3All.mono _ _ _ _)
   | (with_reducible exact LeO.refl _)
   | (with_reducible exact LeO.none _)
   | (with_reducible refine LeO.ite ?_ ?_)
   | (with_reducible refine LeO.bind ?_ (fun _ => ?_))
   | exact ih0 _ _ _ _ _ _
   | exact spec_l3All.mono _ _ _ _
   | exact LeO.none _
   | refine LeO.ite ?_ ?_
   | refine LeO.bind ?_ (fun _ => ?_)
def spec_l15Cost.T5 : Bool × List (List Nat × List Nat) := (true, [([], []), ([], []), ([], []), ([1, 2], [1, 2]), ([3], [3]), ([], []), ([], []), ([5, 6], [5, 6]), ([7], [7]), ([4, 8], [4, 8]), ([9], [9]), ([0, 10], [0, 10]), ([11, 0, 1, 2, 3, 4, 5, 6, 7, 8, 9, 10, 11], [0, 11])])
def spec_l15Cost.B5 : List Nat := [0, 0, 0, 6, 14, 0, 0, 96, 224, 510, 1022, 2047, 4095]
theorem spec_l15Cost.tab5 : rtab .any (opsOf Try.f94 5) = spec_l15Cost.T5 := by kernel_rfl
theorem spec_l15Cost.bits5 : waitsOk spec_l15Cost.T5.2 spec_l15Cost.B5 = true := by kernel_rfl
def spec_l15Cost.T7 : Bool × List (List Nat × List Nat) := (true, [([], []), ([], []), ([], []), ([2], [2]), ([1, 3], [1, 3]), ([4], [4]), ([0, 5], [0, 5]), ([], []), ([], []), ([7, 8], [7, 8]), ([9], [9]), ([6, 10], [6, 10]), ([11], [11]), ([12, 6, 0, 1, 2, 3, 4, 5, 6, 7, 8, 9, 10, 11, 12], [12])])
def spec_l15Cost.B7 : List Nat := [0, 0, 0, 4, 14, 30, 63, 0, 0, 384, 896, 2047, 4095, 8191]
theorem spec_l15Cost.tab7 : rtab .any (opsOf Try.f94 7) = spec_l15Cost.T7 := by kernel_rfl
theorem spec_l15Cost.bits7 : waitsOk spec_l15Cost.T7.2 spec_l15Cost.B7 = true := by kernel_rfl
theorem spec_l15Cost.restart {P : Program} {md : Region.Mode} {ops : Array Oper} {Q : Exit → Act → World → Prop} {S S' : World → Prop} (h : ∀ w, S' w → S w) : ∀ {fuel : Nat} {l : Array Bool} {a : Act} {w : World}, S' w → (S' w → wpAnyLast P md ops Q S' [] fuel l a w) → wpAnyLast P md ops Q S [] fuel l a w := by
 have key : ∀ (fuel : Nat) (l : Array Bool) (a : Act) (w : World), S' w → wpAnyLast P md ops Q S' [] fuel l a w → wpAnyLast P md ops Q S [] fuel l a w := by
  intro fuel
  induction fuel with
  | zero => intro l a w _ hk; exact hk
  | succ n ih =>
   intro l a w hS hk
   refine ⟨hk.1, fun i hi => wpOp_mono (fun a' w' h' => ?_) (hk.2 i hi)⟩
   have h1 := h'.1 (by simp) hS
   exact ⟨fun _ _ => h _ h1, ih _ _ _ h1 h'.2⟩
 intro fuel l a w hS hk
 exact key fuel l a w hS (hk hS)
set_option maxHeartbeats 8000000 in
set_option maxRecDepth 100000 in
theorem spec_l15Cost.calls (k : Nat) (a0_0 : Int) (A0_1 : Option Addr) (c0_1 : Nat) (l0_1 : List (S41)) (A1 : Option Addr) (c1 : Nat) (l1 : List (List Int)) (A2 : Option Addr) (c2 : Nat) (l2 : List Int) (r : Int) (w : World) (hr0_1 : Kd.C k41 w A0_1 l0_1.length l0_1) (hc0_1 : l0_1.length ≤ c0_1) (hr1 : Kd.C (Kd.slice 3 (Kd.int .i64)) w A1 l1.length l1) (hc1 : l1.length ≤ c1) (hr2 : Kd.C (Kd.int .i64) w A2 l2.length l2) (hc2 : l2.length ≤ c2) (h : spec_l15Cost.f k a0_0 l0_1 l1 l2 = some r) :
  Calls Try.prog 94 #[.agg #[.int .i64 a0_0, .slice A0_1 l0_1.length c0_1], .slice A1 l1.length c1, .slice A2 l2.length c2] w fun e w' => e = .returned (.int .i64 r) ∧ Below w.heap.size w w' := by
 have hu25 := Try.underlying25
 have HR0_1 := ak hr0_1
 have HC0_1 := ak hc0_1
 clear hr0_1 hc0_1
 have HR1 := ak hr1
 have HC1 := ak hc1
 clear hr1 hc1
 have HR2 := ak hr2
 have HC2 := ak hc2
 clear hr2 hc2
 have HB := ak (Below.refl w.heap.size w)
 have H : (spec_l15Cost.l0 k l1 l2 0 0 a0_0 l0_1) = some r := h
 clear h
 have H' := ak H
 clear H
 go_enter Try.func94, Try.ntmps94
 go_wp2_with (first | ((with_reducible refine gate_dst (N := 3) rfl ?_); refine box_event ?hg (N := 3) ?hd (cs := #[.int .i64 a0_0, .slice A0_1 l0_1.length c0_1]) (t := 25) ?hr ?_; (case hd => rfl); (case hg => rfl); (case hr => first | (go_simp; done) | (go_simp; rfl)); intro gb488 hg w4 hbox hb; have BK488 := ak (hbox); have GW488 := ak ((by rw [hg]; exact (below_size (bl HB)) : w.heap.size ≤ gb488)); have GE488 := ak ((by rw [hg]; exact (below_size (bl HB)) : w.heap.size ≤ gb488)); replace HB := ak (below_step (bl HB) hb); clear hb hbox hg))
 go_loopg [7, 8] k (fun kq v7 v8 w' => ∃ (x7_1 : Int) (x8_1 : Int), v7 = .int .i64 x7_1 ∧ v8 = .int .i64 x8_1 ∧ Aside0 (spec_l15Cost.l0 kq l1 l2 x7_1 x8_1 a0_0 l0_1 = some r) ∧ Aside0 (kq ≤ k) ∧ Aside0 (w'.heap[gb488]? = some (.cells #[.int .i64 a0_0, (.slice A0_1 l0_1.length c0_1)] 25 (0, 0))) ∧ Aside0 (Below w.heap.size w w'))
 case atStart => exact ⟨(0), (0), (by first | rfl | (simp; done) | (simp [*]; done)), (by first | rfl | (simp; done) | (simp [*]; done)), H', ⟨Nat.le_refl _⟩, ⟨bk BK488⟩, ⟨bl1 HB GE488⟩⟩
 clear H'
 try clear c1
 try clear c2
 try clear p2
 obtain ⟨x7_1, x8_1, rfl, rfl, HA, HK1, BK488, HB⟩ := hrel
 cases gk with
 | zero => exact absurd HA.out (by simp [spec_l15Cost.l0])
 | succ k1 =>
  have H := HA.out
  clear HA
  simp only [spec_l15Cost.l0] at H
  by_cases c5 : x8_1 < (l2.length : Int)
  rotate_left
  ·rw [if_neg c5] at H
   have c5b0 : decide (x8_1 < (l2.length : Int)) = false := decide_eq_false c5
   clear c5
   obtain rfl := Option.some.inj H
   go_wp2
   go_ret
   exact ⟨by first | rfl | (simp [errW_none, errW_some] <;> rfl) | (simp [*, errW_none, errW_some] <;> rfl), bl1 HB GE488⟩
  rw [if_pos c5] at H
  have c5b0 : decide (x8_1 < (l2.length : Int)) = true := decide_eq_true c5
  clear c5
  by_cases c6 : 0 ≤ x8_1
  rotate_left
  ·rw [if_neg c6] at H
   exact absurd H (by simp)
  rw [if_pos c6] at H
  have c6b0 : decide (0 ≤ x8_1) = true := decide_eq_true c6
  clear c6
  by_cases c7 : x8_1 < (l1.length : Int)
  rotate_left
  ·rw [if_neg c7] at H
   exact absurd H (by simp)
  rw [if_pos c7] at H
  have c7b0 : decide (x8_1 < (l1.length : Int)) = true := decide_eq_true c7
  clear c7
  by_cases c8 : 0 ≤ (rd l2 x8_1)
  rotate_left
  ·rw [if_neg c8] at H
   exact absurd H (by simp)
  rw [if_pos c8] at H
  have c8b0 : decide (0 ≤ (rd l2 x8_1)) = true := decide_eq_true c8
  clear c8
  by_cases c9 : (rd l2 x8_1) < ((rd_L3 l1 x8_1).length : Int)
  rotate_left
  ·rw [if_neg c9] at H
   exact absurd H (by simp)
  rw [if_pos c9] at H
  have c9b0 : decide ((rd l2 x8_1) < ((rd_L3 l1 x8_1).length : Int)) = true := decide_eq_true c9
  clear c9
  by_cases c10 : x8_1 > 0
  rotate_left
  ·rw [if_neg c10] at H
   have c10b0 : decide (0 < x8_1) = false := decide_eq_false c10
   clear c10
   have H' := ak H
   clear H
   try go_wp2
   replace BK488 := ak (blk_drew BK488.out)
   replace HB := ak (below_drew1 HB.out)
   have p489 : 0 ≤ (x8_1 : Int) := oT (by first | (with_reducible assumption) | assumption)
   have q489 : x8_1 < (l1.length : Int) := oT (by first | (with_reducible assumption) | assumption)
   obtain ⟨ad489, A489_0, c489_0, e489, hx489_0, hl489_0, hi489_0⟩ := at_L3 HR1.out x8_1 p489 q489
   have hw489_0 := hx489_0
   cases e489
   replace hx489_0 := hcb HB.out hx489_0
   have HR489_0 := ak hi489_0
   have HC489_0 := ak hl489_0
   clear hi489_0 hl489_0
   replace p489 := eq_true p489
   replace q489 := eq_true q489
   have p490 : 0 ≤ (x8_1 : Int) := oT (by first | (with_reducible assumption) | assumption)
   have q490 : x8_1 < (l2.length : Int) := oT (by first | (with_reducible assumption) | assumption)
   obtain ⟨ad490, e490, hx490_0⟩ := Kd.at_int HR2.out x8_1 p490 q490
   have hw490_0 := hx490_0
   cases e490
   replace hx490_0 := hcb HB.out hx490_0
   replace p490 := eq_true p490
   replace q490 := eq_true q490
   have p491 : 0 ≤ ((rd l2 x8_1) : Int) := oT (by first | (with_reducible assumption) | assumption)
   have q491 : (rd l2 x8_1) < ((rd_L3 l1 x8_1).length : Int) := oT (by first | (with_reducible assumption) | assumption)
   obtain ⟨ad491, e491, hx491_0⟩ := Kd.at_int HR489_0.out (rd l2 x8_1) p491 q491
   have hw491_0 := hx491_0
   cases e491
   replace hx491_0 := hcb HB.out hx491_0
   replace p491 := eq_true p491
   replace q491 := eq_true q491
   refine start_ (n := 13) (S := fun w' => w'.cell? (ad489.add (x8_1).toNat) = some (.slice (some ad491) (rd_L3 l1 x8_1).length c489_0) ∧ w'.cell? (ad490.add (x8_1).toNat) = some (.int .i64 (rd l2 x8_1)) ∧ w'.cell? (ad491.add ((rd l2 x8_1)).toNat) = some (.int .i64 (rd (rd_L3 l1 x8_1) (rd l2 x8_1)))) (ds := []) (ms 13 0) (by kernel_rfl) rfl (by kernel_rfl) ⟨((HB.out.cell (World.block_lt_of_cell? w _ hw489_0)).trans hw489_0), ((HB.out.cell (World.block_lt_of_cell? w _ hw490_0)).trans hw490_0), ((HB.out.cell (World.block_lt_of_cell? w _ hw491_0)).trans hw491_0)⟩ (fun hHeld => ?_); refine with_tabW spec_l15Cost.tab5 spec_l15Cost.bits5 (fun HT_ HW_ => ?_)
   generalize wr.drew = w25 at BK488 HB HR489_0 hx489_0 hx490_0 hx491_0 hHeld ⊢
   refine pu 0 16 ?_ (ms 13 1) rfl rfl HT_ (by kernel_rfl) (fun _ _ _ h => h) (by rfl) ?_ ?_ ?_ ?_
   rotate_left
   ·intro w'
    go_simp
    with_reducible rfl
   rotate_left
   ·simp only [SX]
    rfl
   refine pu 1 17 ?_ (ms 13 3) rfl rfl HT_ (by kernel_rfl) (fun _ _ _ h => h) (by rfl) ?_ ?_ ?_ ?_
   rotate_left
   ·intro w'
    go_simp
    with_reducible rfl
   rotate_left
   ·simp only [SX]
    rfl
   refine pu 2 18 ?_ (ms 13 7) rfl rfl HT_ (by kernel_rfl) (fun _ _ _ h => h) (by rfl) ?_ ?_ ?_ ?_
   rotate_left
   ·intro w'
    go_simp
    with_reducible rfl
   rotate_left
   ·simp only [SX]
    rfl
   refine pu 3 19 ?_ (ms 13 15) rfl rfl HT_ (by kernel_rfl) (fun _ _ _ h => h) (by rfl) ?_ ?_ ?_ ?_
   rotate_left
   ·intro w'
    go_simp
    with_reducible rfl
   rotate_left
   ·simp only [SX]
    rfl
   refine pu 5 21 ?_ (ms 13 47) rfl rfl HT_ (by kernel_rfl) (fun _ _ _ h => h) (by rfl) ?_ ?_ ?_ ?_
   rotate_left
   ·intro w'
    go_simp
    with_reducible rfl
   rotate_left
   ·simp only [SX]
    rfl
   refine pu 6 22 ?_ (ms 13 111) rfl rfl HT_ (by kernel_rfl) (fun _ _ _ h => h) (by rfl) ?_ ?_ ?_ ?_
   rotate_left
   ·intro w'
    go_simp
    with_reducible rfl
   rotate_left
   ·simp only [SX]
    rfl
   refine pu 7 23 ?_ (ms 13 239) rfl rfl HT_ (by kernel_rfl) (fun _ _ _ h => h) (by rfl) ?_ ?_ ?_ ?_
   rotate_left
   ·intro w'
    go_simp
    with_reducible rfl
   rotate_left
   ·simp only [SX]
    rfl
   refine tk 4 20 ?_ (ms 13 255) rfl rfl HT_ HW_ (by kernel_rfl) (fun _ _ _ h => h) (by rfl) ?_ hHeld ?_ ?_ ?_
   rotate_left
   ·rintro w' ⟨s0, s1, s2⟩
    go_simp
    with_reducible rfl
   rotate_left
   ·simp only [SX]
    rfl
   refine tk 8 24 ?_ (ms 13 511) rfl rfl HT_ HW_ (by kernel_rfl) (fun _ _ _ h => h) (by rfl) ?_ hHeld ?_ ?_ ?_
   rotate_left
   ·rintro w' ⟨s0, s1, s2⟩
    go_simp
    with_reducible rfl
   rotate_left
   ·simp only [SX]
    rfl
   refine pu 9 25 ?_ (ms 13 1023) rfl rfl HT_ (by kernel_rfl) (fun _ _ _ h => h) (by rfl) ?_ ?_ ?_ ?_
   rotate_left
   ·intro w'
    go_simp
    with_reducible rfl
   rotate_left
   ·simp only [SX]
    rfl
   refine tk 10 26 ?_ (ms 13 2047) rfl rfl HT_ HW_ (by kernel_rfl) (fun _ _ _ h => h) (by rfl) ?_ hHeld ?_ ?_ ?_
   rotate_left
   ·rintro w' ⟨s0, s1, s2⟩
    go_simp
    with_reducible rfl
   rotate_left
   ·simp only [SX]
    rfl
   refine pu 11 27 ?_ (ms 13 4095) rfl rfl HT_ (by kernel_rfl) (fun _ _ _ h => h) (by rfl) ?_ ?_ ?_ ?_
   rotate_left
   ·intro w'
    go_simp
    with_reducible rfl
   rotate_left
   ·simp only [SX]
    rfl
   refine pu 12 7 ?_ (ms 13 8191) rfl rfl HT_ (by kernel_rfl) (fun _ _ _ h => h) (by rfl) ?_ ?_ ?_ ?_
   rotate_left
   ·intro w'
    go_simp
    with_reducible rfl
   rotate_left
   ·simp only [SX]
    rfl
   refine done_ (done_of HT_.out (by kernel_rfl)) ?_
   try go_wp2
   go_roundg k1
   case measure => have := HK1.out; omega
   case rel => exact ⟨(wrap64 (x7_1 + (rd (rd_L3 l1 x8_1) (rd l2 x8_1)))), (wrap64 (x8_1 + 1)), (by first | rfl | (simp; done) | (simp [*]; done)), (by first | rfl | (simp; done) | (simp [*]; done)), H', ⟨by have := HK1.out; omega⟩, ⟨bk BK488⟩, ⟨bl1 HB GE488⟩⟩
  rw [if_pos c10] at H
  have c10b0 : decide (0 < x8_1) = true := decide_eq_true c10
  clear c10
  obtain ⟨ji11, hji11⟩ : ∃ j_ : Int, (wrap64 (x8_1 - 1)) = j_ := ⟨_, rfl⟩
  replace H : (if 0 ≤ (ji11) then (if (ji11) < (l2.length : Int) then ((spec_l3All.f k1 a0_0 l0_1 (rd l2 (ji11))).bind fun t493 => (if (rd l2 x8_1) < (t493.length : Int) then (if (rd t493 (rd l2 x8_1)) ≥ 99999 then (some 99999) else (spec_l15Cost.l0 k1 l1 l2 (wrap64 ((wrap64 (x7_1 + (rd (rd_L3 l1 x8_1) (rd l2 x8_1)))) + (rd t493 (rd l2 x8_1)))) (wrap64 (x8_1 + 1)) a0_0 l0_1)) else (none))) else (none)) else (none)) = some r := by first | (rw [hji11] at H; exact H) | (simp only [hji11] at H ⊢; exact H)
  have hji11w : (IntKind.i64.wrap (x8_1 - 1)) = ji11 := (i64_w _).trans hji11
  by_cases c12 : 0 ≤ (ji11)
  rotate_left
  ·rw [if_neg c12] at H
   exact absurd H (by simp)
  rw [if_pos c12] at H
  have c12b0 : decide (0 ≤ (ji11)) = true := decide_eq_true c12
  clear c12
  by_cases c13 : (ji11) < (l2.length : Int)
  rotate_left
  ·rw [if_neg c13] at H
   exact absurd H (by simp)
  rw [if_pos c13] at H
  have c13b0 : decide ((ji11) < (l2.length : Int)) = true := decide_eq_true c13
  clear c13
  replace H := Option.bind_eq_some_iff.mp H
  obtain ⟨t493, A140, H⟩ := H
  have A14 := ak A140
  clear A140
  by_cases c15 : (rd l2 x8_1) < (t493.length : Int)
  rotate_left
  ·rw [if_neg c15] at H
   exact absurd H (by simp)
  rw [if_pos c15] at H
  have c15b0 : decide ((rd l2 x8_1) < (t493.length : Int)) = true := decide_eq_true c15
  clear c15
  by_cases c16 : (rd t493 (rd l2 x8_1)) ≥ 99999
  ·rw [if_pos c16] at H
   have c16b0 : decide (99999 ≤ (rd t493 (rd l2 x8_1))) = true := decide_eq_true c16
   clear c16
   obtain rfl := Option.some.inj H
   try go_wp2
   replace BK488 := ak (blk_drew BK488.out)
   replace HB := ak (below_drew1 HB.out)
   have p489 : 0 ≤ (x8_1 : Int) := oT (by first | (with_reducible assumption) | assumption)
   have q489 : x8_1 < (l1.length : Int) := oT (by first | (with_reducible assumption) | assumption)
   obtain ⟨ad489, A489_0, c489_0, e489, hx489_0, hl489_0, hi489_0⟩ := at_L3 HR1.out x8_1 p489 q489
   have hw489_0 := hx489_0
   cases e489
   replace hx489_0 := hcb HB.out hx489_0
   have HR489_0 := ak hi489_0
   have HC489_0 := ak hl489_0
   clear hi489_0 hl489_0
   replace p489 := eq_true p489
   replace q489 := eq_true q489
   have p490 : 0 ≤ (x8_1 : Int) := oT (by first | (with_reducible assumption) | assumption)
   have q490 : x8_1 < (l2.length : Int) := oT (by first | (with_reducible assumption) | assumption)
   obtain ⟨ad490, e490, hx490_0⟩ := Kd.at_int HR2.out x8_1 p490 q490
   have hw490_0 := hx490_0
   cases e490
   replace hx490_0 := hcb HB.out hx490_0
   replace p490 := eq_true p490
   replace q490 := eq_true q490
   have p491 : 0 ≤ ((rd l2 x8_1) : Int) := oT (by first | (with_reducible assumption) | assumption)
   have q491 : (rd l2 x8_1) < ((rd_L3 l1 x8_1).length : Int) := oT (by first | (with_reducible assumption) | assumption)
   obtain ⟨ad491, e491, hx491_0⟩ := Kd.at_int HR489_0.out (rd l2 x8_1) p491 q491
   have hw491_0 := hx491_0
   cases e491
   replace hx491_0 := hcb HB.out hx491_0
   replace p491 := eq_true p491
   replace q491 := eq_true q491
   refine start_ (n := 13) (S := fun w' => w'.cell? (ad489.add (x8_1).toNat) = some (.slice (some ad491) (rd_L3 l1 x8_1).length c489_0) ∧ w'.cell? (ad490.add (x8_1).toNat) = some (.int .i64 (rd l2 x8_1)) ∧ w'.cell? (ad491.add ((rd l2 x8_1)).toNat) = some (.int .i64 (rd (rd_L3 l1 x8_1) (rd l2 x8_1)))) (ds := []) (ms 13 0) (by kernel_rfl) rfl (by kernel_rfl) ⟨((HB.out.cell (World.block_lt_of_cell? w _ hw489_0)).trans hw489_0), ((HB.out.cell (World.block_lt_of_cell? w _ hw490_0)).trans hw490_0), ((HB.out.cell (World.block_lt_of_cell? w _ hw491_0)).trans hw491_0)⟩ (fun hHeld => ?_); refine with_tabW spec_l15Cost.tab5 spec_l15Cost.bits5 (fun HT_ HW_ => ?_)
   generalize wr.drew = w17 at BK488 HB HR489_0 hx489_0 hx490_0 hx491_0 hHeld ⊢
   refine pu 0 16 ?_ (ms 13 1) rfl rfl HT_ (by kernel_rfl) (fun _ _ _ h => h) (by rfl) ?_ ?_ ?_ ?_
   rotate_left
   ·intro w'
    go_simp
    with_reducible rfl
   rotate_left
   ·simp only [SX]
    rfl
   refine pu 1 17 ?_ (ms 13 3) rfl rfl HT_ (by kernel_rfl) (fun _ _ _ h => h) (by rfl) ?_ ?_ ?_ ?_
   rotate_left
   ·intro w'
    go_simp
    with_reducible rfl
   rotate_left
   ·simp only [SX]
    rfl
   refine pu 2 18 ?_ (ms 13 7) rfl rfl HT_ (by kernel_rfl) (fun _ _ _ h => h) (by rfl) ?_ ?_ ?_ ?_
   rotate_left
   ·intro w'
    go_simp
    with_reducible rfl
   rotate_left
   ·simp only [SX]
    rfl
   refine pu 3 19 ?_ (ms 13 15) rfl rfl HT_ (by kernel_rfl) (fun _ _ _ h => h) (by rfl) ?_ ?_ ?_ ?_
   rotate_left
   ·intro w'
    go_simp
    with_reducible rfl
   rotate_left
   ·simp only [SX]
    rfl
   refine pu 5 21 ?_ (ms 13 47) rfl rfl HT_ (by kernel_rfl) (fun _ _ _ h => h) (by rfl) ?_ ?_ ?_ ?_
   rotate_left
   ·intro w'
    go_simp
    with_reducible rfl
   rotate_left
   ·simp only [SX]
    rfl
   refine pu 6 22 ?_ (ms 13 111) rfl rfl HT_ (by kernel_rfl) (fun _ _ _ h => h) (by rfl) ?_ ?_ ?_ ?_
   rotate_left
   ·intro w'
    go_simp
    with_reducible rfl
   rotate_left
   ·simp only [SX]
    rfl
   refine pu 7 23 ?_ (ms 13 239) rfl rfl HT_ (by kernel_rfl) (fun _ _ _ h => h) (by rfl) ?_ ?_ ?_ ?_
   rotate_left
   ·intro w'
    go_simp
    with_reducible rfl
   rotate_left
   ·simp only [SX]
    rfl
   refine tk 4 20 ?_ (ms 13 255) rfl rfl HT_ HW_ (by kernel_rfl) (fun _ _ _ h => h) (by rfl) ?_ hHeld ?_ ?_ ?_
   rotate_left
   ·rintro w' ⟨s0, s1, s2⟩
    go_simp
    with_reducible rfl
   rotate_left
   ·simp only [SX]
    rfl
   refine tk 8 24 ?_ (ms 13 511) rfl rfl HT_ HW_ (by kernel_rfl) (fun _ _ _ h => h) (by rfl) ?_ hHeld ?_ ?_ ?_
   rotate_left
   ·rintro w' ⟨s0, s1, s2⟩
    go_simp
    with_reducible rfl
   rotate_left
   ·simp only [SX]
    rfl
   refine pu 9 25 ?_ (ms 13 1023) rfl rfl HT_ (by kernel_rfl) (fun _ _ _ h => h) (by rfl) ?_ ?_ ?_ ?_
   rotate_left
   ·intro w'
    go_simp
    with_reducible rfl
   rotate_left
   ·simp only [SX]
    rfl
   refine tk 10 26 ?_ (ms 13 2047) rfl rfl HT_ HW_ (by kernel_rfl) (fun _ _ _ h => h) (by rfl) ?_ hHeld ?_ ?_ ?_
   rotate_left
   ·rintro w' ⟨s0, s1, s2⟩
    go_simp
    with_reducible rfl
   rotate_left
   ·simp only [SX]
    rfl
   refine pu 11 27 ?_ (ms 13 4095) rfl rfl HT_ (by kernel_rfl) (fun _ _ _ h => h) (by rfl) ?_ ?_ ?_ ?_
   rotate_left
   ·intro w'
    go_simp
    with_reducible rfl
   rotate_left
   ·simp only [SX]
    rfl
   refine pu 12 7 ?_ (ms 13 8191) rfl rfl HT_ (by kernel_rfl) (fun _ _ _ h => h) (by rfl) ?_ ?_ ?_ ?_
   rotate_left
   ·intro w'
    go_simp
    with_reducible rfl
   rotate_left
   ·simp only [SX]
    rfl
   refine done_ (done_of HT_.out (by kernel_rfl)) ?_
   try go_wp2
   replace BK488 := ak (blk_drew BK488.out)
   replace HB := ak (below_drew1 HB.out)
   have p492 : 0 ≤ ((ji11) : Int) := oT (by first | (with_reducible assumption) | assumption)
   have q492 : (ji11) < (l2.length : Int) := oT (by first | (with_reducible assumption) | assumption)
   obtain ⟨ad492, e492, hx492_0⟩ := Kd.at_int HR2.out (ji11) p492 q492
   have hw492_0 := hx492_0
   obtain rfl : ad490 = ad492 := (by injection e492)
   replace hx492_0 := hcb HB.out hx492_0
   replace p492 := eq_true p492
   replace q492 := eq_true q492
   have p496 : 0 ≤ (x8_1 : Int) := oT (by first | (with_reducible assumption) | assumption)
   have q496 : x8_1 < (l2.length : Int) := oT (by first | (with_reducible assumption) | assumption)
   obtain ⟨ad496, e496, hx496_0⟩ := Kd.at_int HR2.out x8_1 p496 q496
   have hw496_0 := hx496_0
   obtain rfl : ad490 = ad496 := (by injection e496)
   replace hx496_0 := hcb HB.out hx496_0
   replace p496 := eq_true p496
   replace q496 := eq_true q496
   refine start_ (n := 14) (S := fun w' => w'.cell? ⟨gb488, 0, none⟩ = some (.int .i64 a0_0) ∧ w'.cell? ⟨gb488, 1, none⟩ = some (.slice A0_1 l0_1.length c0_1) ∧ w'.cell? (ad490.add ((ji11)).toNat) = some (.int .i64 (rd l2 (ji11))) ∧ w'.cell? (ad490.add (x8_1).toNat) = some (.int .i64 (rd l2 x8_1))) (ds := []) (ms 14 0) (by kernel_rfl) rfl (by kernel_rfl) ⟨(blk_cell BK488.out 0).trans rfl, (blk_cell BK488.out 1).trans rfl, ((HB.out.cell (World.block_lt_of_cell? w _ hw492_0)).trans hw492_0), ((HB.out.cell (World.block_lt_of_cell? w _ hw496_0)).trans hw496_0)⟩ (fun hHeld => ?_); refine with_tabW spec_l15Cost.tab7 spec_l15Cost.bits7 (fun HT_ HW_ => ?_)
   generalize w17.drew = w18 at BK488 HB hx492_0 hx496_0 hHeld ⊢
   refine pu 1 31 ?_ (ms 14 2) rfl rfl HT_ (by kernel_rfl) (fun _ _ _ h => h) (by rfl) ?_ ?_ ?_ ?_
   rotate_left
   ·intro w'
    go_simp
    with_reducible rfl
   rotate_left
   ·simp only [SX]
    rfl
   refine pu 2 32 ?_ (ms 14 6) rfl rfl HT_ (by kernel_rfl) (fun _ _ _ h => h) (by rfl) ?_ ?_ ?_ ?_
   rotate_left
   ·intro w'
    go_simp
    with_reducible rfl
   rotate_left
   ·simp only [SX]
    rfl
   refine pu 3 33 ?_ (ms 14 14) rfl rfl HT_ (by kernel_rfl) (fun _ _ _ h => h) (by rfl) ?_ ?_ ?_ ?_
   rotate_left
   ·intro w'
    go_simp
    with_reducible rfl
   rotate_left
   ·simp only [SX]
    rfl
   refine pu 4 34 ?_ (ms 14 30) rfl rfl HT_ (by kernel_rfl) (fun _ _ _ h => h) (by rfl) ?_ ?_ ?_ ?_
   rotate_left
   ·intro w'
    go_simp
    with_reducible rfl
   rotate_left
   ·simp only [SX]
    rfl
   refine pu 7 37 ?_ (ms 14 158) rfl rfl HT_ (by kernel_rfl) (fun _ _ _ h => h) (by rfl) ?_ ?_ ?_ ?_
   rotate_left
   ·intro w'
    go_simp
    with_reducible rfl
   rotate_left
   ·simp only [SX]
    rfl
   refine pu 8 38 ?_ (ms 14 414) rfl rfl HT_ (by kernel_rfl) (fun _ _ _ h => h) (by rfl) ?_ ?_ ?_ ?_
   rotate_left
   ·intro w'
    go_simp
    with_reducible rfl
   rotate_left
   ·simp only [SX]
    rfl
   refine pu 9 39 ?_ (ms 14 926) rfl rfl HT_ (by kernel_rfl) (fun _ _ _ h => h) (by rfl) ?_ ?_ ?_ ?_
   rotate_left
   ·intro w'
    go_simp
    with_reducible rfl
   rotate_left
   ·simp only [SX]
    rfl
   refine tk 0 30 ?_ (ms 14 927) rfl rfl HT_ HW_ (by kernel_rfl) (fun _ _ _ h => h) (by rfl) ?_ hHeld ?_ ?_ ?_
   rotate_left
   ·rintro w' ⟨s0, s1, s2, s3⟩
    go_simp
    with_reducible rfl
   rotate_left
   ·simp only [SX]
    rfl
   refine tk 5 35 ?_ (ms 14 959) rfl rfl HT_ HW_ (by kernel_rfl) (fun _ _ _ h => h) (by rfl) ?_ hHeld ?_ ?_ ?_
   rotate_left
   ·rintro w' ⟨s0, s1, s2, s3⟩
    go_simp
    with_reducible rfl
   rotate_left
   ·simp only [SX]
    rfl
   refine tk 10 40 ?_ (ms 14 1983) rfl rfl HT_ HW_ (by kernel_rfl) (fun _ _ _ h => h) (by rfl) ?_ hHeld ?_ ?_ ?_
   rotate_left
   ·rintro w' ⟨s0, s1, s2, s3⟩
    go_simp
    with_reducible rfl
   rotate_left
   ·simp only [SX]
    rfl
   refine one_ (i := 6) (N := some 36) (ms 14 2047) rfl rfl (one_of HT_.out (by kernel_rfl)) (by decide) (fun K hK => ?_)
   refine goes_ Try.func76 (by kernel_rfl) rfl #[.agg #[.int .i64 a0_0, .slice A0_1 l0_1.length c0_1], .int .i64 (rd l2 (ji11))] (by rfl) rfl rfl (by (try simp only [List.map_toArray, List.map_cons, List.map_nil]); first | done | (simp only [hji11]; rfl) | rfl | (simp only [List.length_drop, List.length_take]; rfl)) ?_
   with_reducible refine (spec_l3All.calls k1 a0_0 _ _ l0_1 (rd l2 (ji11)) t493 _ ?side1 ?side2 A14.out).mono ?_
   (case side1 => repeat (first | exact (Kd.C_below HR0_1.out HB.out) | (with_reducible refine Kd.C_alloc ?_ _) | (with_reducible refine Kd.C_drewN ?_ _) | (with_reducible refine Kd.C_drew ?_)))
   (case side2 => exact HC0_1.out)
   rintro e w19 ⟨v494, rfl, ho0, hb⟩
   refine ⟨_, rfl, ?_⟩
   have HO495 := ak (Kd.R_lower ho0 (below_size (bl1 HB GE488)))
   replace BK488 := ak (blk_below (bk BK488) hb)
   replace HB := ak (below_step (bl1 HB GE488) hb)
   (try clear hb)
   (try clear hb2)
   (try clear hk)
   (try clear hi)
   (try clear ho0)
   obtain ⟨Ao20, co20, eo20⟩ := Kd.R_slice HO495.out
   (first | subst eo20 | (injection eo20 with f1_ f2_ f3_; have f4_ := f1_.symm; have f5_ := f3_.symm; clear f1_ f2_ f3_; subst f4_; subst f5_))
   have p497 : 0 ≤ ((rd l2 x8_1) : Int) := oT (by first | (with_reducible assumption) | assumption)
   have q497 : (rd l2 x8_1) < (t493.length : Int) := oT (by first | (with_reducible assumption) | assumption)
   obtain ⟨ad497, e497, hx497_0⟩ := Kd.at_int (Kd.R_reads' HO495.out).2.2 (rd l2 x8_1) p497 q497
   cases e497
   replace p497 := eq_true p497
   replace q497 := eq_true q497
   refine hK.out _ _ ⟨(blk_cell BK488.out 0).trans rfl, (blk_cell BK488.out 1).trans rfl, ((HB.out.cell (World.block_lt_of_cell? w _ hw492_0)).trans hw492_0), ((HB.out.cell (World.block_lt_of_cell? w _ hw496_0)).trans hw496_0)⟩ (fun hHeld => ?_)
   refine spec_l15Cost.restart (S' := fun w' => w'.cell? ⟨gb488, 0, none⟩ = some (.int .i64 a0_0) ∧ w'.cell? ⟨gb488, 1, none⟩ = some (.slice A0_1 l0_1.length c0_1) ∧ w'.cell? (ad490.add ((ji11)).toNat) = some (.int .i64 (rd l2 (ji11))) ∧ w'.cell? (ad490.add (x8_1).toNat) = some (.int .i64 (rd l2 x8_1)) ∧ w'.cell? (ad497.add ((rd l2 x8_1)).toNat) = some (.int .i64 (rd t493 (rd l2 x8_1)))) (fun w' h_ => ⟨h_.1, h_.2.1, h_.2.2.1, h_.2.2.2.1⟩) ⟨hHeld.1, hHeld.2.1, hHeld.2.2.1, hHeld.2.2.2, hx497_0⟩ (fun hHeld => ?_)
   clear hK K
   refine norm_ (a' := ?_) ?_ ?_
   rotate_left
   ·show Act.put _ (some 36) _ = _
    simp only [SX]
    rfl
   refine pu 11 41 ?_ (ms 14 4095) rfl rfl HT_ (by kernel_rfl) (fun _ _ _ h => h) (by rfl) ?_ ?_ ?_ ?_
   rotate_left
   ·intro w'
    go_simp
    with_reducible rfl
   rotate_left
   ·simp only [SX]
    rfl
   refine tk 12 42 ?_ (ms 14 8191) rfl rfl HT_ HW_ (by kernel_rfl) (fun _ _ _ h => h) (by rfl) ?_ hHeld ?_ ?_ ?_
   rotate_left
   ·rintro w' ⟨s0, s1, s2, s3, s4⟩
    go_simp
    with_reducible rfl
   rotate_left
   ·simp only [SX]
    rfl
   refine pu 13 9 ?_ (ms 14 16383) rfl rfl HT_ (by kernel_rfl) (fun _ _ _ h => h) (by rfl) ?_ ?_ ?_ ?_
   rotate_left
   ·intro w'
    go_simp
    with_reducible rfl
   rotate_left
   ·simp only [SX]
    rfl
   refine done_ (done_of HT_.out (by kernel_rfl)) ?_
   try go_wp2
   go_ret
   exact ⟨by first | rfl | (simp [errW_none, errW_some] <;> rfl) | (simp only [← hji11]; first | rfl | (simp [errW_none, errW_some] <;> rfl)) | (simp [*, errW_none, errW_some] <;> rfl), bl1 HB GE488⟩
  rw [if_neg c16] at H
  have c16b0 : decide (99999 ≤ (rd t493 (rd l2 x8_1))) = false := decide_eq_false c16
  clear c16
  have H' := ak H
  clear H
  try go_wp2
  replace BK488 := ak (blk_drew BK488.out)
  replace HB := ak (below_drew1 HB.out)
  have p489 : 0 ≤ (x8_1 : Int) := oT (by first | (with_reducible assumption) | assumption)
  have q489 : x8_1 < (l1.length : Int) := oT (by first | (with_reducible assumption) | assumption)
  obtain ⟨ad489, A489_0, c489_0, e489, hx489_0, hl489_0, hi489_0⟩ := at_L3 HR1.out x8_1 p489 q489
  have hw489_0 := hx489_0
  cases e489
  replace hx489_0 := hcb HB.out hx489_0
  have HR489_0 := ak hi489_0
  have HC489_0 := ak hl489_0
  clear hi489_0 hl489_0
  replace p489 := eq_true p489
  replace q489 := eq_true q489
  have p490 : 0 ≤ (x8_1 : Int) := oT (by first | (with_reducible assumption) | assumption)
  have q490 : x8_1 < (l2.length : Int) := oT (by first | (with_reducible assumption) | assumption)
  obtain ⟨ad490, e490, hx490_0⟩ := Kd.at_int HR2.out x8_1 p490 q490
  have hw490_0 := hx490_0
  cases e490
  replace hx490_0 := hcb HB.out hx490_0
  replace p490 := eq_true p490
  replace q490 := eq_true q490
  have p491 : 0 ≤ ((rd l2 x8_1) : Int) := oT (by first | (with_reducible assumption) | assumption)
  have q491 : (rd l2 x8_1) < ((rd_L3 l1 x8_1).length : Int) := oT (by first | (with_reducible assumption) | assumption)
  obtain ⟨ad491, e491, hx491_0⟩ := Kd.at_int HR489_0.out (rd l2 x8_1) p491 q491
  have hw491_0 := hx491_0
  cases e491
  replace hx491_0 := hcb HB.out hx491_0
  replace p491 := eq_true p491
  replace q491 := eq_true q491
  refine start_ (n := 13) (S := fun w' => w'.cell? (ad489.add (x8_1).toNat) = some (.slice (some ad491) (rd_L3 l1 x8_1).length c489_0) ∧ w'.cell? (ad490.add (x8_1).toNat) = some (.int .i64 (rd l2 x8_1)) ∧ w'.cell? (ad491.add ((rd l2 x8_1)).toNat) = some (.int .i64 (rd (rd_L3 l1 x8_1) (rd l2 x8_1)))) (ds := []) (ms 13 0) (by kernel_rfl) rfl (by kernel_rfl) ⟨((HB.out.cell (World.block_lt_of_cell? w _ hw489_0)).trans hw489_0), ((HB.out.cell (World.block_lt_of_cell? w _ hw490_0)).trans hw490_0), ((HB.out.cell (World.block_lt_of_cell? w _ hw491_0)).trans hw491_0)⟩ (fun hHeld => ?_); refine with_tabW spec_l15Cost.tab5 spec_l15Cost.bits5 (fun HT_ HW_ => ?_)
  generalize wr.drew = w21 at BK488 HB HR489_0 hx489_0 hx490_0 hx491_0 hHeld ⊢
  refine pu 0 16 ?_ (ms 13 1) rfl rfl HT_ (by kernel_rfl) (fun _ _ _ h => h) (by rfl) ?_ ?_ ?_ ?_
  rotate_left
  ·intro w'
   go_simp
   with_reducible rfl
  rotate_left
  ·simp only [SX]
   rfl
  refine pu 1 17 ?_ (ms 13 3) rfl rfl HT_ (by kernel_rfl) (fun _ _ _ h => h) (by rfl) ?_ ?_ ?_ ?_
  rotate_left
  ·intro w'
   go_simp
   with_reducible rfl
  rotate_left
  ·simp only [SX]
   rfl
  refine pu 2 18 ?_ (ms 13 7) rfl rfl HT_ (by kernel_rfl) (fun _ _ _ h => h) (by rfl) ?_ ?_ ?_ ?_
  rotate_left
  ·intro w'
   go_simp
   with_reducible rfl
  rotate_left
  ·simp only [SX]
   rfl
  refine pu 3 19 ?_ (ms 13 15) rfl rfl HT_ (by kernel_rfl) (fun _ _ _ h => h) (by rfl) ?_ ?_ ?_ ?_
  rotate_left
  ·intro w'
   go_simp
   with_reducible rfl
  rotate_left
  ·simp only [SX]
   rfl
  refine pu 5 21 ?_ (ms 13 47) rfl rfl HT_ (by kernel_rfl) (fun _ _ _ h => h) (by rfl) ?_ ?_ ?_ ?_
  rotate_left
  ·intro w'
   go_simp
   with_reducible rfl
  rotate_left
  ·simp only [SX]
   rfl
  refine pu 6 22 ?_ (ms 13 111) rfl rfl HT_ (by kernel_rfl) (fun _ _ _ h => h) (by rfl) ?_ ?_ ?_ ?_
  rotate_left
  ·intro w'
   go_simp
   with_reducible rfl
  rotate_left
  ·simp only [SX]
   rfl
  refine pu 7 23 ?_ (ms 13 239) rfl rfl HT_ (by kernel_rfl) (fun _ _ _ h => h) (by rfl) ?_ ?_ ?_ ?_
  rotate_left
  ·intro w'
   go_simp
   with_reducible rfl
  rotate_left
  ·simp only [SX]
   rfl
  refine tk 4 20 ?_ (ms 13 255) rfl rfl HT_ HW_ (by kernel_rfl) (fun _ _ _ h => h) (by rfl) ?_ hHeld ?_ ?_ ?_
  rotate_left
  ·rintro w' ⟨s0, s1, s2⟩
   go_simp
   with_reducible rfl
  rotate_left
  ·simp only [SX]
   rfl
  refine tk 8 24 ?_ (ms 13 511) rfl rfl HT_ HW_ (by kernel_rfl) (fun _ _ _ h => h) (by rfl) ?_ hHeld ?_ ?_ ?_
  rotate_left
  ·rintro w' ⟨s0, s1, s2⟩
   go_simp
   with_reducible rfl
  rotate_left
  ·simp only [SX]
   rfl
  refine pu 9 25 ?_ (ms 13 1023) rfl rfl HT_ (by kernel_rfl) (fun _ _ _ h => h) (by rfl) ?_ ?_ ?_ ?_
  rotate_left
  ·intro w'
   go_simp
   with_reducible rfl
  rotate_left
  ·simp only [SX]
   rfl
  refine tk 10 26 ?_ (ms 13 2047) rfl rfl HT_ HW_ (by kernel_rfl) (fun _ _ _ h => h) (by rfl) ?_ hHeld ?_ ?_ ?_
  rotate_left
  ·rintro w' ⟨s0, s1, s2⟩
   go_simp
   with_reducible rfl
  rotate_left
  ·simp only [SX]
   rfl
  refine pu 11 27 ?_ (ms 13 4095) rfl rfl HT_ (by kernel_rfl) (fun _ _ _ h => h) (by rfl) ?_ ?_ ?_ ?_
  rotate_left
  ·intro w'
   go_simp
   with_reducible rfl
  rotate_left
  ·simp only [SX]
   rfl
  refine pu 12 7 ?_ (ms 13 8191) rfl rfl HT_ (by kernel_rfl) (fun _ _ _ h => h) (by rfl) ?_ ?_ ?_ ?_
  rotate_left
  ·intro w'
   go_simp
   with_reducible rfl
  rotate_left
  ·simp only [SX]
   rfl
  refine done_ (done_of HT_.out (by kernel_rfl)) ?_
  try go_wp2
  replace BK488 := ak (blk_drew BK488.out)
  replace HB := ak (below_drew1 HB.out)
  have p492 : 0 ≤ ((ji11) : Int) := oT (by first | (with_reducible assumption) | assumption)
  have q492 : (ji11) < (l2.length : Int) := oT (by first | (with_reducible assumption) | assumption)
  obtain ⟨ad492, e492, hx492_0⟩ := Kd.at_int HR2.out (ji11) p492 q492
  have hw492_0 := hx492_0
  obtain rfl : ad490 = ad492 := (by injection e492)
  replace hx492_0 := hcb HB.out hx492_0
  replace p492 := eq_true p492
  replace q492 := eq_true q492
  have p496 : 0 ≤ (x8_1 : Int) := oT (by first | (with_reducible assumption) | assumption)
  have q496 : x8_1 < (l2.length : Int) := oT (by first | (with_reducible assumption) | assumption)
  obtain ⟨ad496, e496, hx496_0⟩ := Kd.at_int HR2.out x8_1 p496 q496
  have hw496_0 := hx496_0
  obtain rfl : ad490 = ad496 := (by injection e496)
  replace hx496_0 := hcb HB.out hx496_0
  replace p496 := eq_true p496
  replace q496 := eq_true q496
  refine start_ (n := 14) (S := fun w' => w'.cell? ⟨gb488, 0, none⟩ = some (.int .i64 a0_0) ∧ w'.cell? ⟨gb488, 1, none⟩ = some (.slice A0_1 l0_1.length c0_1) ∧ w'.cell? (ad490.add ((ji11)).toNat) = some (.int .i64 (rd l2 (ji11))) ∧ w'.cell? (ad490.add (x8_1).toNat) = some (.int .i64 (rd l2 x8_1))) (ds := []) (ms 14 0) (by kernel_rfl) rfl (by kernel_rfl) ⟨(blk_cell BK488.out 0).trans rfl, (blk_cell BK488.out 1).trans rfl, ((HB.out.cell (World.block_lt_of_cell? w _ hw492_0)).trans hw492_0), ((HB.out.cell (World.block_lt_of_cell? w _ hw496_0)).trans hw496_0)⟩ (fun hHeld => ?_); refine with_tabW spec_l15Cost.tab7 spec_l15Cost.bits7 (fun HT_ HW_ => ?_)
  generalize w21.drew = w22 at BK488 HB hx492_0 hx496_0 hHeld ⊢
  refine pu 1 31 ?_ (ms 14 2) rfl rfl HT_ (by kernel_rfl) (fun _ _ _ h => h) (by rfl) ?_ ?_ ?_ ?_
  rotate_left
  ·intro w'
   go_simp
   with_reducible rfl
  rotate_left
  ·simp only [SX]
   rfl
  refine pu 2 32 ?_ (ms 14 6) rfl rfl HT_ (by kernel_rfl) (fun _ _ _ h => h) (by rfl) ?_ ?_ ?_ ?_
  rotate_left
  ·intro w'
   go_simp
   with_reducible rfl
  rotate_left
  ·simp only [SX]
   rfl
  refine pu 3 33 ?_ (ms 14 14) rfl rfl HT_ (by kernel_rfl) (fun _ _ _ h => h) (by rfl) ?_ ?_ ?_ ?_
  rotate_left
  ·intro w'
   go_simp
   with_reducible rfl
  rotate_left
  ·simp only [SX]
   rfl
  refine pu 4 34 ?_ (ms 14 30) rfl rfl HT_ (by kernel_rfl) (fun _ _ _ h => h) (by rfl) ?_ ?_ ?_ ?_
  rotate_left
  ·intro w'
   go_simp
   with_reducible rfl
  rotate_left
  ·simp only [SX]
   rfl
  refine pu 7 37 ?_ (ms 14 158) rfl rfl HT_ (by kernel_rfl) (fun _ _ _ h => h) (by rfl) ?_ ?_ ?_ ?_
  rotate_left
  ·intro w'
   go_simp
   with_reducible rfl
  rotate_left
  ·simp only [SX]
   rfl
  refine pu 8 38 ?_ (ms 14 414) rfl rfl HT_ (by kernel_rfl) (fun _ _ _ h => h) (by rfl) ?_ ?_ ?_ ?_
  rotate_left
  ·intro w'
   go_simp
   with_reducible rfl
  rotate_left
  ·simp only [SX]
   rfl
  refine pu 9 39 ?_ (ms 14 926) rfl rfl HT_ (by kernel_rfl) (fun _ _ _ h => h) (by rfl) ?_ ?_ ?_ ?_
  rotate_left
  ·intro w'
   go_simp
   with_reducible rfl
  rotate_left
  ·simp only [SX]
   rfl
  refine tk 0 30 ?_ (ms 14 927) rfl rfl HT_ HW_ (by kernel_rfl) (fun _ _ _ h => h) (by rfl) ?_ hHeld ?_ ?_ ?_
  rotate_left
  ·rintro w' ⟨s0, s1, s2, s3⟩
   go_simp
   with_reducible rfl
  rotate_left
  ·simp only [SX]
   rfl
  refine tk 5 35 ?_ (ms 14 959) rfl rfl HT_ HW_ (by kernel_rfl) (fun _ _ _ h => h) (by rfl) ?_ hHeld ?_ ?_ ?_
  rotate_left
  ·rintro w' ⟨s0, s1, s2, s3⟩
   go_simp
   with_reducible rfl
  rotate_left
  ·simp only [SX]
   rfl
  refine tk 10 40 ?_ (ms 14 1983) rfl rfl HT_ HW_ (by kernel_rfl) (fun _ _ _ h => h) (by rfl) ?_ hHeld ?_ ?_ ?_
  rotate_left
  ·rintro w' ⟨s0, s1, s2, s3⟩
   go_simp
   with_reducible rfl
  rotate_left
  ·simp only [SX]
   rfl
  refine one_ (i := 6) (N := some 36) (ms 14 2047) rfl rfl (one_of HT_.out (by kernel_rfl)) (by decide) (fun K hK => ?_)
  refine goes_ Try.func76 (by kernel_rfl) rfl #[.agg #[.int .i64 a0_0, .slice A0_1 l0_1.length c0_1], .int .i64 (rd l2 (ji11))] (by rfl) rfl rfl (by (try simp only [List.map_toArray, List.map_cons, List.map_nil]); first | done | (simp only [hji11]; rfl) | rfl | (simp only [List.length_drop, List.length_take]; rfl)) ?_
  with_reducible refine (spec_l3All.calls k1 a0_0 _ _ l0_1 (rd l2 (ji11)) t493 _ ?side1 ?side2 A14.out).mono ?_
  (case side1 => repeat (first | exact (Kd.C_below HR0_1.out HB.out) | (with_reducible refine Kd.C_alloc ?_ _) | (with_reducible refine Kd.C_drewN ?_ _) | (with_reducible refine Kd.C_drew ?_)))
  (case side2 => exact HC0_1.out)
  rintro e w23 ⟨v494, rfl, ho0, hb⟩
  refine ⟨_, rfl, ?_⟩
  have HO495 := ak (Kd.R_lower ho0 (below_size (bl1 HB GE488)))
  replace BK488 := ak (blk_below (bk BK488) hb)
  replace HB := ak (below_step (bl1 HB GE488) hb)
  (try clear hb)
  (try clear hb2)
  (try clear hk)
  (try clear hi)
  (try clear ho0)
  obtain ⟨Ao24, co24, eo24⟩ := Kd.R_slice HO495.out
  (first | subst eo24 | (injection eo24 with f1_ f2_ f3_; have f4_ := f1_.symm; have f5_ := f3_.symm; clear f1_ f2_ f3_; subst f4_; subst f5_))
  have p497 : 0 ≤ ((rd l2 x8_1) : Int) := oT (by first | (with_reducible assumption) | assumption)
  have q497 : (rd l2 x8_1) < (t493.length : Int) := oT (by first | (with_reducible assumption) | assumption)
  obtain ⟨ad497, e497, hx497_0⟩ := Kd.at_int (Kd.R_reads' HO495.out).2.2 (rd l2 x8_1) p497 q497
  cases e497
  replace p497 := eq_true p497
  replace q497 := eq_true q497
  refine hK.out _ _ ⟨(blk_cell BK488.out 0).trans rfl, (blk_cell BK488.out 1).trans rfl, ((HB.out.cell (World.block_lt_of_cell? w _ hw492_0)).trans hw492_0), ((HB.out.cell (World.block_lt_of_cell? w _ hw496_0)).trans hw496_0)⟩ (fun hHeld => ?_)
  refine spec_l15Cost.restart (S' := fun w' => w'.cell? ⟨gb488, 0, none⟩ = some (.int .i64 a0_0) ∧ w'.cell? ⟨gb488, 1, none⟩ = some (.slice A0_1 l0_1.length c0_1) ∧ w'.cell? (ad490.add ((ji11)).toNat) = some (.int .i64 (rd l2 (ji11))) ∧ w'.cell? (ad490.add (x8_1).toNat) = some (.int .i64 (rd l2 x8_1)) ∧ w'.cell? (ad497.add ((rd l2 x8_1)).toNat) = some (.int .i64 (rd t493 (rd l2 x8_1)))) (fun w' h_ => ⟨h_.1, h_.2.1, h_.2.2.1, h_.2.2.2.1⟩) ⟨hHeld.1, hHeld.2.1, hHeld.2.2.1, hHeld.2.2.2, hx497_0⟩ (fun hHeld => ?_)
  clear hK K
  refine norm_ (a' := ?_) ?_ ?_
  rotate_left
  ·show Act.put _ (some 36) _ = _
   simp only [SX]
   rfl
  refine pu 11 41 ?_ (ms 14 4095) rfl rfl HT_ (by kernel_rfl) (fun _ _ _ h => h) (by rfl) ?_ ?_ ?_ ?_
  rotate_left
  ·intro w'
   go_simp
   with_reducible rfl
  rotate_left
  ·simp only [SX]
   rfl
  refine tk 12 42 ?_ (ms 14 8191) rfl rfl HT_ HW_ (by kernel_rfl) (fun _ _ _ h => h) (by rfl) ?_ hHeld ?_ ?_ ?_
  rotate_left
  ·rintro w' ⟨s0, s1, s2, s3, s4⟩
   go_simp
   with_reducible rfl
  rotate_left
  ·simp only [SX]
   rfl
  refine pu 13 9 ?_ (ms 14 16383) rfl rfl HT_ (by kernel_rfl) (fun _ _ _ h => h) (by rfl) ?_ ?_ ?_ ?_
  rotate_left
  ·intro w'
   go_simp
   with_reducible rfl
  rotate_left
  ·simp only [SX]
   rfl
  refine done_ (done_of HT_.out (by kernel_rfl)) ?_
  try go_wp2
  go_roundg k1
  case measure => have := HK1.out; omega
  case rel => exact ⟨(wrap64 ((wrap64 (x7_1 + (rd (rd_L3 l1 x8_1) (rd l2 x8_1)))) + (rd t493 (rd l2 x8_1)))), (wrap64 (x8_1 + 1)), (by first | rfl | (simp; done) | (simp [*]; done)), (by first | rfl | (simp; done) | (simp [*]; done)), H', ⟨by have := HK1.out; omega⟩, ⟨bk BK488⟩, ⟨bl1 HB GE488⟩⟩

end Go.Proofs.Ytgickejeakmenaa.F
