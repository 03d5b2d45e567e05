-- Printed by wip/px/px.py of this claim's repository (the kit's printer, extended there). Lean checks it.
import Derived.Test.YtbcedkcjodokkaaFKinds
import Derived.Test.YtbcedkcjodokkaaFEq30
import Derived.Test.YtbcedkcjodokkaaFwkNet
namespace Go.Proofs.Ytbcedkcjodokkaa.F
open Go.RowKit Go.Proofs.YtbcedkcjodokkaaW.PrintWords Go.Proofs.YtbcedkcjodokkaaW.PrintLast Go.Proofs.YtbcedkcjodokkaaW.PrintMore
attribute [local go_sem] max2_int min2_int max_two min_two max_three min_three max_four min_four   -- for this text's walks alone
set_option linter.unusedVariables false
set_option linter.unusedSimpArgs false

attribute [local go_sem high] eqA30
/-! ### laws_wkLive: function 9 -/
mutual
def laws_wkLive.j0 : Nat → Bool → Int → List (S65) → List (S30) → Int → List (S65) → List (S30) → Option (Bool)
 | 0, _, _, _, _, _, _, _ => none
 | k + 1, x20, x388000, x388001, x388002, x389000, x389001, x389002 => if x20 = true then (some false) else (laws_wkLive.l0 k 0 x388000 x388001 x388002 x389000 x389001 x389002)
def laws_wkLive.l0 : Nat → Int → Int → List (S65) → List (S30) → Int → List (S65) → List (S30) → Option (Bool)
 | 0, _, _, _, _, _, _, _ => none
 | k + 1, x5, x388000, x388001, x388002, x389000, x389001, x389002 => if x5 < (x388002.length : Int) then (if 0 ≤ x5 then (if x5 < (x389002.length : Int) then (if (!(((rd_T30 x388002 x5).f0) == ((rd_T30 x389002 x5).f0)) || (!(((rd_T30 x388002 x5).f1) == ((rd_T30 x389002 x5).f1)) || (!(((rd_T30 x388002 x5).f2) == ((rd_T30 x389002 x5).f2))))) = true then (some false) else (laws_wkLive.l0 k (wrap64 (x5 + 1)) x388000 x388001 x388002 x389000 x389001 x389002)) else (none)) else (none)) else (some true)
end
def laws_wkLive.f (k : Nat) (a0_0 : Int) (l0_1 : List (S65)) (l0_2 : List (S30)) (a1_0 : Int) (l1_1 : List (S65)) (l1_2 : List (S30)) : Option (Bool) := (laws_wkNet.f k a0_0 l0_1 a1_0 l1_1).bind fun t389 => (if t389 = true then (laws_wkLive.j0 k ((l0_2.length : Int) != (l1_2.length : Int)) a0_0 l0_1 l0_2 a1_0 l1_1 l1_2) else (laws_wkLive.j0 k true a0_0 l0_1 l0_2 a1_0 l1_1 l1_2))
theorem laws_wkLive.mono_l : ∀ k, (∀ y0 y1 y2 y3 y4 y5 y6, LeO (laws_wkLive.j0 k y0 y1 y2 y3 y4 y5 y6) (laws_wkLive.j0 (k + 1) y0 y1 y2 y3 y4 y5 y6)) ∧ (∀ y0 y1 y2 y3 y4 y5 y6, LeO (laws_wkLive.l0 k y0 y1 y2 y3 y4 y5 y6) (laws_wkLive.l0 (k + 1) y0 y1 y2 y3 y4 y5 y6))
 | 0 => ⟨fun _ _ _ _ _ _ _ r h => by simp [laws_wkLive.j0] at h, fun _ _ _ _ _ _ _ r h => by simp [laws_wkLive.l0] at h⟩
 | k + 1 => by
  obtain ⟨ih0, ih1⟩ := laws_wkLive.mono_l k
  refine ⟨?_, ?_⟩
  ·intro y0 y1 y2 y3 y4 y5 y6
   unfold laws_wkLive.j0
   repeat' first | (with_reducible exact ih1 _ _ _ _ _ _ _) | (with_reducible exact LeO.refl _) | (with_reducible refine LeO.ite ?_ ?_)
  ·intro y0 y1 y2 y3 y4 y5 y6
   unfold laws_wkLive.l0
   repeat' first | (with_reducible exact ih1 _ _ _ _ _ _ _) | (with_reducible exact LeO.refl _) | (with_reducible refine LeO.ite ?_ ?_)
theorem laws_wkLive.mono : ∀ a0 a1 a2 a3 a4 a5 k, LeO (laws_wkLive.f k a0 a1 a2 a3 a4 a5) (laws_wkLive.f (k + 1) a0 a1 a2 a3 a4 a5) := by
 intro a0 a1 a2 a3 a4 a5 k
 obtain ⟨ih0, ih1⟩ := laws_wkLive.mono_l k
 unfold laws_wkLive.f
 repeat' first | (with_reducible exact ih0 _ _ _ _ _ _ _) | (with_reducible exact laws_wkNet.mono _ _ _ _ _) | (with_reducible refine LeO.ite ?_ ?_) | (with_reducible refine LeO.bind ?_ (fun _ => ?_))
set_option maxHeartbeats 8000000 in
set_option maxRecDepth 100000 in
theorem laws_wkLive.calls (k : Nat) (a0_0 : Int) (A0_1 : Option Addr) (c0_1 : Nat) (l0_1 : List (S65)) (A0_2 : Option Addr) (c0_2 : Nat) (l0_2 : List (S30)) (a1_0 : Int) (A1_1 : Option Addr) (c1_1 : Nat) (l1_1 : List (S65)) (A1_2 : Option Addr) (c1_2 : Nat) (l1_2 : List (S30)) (r : Bool) (w : World) (hr0_1 : Kd.C k65 w A0_1 l0_1.length l0_1) (hc0_1 : l0_1.length ≤ c0_1) (hr0_2 : Kd.C k30 w A0_2 l0_2.length l0_2) (hc0_2 : l0_2.length ≤ c0_2) (hr1_1 : Kd.C k65 w A1_1 l1_1.length l1_1) (hc1_1 : l1_1.length ≤ c1_1) (hr1_2 : Kd.C k30 w A1_2 l1_2.length l1_2) (hc1_2 : l1_2.length ≤ c1_2) (h : laws_wkLive.f k a0_0 l0_1 l0_2 a1_0 l1_1 l1_2 = some r) :
  Calls Try.prog 9 #[.agg #[.int .i64 a0_0, .slice A0_1 l0_1.length c0_1, .slice A0_2 l0_2.length c0_2], .agg #[.int .i64 a1_0, .slice A1_1 l1_1.length c1_1, .slice A1_2 l1_2.length c1_2]] w fun e w' => e = .returned (.bool r) ∧ Below w.heap.size w w' := by
 have hu28 := Try.underlying28
 have hu25 := Try.underlying25
 have hu30 := Try.underlying30
 have HR0_1 := ak hr0_1
 have HC0_1 := ak hc0_1
 clear hr0_1 hc0_1
 have HR0_2 := ak hr0_2
 have HC0_2 := ak hc0_2
 clear hr0_2 hc0_2
 have HR1_1 := ak hr1_1
 have HC1_1 := ak hc1_1
 clear hr1_1 hc1_1
 have HR1_2 := ak hr1_2
 have HC1_2 := ak hc1_2
 clear hr1_2 hc1_2
 have HB := ak (Below.refl w.heap.size w)
 have H : ((laws_wkNet.f k a0_0 l0_1 a1_0 l1_1).bind fun t389 => (if t389 = true then (laws_wkLive.j0 k ((l0_2.length : Int) != (l1_2.length : Int)) a0_0 l0_1 l0_2 a1_0 l1_1 l1_2) else (laws_wkLive.j0 k true a0_0 l0_1 l0_2 a1_0 l1_1 l1_2))) = some r := h
 clear h
 have HC3 := ak H
 clear H
 go_enter Try.func9, Try.ntmps9
 go_upto_region 1 with (first | ((with_reducible refine gate_dst (N := 2) rfl ?_); refine box_event ?hg (N := 2) ?hd (cs := #[.int .i64 a0_0, .slice A0_1 l0_1.length c0_1, .slice A0_2 l0_2.length c0_2]) (t := 28) ?hr ?_; (case hd => rfl); (case hg => rfl); (case hr => (go_simp; done)); intro gb387 hg w4 hbox hb; have BK387 := ak (hbox); have GW387 := ak ((by rw [hg]; exact (below_size (bl HB)) : w.heap.size ≤ gb387)); have GE387 := ak ((by rw [hg]; exact (below_size (bl HB)) : w.heap.size ≤ gb387)); replace HB := ak (below_step (bl HB) hb); clear hb hbox hg) | ((with_reducible refine gate_dst (N := 3) rfl ?_); refine box_event ?hg (N := 3) ?hd (cs := #[.int .i64 a1_0, .slice A1_1 l1_1.length c1_1, .slice A1_2 l1_2.length c1_2]) (t := 28) ?hr ?_; (case hd => rfl); (case hg => rfl); (case hr => (go_simp; done)); intro gb388 hg w5 hbox hb; have BK388 := ak (hbox); have GW388 := ak ((by rw [hg]; exact (below_size (bl1 HB GE387)) : w.heap.size ≤ gb388)); have GE388 := ak ((by rw [hg]; exact (below_size (bl1 HB GE387)) : w.heap.size ≤ gb388)); replace HB := ak (below_step (bl1 HB GE387) hb); have NB387_388 := ak ((by rw [hg]; exact Nat.ne_of_lt (blk_lt (bk BK387)) : gb387 ≠ gb388)); have NB388_387 := ak ((by rw [hg]; exact Nat.ne_of_gt (blk_lt (bk BK387)) : gb388 ≠ gb387)); replace BK387 := ak (blk_below (bk BK387) hb); clear hb hbox hg))
 repeat (go_quiet (fail); go_upto_region 1 with (fail))
 (try simp only [Act.put, List.setIfInBounds_toArray, List.set_cons_zero, List.set_cons_succ])
 go_cut [20] (fun v20 wc => ∃ (kq : Nat) (x20_2 : Bool), v20 = .bool x20_2 ∧ Aside0 (laws_wkLive.j0 kq x20_2 a0_0 l0_1 l0_2 a1_0 l1_1 l1_2 = some r) ∧ Aside0 (kq ≤ k) ∧ Aside0 (wc.heap[gb387]? = some (.cells #[.int .i64 a0_0, (.slice A0_1 l0_1.length c0_1), (.slice A0_2 l0_2.length c0_2)] 28 (0, 0))) ∧ Aside0 (wc.heap[gb388]? = some (.cells #[.int .i64 a1_0, (.slice A1_1 l1_1.length c1_1), (.slice A1_2 l1_2.length c1_2)] 28 (0, 0))) ∧ Aside0 (Below w.heap.size w wc))
 case first =>
  have H := HC3.out
  clear HC3
  replace H := Option.bind_eq_some_iff.mp H
  obtain ⟨t389, A60, H⟩ := H
  have A6 := ak A60
  clear A60
  by_cases c7 : t389 = true
  rotate_left
  ·replace c7 := Bool.eq_false_iff.mpr c7
   subst c7
   rw [if_neg (show ¬ (false = true) by decide)] at H
   have H' := ak H
   clear H
   have hnb14 := NB387_388.out
   have hnc14 := NB388_387.out
   have hcz15_0 := bc w5 BK387 0 (.int .i64 a0_0) rfl
   have hcz15_1 := bc w5 BK387 1 (.slice A0_1 l0_1.length c0_1) rfl
   have hcz15_2 := bc w5 BK387 2 (.slice A0_2 l0_2.length c0_2) rfl
   have hfz15_0 := fz BK387 0
   have hfz15_1 := fz BK387 1
   have hfz15_2 := fz BK387 2
   have hcz16_0 := bc w5 BK388 0 (.int .i64 a1_0) rfl
   have hcz16_1 := bc w5 BK388 1 (.slice A1_1 l1_1.length c1_1) rfl
   have hcz16_2 := bc w5 BK388 2 (.slice A1_2 l1_2.length c1_2) rfl
   have hfz16_0 := fz BK388 0
   have hfz16_1 := fz BK388 1
   have hfz16_2 := fz BK388 2
   go_wp2_with (first | (go_at_call 24; (with_reducible refine (laws_wkNet.calls k a0_0 _ _ l0_1 a1_0 _ _ l1_1 false _ ?side1 ?side2 ?side3 ?side4 A6.out).mono ?_); (case side1 => repeat (exact (Kd.C_below HR0_1.out HB.out))); (case side2 => exact HC0_1.out); (case side3 => repeat (exact (Kd.C_below HR1_1.out HB.out))); (case side4 => exact HC1_1.out); rintro e w17 ⟨rfl, hb⟩; have n0_ := ak (blk_below (bk BK387) hb); have n1_ := ak (blk_below (bk BK388) hb); have n2_ := ak (below_step (bl2 HB GE387 GE388) hb); clear BK387; clear BK388; clear HB; have BK387 := n0_; have BK388 := n1_; have HB := n2_; clear n0_ n1_ n2_; (try clear hb); (try clear hb2); (try clear hk); (try clear hi)) | go_skip | go_step)
   go_meet
   case rel => exact ⟨_, (true), (by rfl), H', ⟨by omega⟩, ⟨bk BK387⟩, ⟨bk BK388⟩, ⟨bl2 HB GE387 GE388⟩⟩
  subst c7
  rw [if_pos rfl] at H
  have H' := ak H
  clear H
  have hnb8 := NB387_388.out
  have hnc8 := NB388_387.out
  have hcz9_0 := bc w5 BK387 0 (.int .i64 a0_0) rfl
  have hcz9_1 := bc w5 BK387 1 (.slice A0_1 l0_1.length c0_1) rfl
  have hcz9_2 := bc w5 BK387 2 (.slice A0_2 l0_2.length c0_2) rfl
  have hfz9_0 := fz BK387 0
  have hfz9_1 := fz BK387 1
  have hfz9_2 := fz BK387 2
  have hcz10_0 := bc w5 BK388 0 (.int .i64 a1_0) rfl
  have hcz10_1 := bc w5 BK388 1 (.slice A1_1 l1_1.length c1_1) rfl
  have hcz10_2 := bc w5 BK388 2 (.slice A1_2 l1_2.length c1_2) rfl
  have hfz10_0 := fz BK388 0
  have hfz10_1 := fz BK388 1
  have hfz10_2 := fz BK388 2
  go_wp2_with (first | (go_at_call 24; (with_reducible refine (laws_wkNet.calls k a0_0 _ _ l0_1 a1_0 _ _ l1_1 true _ ?side1 ?side2 ?side3 ?side4 A6.out).mono ?_); (case side1 => repeat (exact (Kd.C_below HR0_1.out HB.out))); (case side2 => exact HC0_1.out); (case side3 => repeat (exact (Kd.C_below HR1_1.out HB.out))); (case side4 => exact HC1_1.out); rintro e w11 ⟨rfl, hb⟩; have n0_ := ak (blk_below (bk BK387) hb); have n1_ := ak (blk_below (bk BK388) hb); have n2_ := ak (below_step (bl2 HB GE387 GE388) hb); clear BK387; clear BK388; clear HB; have BK387 := n0_; have BK388 := n1_; have HB := n2_; clear n0_ n1_ n2_; (try clear hb); (try clear hb2); (try clear hk); (try clear hi); have hcz12_0 := bc w11 BK387 0 (.int .i64 a0_0) rfl; have hcz12_1 := bc w11 BK387 1 (.slice A0_1 l0_1.length c0_1) rfl; have hcz12_2 := bc w11 BK387 2 (.slice A0_2 l0_2.length c0_2) rfl; have hfz12_0 := fz BK387 0; have hfz12_1 := fz BK387 1; have hfz12_2 := fz BK387 2; have hcz13_0 := bc w11 BK388 0 (.int .i64 a1_0) rfl; have hcz13_1 := bc w11 BK388 1 (.slice A1_1 l1_1.length c1_1) rfl; have hcz13_2 := bc w11 BK388 2 (.slice A1_2 l1_2.length c1_2) rfl; have hfz13_0 := fz BK388 0; have hfz13_1 := fz BK388 1; have hfz13_2 := fz BK388 2) | go_guarded | go_step)
  go_meet
  case rel => exact ⟨_, (((l0_2.length : Int) != (l1_2.length : Int))), (by rfl), H', ⟨by omega⟩, ⟨bk BK387⟩, ⟨bk BK388⟩, ⟨bl2 HB GE387 GE388⟩⟩
 clear HC3
 try clear c1
 try clear p2
 try clear c7
 try clear c8
 try clear c9
 try clear c14
 try clear hcz10_0
 try clear hcz10_1
 try clear hcz10_2
 try clear hcz12_0
 try clear hcz12_1
 try clear hcz12_2
 try clear hcz13_0
 try clear hcz13_1
 try clear hcz13_2
 try clear hcz15_0
 try clear hcz15_1
 try clear hcz15_2
 try clear hcz16_0
 try clear hcz16_1
 try clear hcz16_2
 try clear hcz9_0
 try clear hcz9_1
 try clear hcz9_2
 try clear hfz10_0
 try clear hfz10_1
 try clear hfz10_2
 try clear hfz12_0
 try clear hfz12_1
 try clear hfz12_2
 try clear hfz13_0
 try clear hfz13_1
 try clear hfz13_2
 try clear hfz15_0
 try clear hfz15_1
 try clear hfz15_2
 try clear hfz16_0
 try clear hfz16_1
 try clear hfz16_2
 try clear hfz9_0
 try clear hfz9_1
 try clear hfz9_2
 obtain ⟨kq, x20_2, rfl, HA, HJ2, BK387, BK388, HB⟩ := hcut
 cases kq with
 | zero => exact absurd HA.out (by simp [laws_wkLive.j0])
 | succ kj2 =>
  have H := HA.out
  clear HA
  simp only [laws_wkLive.j0] at H
  by_cases c18 : x20_2 = true
  ·subst c18
   rw [if_pos rfl] at H
   obtain rfl := Option.some.inj H
   go_wp2
   repeat (go_quiet (fail); try go_wp2)
   go_ret
   exact ⟨by rfl, bl2 HB GE387 GE388⟩
  replace c18 := Bool.eq_false_iff.mpr c18
  subst c18
  rw [if_neg (show ¬ (false = true) by decide)] at H
  have H' := ak H
  clear H
  go_wp2
  repeat (go_quiet (fail); try go_wp2)
  go_loopg [5] kj2 (fun kq v5 w' => ∃ (x5_2 : Int), v5 = .int .i64 x5_2 ∧ Aside0 (laws_wkLive.l0 kq x5_2 a0_0 l0_1 l0_2 a1_0 l1_1 l1_2 = some r) ∧ Aside0 (kq ≤ kj2) ∧ Aside0 (w'.heap[gb387]? = some (.cells #[.int .i64 a0_0, (.slice A0_1 l0_1.length c0_1), (.slice A0_2 l0_2.length c0_2)] 28 (0, 0))) ∧ Aside0 (w'.heap[gb388]? = some (.cells #[.int .i64 a1_0, (.slice A1_1 l1_1.length c1_1), (.slice A1_2 l1_2.length c1_2)] 28 (0, 0))) ∧ Aside0 (Below w.heap.size w w'))
  case atStart => exact ⟨(0), (by rfl), H', ⟨Nat.le_refl _⟩, ⟨bk BK387⟩, ⟨bk BK388⟩, ⟨bl2 HB GE387 GE388⟩⟩
  clear H'
  try clear c1
  try clear p2
  try clear c7
  try clear c8
  try clear c9
  try clear c14
  try clear c18
  try clear hcz10_0
  try clear hcz10_1
  try clear hcz10_2
  try clear hcz12_0
  try clear hcz12_1
  try clear hcz12_2
  try clear hcz13_0
  try clear hcz13_1
  try clear hcz13_2
  try clear hcz15_0
  try clear hcz15_1
  try clear hcz15_2
  try clear hcz16_0
  try clear hcz16_1
  try clear hcz16_2
  try clear hcz9_0
  try clear hcz9_1
  try clear hcz9_2
  try clear hfz10_0
  try clear hfz10_1
  try clear hfz10_2
  try clear hfz12_0
  try clear hfz12_1
  try clear hfz12_2
  try clear hfz13_0
  try clear hfz13_1
  try clear hfz13_2
  try clear hfz15_0
  try clear hfz15_1
  try clear hfz15_2
  try clear hfz16_0
  try clear hfz16_1
  try clear hfz16_2
  try clear hfz9_0
  try clear hfz9_1
  try clear hfz9_2
  try clear p2
  obtain ⟨x5_2, rfl, HA, HK2, BK387, BK388, HB⟩ := hrel
  cases gk with
  | zero => exact absurd HA.out (by simp [laws_wkLive.l0])
  | succ k2 =>
   have H := HA.out
   clear HA
   simp only [laws_wkLive.l0] at H
   by_cases c19 : x5_2 < (l0_2.length : Int)
   rotate_left
   ·rw [if_neg c19] at H
    have c19b0 : decide (x5_2 < (l0_2.length : Int)) = false := decide_eq_false c19
    clear c19
    obtain rfl := Option.some.inj H
    have hnb29 := NB387_388.out
    have hnc29 := NB388_387.out
    have hcz30_0 := bc wr BK387 0 (.int .i64 a0_0) rfl
    have hcz30_1 := bc wr BK387 1 (.slice A0_1 l0_1.length c0_1) rfl
    have hcz30_2 := bc wr BK387 2 (.slice A0_2 l0_2.length c0_2) rfl
    have hfz30_0 := fz BK387 0
    have hfz30_1 := fz BK387 1
    have hfz30_2 := fz BK387 2
    go_wp2
    repeat (go_quiet (fail); try go_wp2)
    go_ret
    exact ⟨by rfl, bl2 HB GE387 GE388⟩
   rw [if_pos c19] at H
   have c19b0 : decide (x5_2 < (l0_2.length : Int)) = true := decide_eq_true c19
   clear c19
   by_cases c20 : 0 ≤ x5_2
   rotate_left
   ·rw [if_neg c20] at H
    exact absurd H (by simp)
   rw [if_pos c20] at H
   have c20b0 : decide (0 ≤ x5_2) = true := decide_eq_true c20
   clear c20
   by_cases c21 : x5_2 < (l1_2.length : Int)
   rotate_left
   ·rw [if_neg c21] at H
    exact absurd H (by simp)
   rw [if_pos c21] at H
   have c21b0 : decide (x5_2 < (l1_2.length : Int)) = true := decide_eq_true c21
   clear c21
   by_cases c22 : (!(((rd_T30 l0_2 x5_2).f0) == ((rd_T30 l1_2 x5_2).f0)) || (!(((rd_T30 l0_2 x5_2).f1) == ((rd_T30 l1_2 x5_2).f1)) || (!(((rd_T30 l0_2 x5_2).f2) == ((rd_T30 l1_2 x5_2).f2))))) = true
   ·rw [if_pos c22] at H
    have c22b0 : (!(((rd_T30 l0_2 x5_2).f0) == ((rd_T30 l1_2 x5_2).f0)) || (!(((rd_T30 l0_2 x5_2).f1) == ((rd_T30 l1_2 x5_2).f1)) || (!(((rd_T30 l0_2 x5_2).f2) == ((rd_T30 l1_2 x5_2).f2))))) = true := c22
    clear c22
    obtain rfl := Option.some.inj H
    have hnb23 := NB387_388.out
    have hnc23 := NB388_387.out
    have hcz24_0 := bc wr BK387 0 (.int .i64 a0_0) rfl
    have hcz24_1 := bc wr BK387 1 (.slice A0_1 l0_1.length c0_1) rfl
    have hcz24_2 := bc wr BK387 2 (.slice A0_2 l0_2.length c0_2) rfl
    have hfz24_0 := fz BK387 0
    have hfz24_1 := fz BK387 1
    have hfz24_2 := fz BK387 2
    have p390 : 0 ≤ (x5_2 : Int) := oT (by (with_reducible assumption))
    have q390 : x5_2 < (l0_2.length : Int) := oT (by (with_reducible assumption))
    obtain ⟨ad390, e390, hx390_0, hx390_1, hx390_2⟩ := at_T30 HR0_2.out x5_2 p390 q390
    cases e390
    replace hx390_0 := hcb HB.out hx390_0
    replace hx390_1 := hcb HB.out hx390_1
    replace hx390_2 := hcb HB.out hx390_2
    replace p390 := eq_true p390
    replace q390 := eq_true q390
    have hcz25_0 := bc wr BK388 0 (.int .i64 a1_0) rfl
    have hcz25_1 := bc wr BK388 1 (.slice A1_1 l1_1.length c1_1) rfl
    have hcz25_2 := bc wr BK388 2 (.slice A1_2 l1_2.length c1_2) rfl
    have hfz25_0 := fz BK388 0
    have hfz25_1 := fz BK388 1
    have hfz25_2 := fz BK388 2
    have p391 : 0 ≤ (x5_2 : Int) := oT (by (with_reducible assumption))
    have q391 : x5_2 < (l1_2.length : Int) := oT (by (with_reducible assumption))
    obtain ⟨ad391, e391, hx391_0, hx391_1, hx391_2⟩ := at_T30 HR1_2.out x5_2 p391 q391
    cases e391
    replace hx391_0 := hcb HB.out hx391_0
    replace hx391_1 := hcb HB.out hx391_1
    replace hx391_2 := hcb HB.out hx391_2
    replace p391 := eq_true p391
    replace q391 := eq_true q391
    go_wp2
    repeat (go_quiet (fail); try go_wp2)
    go_ret
    exact ⟨by rfl, bl2 HB GE387 GE388⟩
   rw [if_neg c22] at H
   have c22b0 : (!(((rd_T30 l0_2 x5_2).f0) == ((rd_T30 l1_2 x5_2).f0)) || (!(((rd_T30 l0_2 x5_2).f1) == ((rd_T30 l1_2 x5_2).f1)) || (!(((rd_T30 l0_2 x5_2).f2) == ((rd_T30 l1_2 x5_2).f2))))) = false := by simpa using c22
   clear c22
   have H' := ak H
   clear H
   have hnb26 := NB387_388.out
   have hnc26 := NB388_387.out
   have hcz27_0 := bc wr BK387 0 (.int .i64 a0_0) rfl
   have hcz27_1 := bc wr BK387 1 (.slice A0_1 l0_1.length c0_1) rfl
   have hcz27_2 := bc wr BK387 2 (.slice A0_2 l0_2.length c0_2) rfl
   have hfz27_0 := fz BK387 0
   have hfz27_1 := fz BK387 1
   have hfz27_2 := fz BK387 2
   have p390 : 0 ≤ (x5_2 : Int) := oT (by (with_reducible assumption))
   have q390 : x5_2 < (l0_2.length : Int) := oT (by (with_reducible assumption))
   obtain ⟨ad390, e390, hx390_0, hx390_1, hx390_2⟩ := at_T30 HR0_2.out x5_2 p390 q390
   cases e390
   replace hx390_0 := hcb HB.out hx390_0
   replace hx390_1 := hcb HB.out hx390_1
   replace hx390_2 := hcb HB.out hx390_2
   replace p390 := eq_true p390
   replace q390 := eq_true q390
   have hcz28_0 := bc wr BK388 0 (.int .i64 a1_0) rfl
   have hcz28_1 := bc wr BK388 1 (.slice A1_1 l1_1.length c1_1) rfl
   have hcz28_2 := bc wr BK388 2 (.slice A1_2 l1_2.length c1_2) rfl
   have hfz28_0 := fz BK388 0
   have hfz28_1 := fz BK388 1
   have hfz28_2 := fz BK388 2
   have p391 : 0 ≤ (x5_2 : Int) := oT (by (with_reducible assumption))
   have q391 : x5_2 < (l1_2.length : Int) := oT (by (with_reducible assumption))
   obtain ⟨ad391, e391, hx391_0, hx391_1, hx391_2⟩ := at_T30 HR1_2.out x5_2 p391 q391
   cases e391
   replace hx391_0 := hcb HB.out hx391_0
   replace hx391_1 := hcb HB.out hx391_1
   replace hx391_2 := hcb HB.out hx391_2
   replace p391 := eq_true p391
   replace q391 := eq_true q391
   go_wp2
   repeat (go_quiet (fail); try go_wp2)
   go_roundg k2
   case measure => have := HJ2.out; have := HK2.out; omega
   case rel => exact ⟨(wrap64 (x5_2 + 1)), (by rfl), H', ⟨by have := HJ2.out; have := HK2.out; omega⟩, ⟨bk BK387⟩, ⟨bk BK388⟩, ⟨bl2 HB GE387 GE388⟩⟩

end Go.Proofs.Ytbcedkcjodokkaa.F
