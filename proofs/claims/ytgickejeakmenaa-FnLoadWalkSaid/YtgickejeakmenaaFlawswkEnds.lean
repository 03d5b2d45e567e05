-- Printed by wip/px/px.py of this claim's repository (the kit's printer, extended there). Lean checks it.
import Derived.Test.YtgickejeakmenaaFKinds
import Derived.Test.YtgickejeakmenaaFimplWalkOk
namespace Go.Proofs.Ytgickejeakmenaa.F
open Go.RowKit Go.Proofs.YtgickejeakmenaaW.PrintWords Go.Proofs.YtgickejeakmenaaW.PrintLast Go.Proofs.YtgickejeakmenaaW.PrintMore
attribute [local go_sem] max2_int min2_int max_two min_two max_three min_three max_four min_four   -- for this text's walks alone
set_option linter.unusedVariables false
set_option linter.unusedSimpArgs false

/-! ### laws_wkEnds: function 47 -/
def laws_wkEnds.f (k : Nat) (a0_0 : Int) (l0_1 : List (S41)) (l1 : List Int) (a2 : Int) (a3 : Int) : Option (Bool) := if (l1.length : Int) = 0 then (some (a2 == a3)) else ((impl_WalkOk.f k a0_0 l0_1 l1).bind fun t1366 => (if t1366 = true then (if 0 < (l1.length : Int) then (if 0 ≤ (rd l1 0) then (if (rd l1 0) < (l0_1.length : Int) then (if ((rd_T41 l0_1 (rd l1 0)).f0) = a2 then (if 0 ≤ (wrap64 ((l1.length : Int) - 1)) then (if (wrap64 ((l1.length : Int) - 1)) < (l1.length : Int) then (if 0 ≤ (rd l1 (wrap64 ((l1.length : Int) - 1))) then (if (rd l1 (wrap64 ((l1.length : Int) - 1))) < (l0_1.length : Int) then (some (((rd_T41 l0_1 (rd l1 (wrap64 ((l1.length : Int) - 1)))).f1) == a3)) else (none)) else (none)) else (none)) else (none)) else (some false)) else (none)) else (none)) else (none)) else (some false)))
theorem laws_wkEnds.mono : ∀ a0 a1 a2 a3 a4 k, LeO (laws_wkEnds.f k a0 a1 a2 a3 a4) (laws_wkEnds.f (k + 1) a0 a1 a2 a3 a4) := by
 intro a0 a1 a2 a3 a4 k
 unfold laws_wkEnds.f
 repeat' first | (with_reducible exact impl_WalkOk.mono _ _ _ _) | (with_reducible exact LeO.refl _) | (with_reducible refine LeO.ite ?_ ?_) | (with_reducible refine LeO.bind ?_ (fun _ => ?_))
def laws_wkEnds.T3 : Bool × List (List Nat × List Nat) := (true, [([], []), ([], []), ([0, 1], [0, 1]), ([2, 2], [2]), ([3], [3]), ([4, 3], [3, 4]), ([3], [3]), ([6, 3], [3, 6]), ([7, 3], [3, 7]), ([5, 8, 3], [3, 5, 8]), ([9, 3], [3, 9]), ([10, 3], [3, 10]), ([3], [3]), ([11, 12, 3], [3, 11, 12]), ([3, 13], [3, 13]), ([14, 3], [14]), ([15], [15]), ([16, 15], [15, 16]), ([15], [15]), ([15], [15]), ([19, 15], [15, 19]), ([20, 15], [15, 20]), ([18, 21, 15], [15, 18, 21]), ([22, 15], [15, 22]), ([17, 23, 15], [15, 17, 23]), ([24, 15], [15, 24]), ([25, 15], [15, 25]), ([15], [15]), ([26, 27, 15], [15, 26, 27]), ([15, 28], [15, 28]), ([29, 15, 0, 1, 2, 3, 4, 5, 6, 7, 8, 9, 10, 11, 12, 13, 14, 15, 16, 17, 18, 19, 20, 21, 22, 23, 24, 25, 26, 27, 28, 29], [29])])
def laws_wkEnds.B3 : List Nat := [0, 0, 3, 7, 15, 31, 15, 79, 207, 511, 1023, 2047, 15, 8191, 16383, 32767, 65535, 131071, 65535, 65535, 589823, 1638399, 3997695, 8191999, 16777215, 33554431, 67108863, 65535, 268435455, 536870911, 1073741823]
theorem laws_wkEnds.tab3 : rtab .any (opsOf Try.f47 3) = laws_wkEnds.T3 := by kernel_rfl
theorem laws_wkEnds.bits3 : waitsOk laws_wkEnds.T3.2 laws_wkEnds.B3 = true := by kernel_rfl
set_option maxHeartbeats 8000000 in
set_option maxRecDepth 100000 in
theorem laws_wkEnds.calls (k : Nat) (a0_0 : Int) (A0_1 : Option Addr) (c0_1 : Nat) (l0_1 : List (S41)) (A1 : Option Addr) (c1 : Nat) (l1 : List Int) (a2 : Int) (a3 : Int) (r : Bool) (w : World) (hr0_1 : Kd.C k41 w A0_1 l0_1.length l0_1) (hc0_1 : l0_1.length ≤ c0_1) (hr1 : Kd.C (Kd.int .i64) w A1 l1.length l1) (hc1 : l1.length ≤ c1) (h : laws_wkEnds.f k a0_0 l0_1 l1 a2 a3 = some r) :
  Calls Try.prog 47 #[.agg #[.int .i64 a0_0, .slice A0_1 l0_1.length c0_1], .slice A1 l1.length c1, .int .i64 a2, .int .i64 a3] w fun e w' => e = .returned (.bool r) ∧ Below w.heap.size w w' := by
 have hu25 := Try.underlying25
 have HR0_1 := Aside0.mk hr0_1
 have HC0_1 := Aside0.mk hc0_1
 clear hr0_1 hc0_1
 have HR1 := Aside0.mk hr1
 have HC1 := Aside0.mk hc1
 clear hr1 hc1
 have HB := Aside0.mk (Below.refl w.heap.size w)
 have H : (if (l1.length : Int) = 0 then (some (a2 == a3)) else ((impl_WalkOk.f k a0_0 l0_1 l1).bind fun t1366 => (if t1366 = true then (if 0 < (l1.length : Int) then (if 0 ≤ (rd l1 0) then (if (rd l1 0) < (l0_1.length : Int) then (if ((rd_T41 l0_1 (rd l1 0)).f0) = a2 then (if 0 ≤ (wrap64 ((l1.length : Int) - 1)) then (if (wrap64 ((l1.length : Int) - 1)) < (l1.length : Int) then (if 0 ≤ (rd l1 (wrap64 ((l1.length : Int) - 1))) then (if (rd l1 (wrap64 ((l1.length : Int) - 1))) < (l0_1.length : Int) then (some (((rd_T41 l0_1 (rd l1 (wrap64 ((l1.length : Int) - 1)))).f1) == a3)) else (none)) else (none)) else (none)) else (none)) else (some false)) else (none)) else (none)) else (none)) else (some false)))) = some r := h
 clear h
 by_cases c5 : (l1.length : Int) = 0
 ·rw [if_pos c5] at H
  have c5b0 : ((l1.length : Int) == 0) = true := beq_iff_eq.mpr c5
  have c5b1 : ((l1.length : Int) != 0) = false := bne_eq_false_iff_eq.mpr c5
  clear c5
  obtain rfl := Option.some.inj H
  go_enter Try.func47, Try.ntmps47
  go_wp2_with (((with_reducible refine gate_dst (N := 4) rfl ?_); refine box_event ?hg (N := 4) ?hd (cs := #[.int .i64 a0_0, .slice A0_1 l0_1.length c0_1]) (t := 25) ?hr ?_; (case hd => rfl); (case hg => rfl); (case hr => (go_simp; done)); intro gb1365 hg w6 hbox hb; have BK1365 := Aside0.mk (hbox); have GW1365 := Aside0.mk ((by rw [hg]; exact (below_size (bl HB)) : w.heap.size ≤ gb1365)); have GE1365 := Aside0.mk ((by rw [hg]; exact (below_size (bl HB)) : w.heap.size ≤ gb1365)); replace HB := Aside0.mk (below_step (bl HB) hb); clear hb hbox hg))
  go_ret
  exact ⟨by rfl, bl1 HB GE1365⟩
 rw [if_neg c5] at H
 have c5b0 : ((l1.length : Int) == 0) = false := beq_eq_false_iff_ne.mpr c5
 have c5b1 : ((l1.length : Int) != 0) = true := bne_iff_ne.mpr c5
 have c5b2 : ¬ (l1 = []) := fun h_ => c5 (by rw [h_]; rfl)
 replace H := Option.bind_eq_some_iff.mp H
 obtain ⟨t1366, A70, H⟩ := H
 have A7 := Aside0.mk A70
 clear A70
 by_cases c8 : t1366 = true
 rotate_left
 ·replace c8 := Bool.eq_false_iff.mpr c8
  subst c8
  rw [if_neg (show ¬ (false = true) by decide)] at H
  obtain rfl := Option.some.inj H
  go_enter Try.func47, Try.ntmps47
  try go_wp2_with (((with_reducible refine gate_dst (N := 4) rfl ?_); refine box_event ?hg (N := 4) ?hd (cs := #[.int .i64 a0_0, .slice A0_1 l0_1.length c0_1]) (t := 25) ?hr ?_; (case hd => rfl); (case hg => rfl); (case hr => (go_simp; done)); intro gb1365 hg w24 hbox hb; have BK1365 := Aside0.mk (hbox); have GW1365 := Aside0.mk ((by rw [hg]; exact (below_size (bl HB)) : w.heap.size ≤ gb1365)); have GE1365 := Aside0.mk ((by rw [hg]; exact (below_size (bl HB)) : w.heap.size ≤ gb1365)); replace HB := Aside0.mk (below_step (bl HB) hb); clear hb hbox hg))
  replace BK1365 := Aside0.mk (blk_drew BK1365.out)
  replace HB := Aside0.mk (below_drew1 HB.out)
  refine start_ (n := 31) (S := fun w' => w'.cell? ⟨gb1365, 0, none⟩ = some (.int .i64 a0_0) ∧ w'.cell? ⟨gb1365, 1, none⟩ = some (.slice A0_1 l0_1.length c0_1)) (ds := []) (ms 31 0) (by kernel_rfl) rfl (by kernel_rfl) ⟨(blk_cell BK1365.out 0).trans rfl, (blk_cell BK1365.out 1).trans rfl⟩ (fun hHeld => ?_); refine with_tabW laws_wkEnds.tab3 laws_wkEnds.bits3 (fun HT_ HW_ => ?_)
  generalize w24.drew = w25 at BK1365 HB hHeld ⊢
  refine pu 1 16 ?_ (ms 31 2) rfl rfl HT_ (by kernel_rfl) (fun _ _ _ h => h) (by rfl) ?_ ?_ ?_ ?_
  rotate_left
  ·intro w'
   go_simp
   with_reducible rfl
  rotate_left
  ·simp only [SX]
   rfl
  refine tk 0 15 ?_ (ms 31 3) rfl rfl HT_ HW_ (by kernel_rfl) (fun _ _ _ h => h) (by rfl) ?_ hHeld ?_ ?_ ?_
  rotate_left
  ·rintro w' ⟨s0, s1⟩
   go_simp
   with_reducible rfl
  rotate_left
  ·simp only [SX]
   rfl
  refine one_ (i := 2) (N := some 17) (ms 31 7) rfl rfl (one_of HT_.out (by kernel_rfl)) (by decide) (fun K hK => ?_)
  refine goes_ Try.func99 (by kernel_rfl) rfl #[.agg #[.int .i64 a0_0, .slice A0_1 l0_1.length c0_1], .slice A1 l1.length c1] (by rfl) rfl rfl (by (try simp only [List.map_toArray, List.map_cons, List.map_nil]); rfl) ?_
  with_reducible refine (impl_WalkOk.calls k a0_0 _ _ l0_1 _ _ l1 false _ ?side1 ?side2 ?side3 ?side4 A7.out).mono ?_
  (case side1 => repeat (exact (Kd.C_below HR0_1.out HB.out)))
  (case side2 => exact HC0_1.out)
  (case side3 => repeat (exact (Kd.C_below HR1.out HB.out)))
  (case side4 => exact HC1.out)
  rintro e w26 ⟨rfl, hb⟩
  refine ⟨_, rfl, ?_⟩
  replace BK1365 := Aside0.mk (blk_below (bk BK1365) hb)
  replace HB := Aside0.mk (below_step (bl1 HB GE1365) hb)
  (try clear hb)
  (try clear hb2)
  (try clear hk)
  (try clear hi)
  refine hK.out _ _ ⟨(blk_cell BK1365.out 0).trans rfl, (blk_cell BK1365.out 1).trans rfl⟩ (fun hHeld => ?_)
  clear hK K
  refine norm_ (a' := ?_) ?_ ?_
  rotate_left
  ·show Act.put _ (some 17) _ = _
   simp only [SX]
   rfl
  refine pu 3 18 ?_ (ms 31 15) rfl rfl HT_ (by kernel_rfl) (fun _ _ _ h => h) (by rfl) ?_ ?_ ?_ ?_
  rotate_left
  ·intro w'
   go_simp
   with_reducible rfl
  rotate_left
  ·simp only [SX]
   rfl
  refine pure_ (i := 4) (N := some 19) (v := undef) (a' := ?_) (ms 31 31) rfl rfl (any_of HT_.out (by kernel_rfl)) (fun _ _ _ h => h) (Or.inr ⟨by rfl, rfl⟩) ?_ ?_
  rotate_left
  ·simp only [SX]
   rfl
  refine pure_ (i := 5) (N := some 20) (v := undef) (a' := ?_) (ms 31 63) rfl rfl (any_of HT_.out (by kernel_rfl)) (fun _ _ _ h => h) (Or.inr ⟨by rfl, rfl⟩) ?_ ?_
  rotate_left
  ·simp only [SX]
   rfl
  refine pure_ (i := 6) (N := some 21) (v := undef) (a' := ?_) (ms 31 127) rfl rfl (any_of HT_.out (by kernel_rfl)) (fun _ _ _ h => h) (Or.inr ⟨by rfl, rfl⟩) ?_ ?_
  rotate_left
  ·simp only [SX]
   rfl
  refine pure_ (i := 7) (N := some 22) (v := undef) (a' := ?_) (ms 31 255) rfl rfl (any_of HT_.out (by kernel_rfl)) (fun _ _ _ h => h) (Or.inr ⟨by rfl, rfl⟩) ?_ ?_
  rotate_left
  ·simp only [SX]
   rfl
  refine pure_ (i := 8) (N := some 23) (v := undef) (a' := ?_) (ms 31 511) rfl rfl (any_of HT_.out (by kernel_rfl)) (fun _ _ _ h => h) (Or.inr ⟨by rfl, rfl⟩) ?_ ?_
  rotate_left
  ·simp only [SX]
   rfl
  refine pure_ (i := 9) (N := some 24) (v := undef) (a' := ?_) (ms 31 1023) rfl rfl (any_of HT_.out (by kernel_rfl)) (fun _ _ _ h => h) (Or.inr ⟨by rfl, rfl⟩) ?_ ?_
  rotate_left
  ·simp only [SX]
   rfl
  refine pure_ (i := 10) (N := some 25) (v := undef) (a' := ?_) (ms 31 2047) rfl rfl (any_of HT_.out (by kernel_rfl)) (fun _ _ _ h => h) (Or.inr ⟨by rfl, rfl⟩) ?_ ?_
  rotate_left
  ·simp only [SX]
   rfl
  refine pure_ (i := 11) (N := some 26) (v := undef) (a' := ?_) (ms 31 4095) rfl rfl (any_of HT_.out (by kernel_rfl)) (fun _ _ _ h => h) (Or.inr ⟨by rfl, rfl⟩) ?_ ?_
  rotate_left
  ·simp only [SX]
   rfl
  refine pure_ (i := 12) (N := some 27) (v := undef) (a' := ?_) (ms 31 8191) rfl rfl (any_of HT_.out (by kernel_rfl)) (fun _ _ _ h => h) (Or.inr ⟨by rfl, rfl⟩) ?_ ?_
  rotate_left
  ·simp only [SX]
   rfl
  refine pure_ (i := 13) (N := some 28) (v := undef) (a' := ?_) (ms 31 16383) rfl rfl (any_of HT_.out (by kernel_rfl)) (fun _ _ _ h => h) (Or.inr ⟨by rfl, rfl⟩) ?_ ?_
  rotate_left
  ·simp only [SX]
   rfl
  refine pu 14 29 ?_ (ms 31 32767) rfl rfl HT_ (by kernel_rfl) (fun _ _ _ h => h) (by rfl) ?_ ?_ ?_ ?_
  rotate_left
  ·intro w'
   go_simp
   with_reducible rfl
  rotate_left
  ·simp only [SX]
   rfl
  refine pu 15 30 ?_ (ms 31 65535) rfl rfl HT_ (by kernel_rfl) (fun _ _ _ h => h) (by rfl) ?_ ?_ ?_ ?_
  rotate_left
  ·intro w'
   go_simp
   with_reducible rfl
  rotate_left
  ·simp only [SX]
   rfl
  refine pure_ (i := 16) (N := some 31) (v := undef) (a' := ?_) (ms 31 131071) rfl rfl (any_of HT_.out (by kernel_rfl)) (fun _ _ _ h => h) (Or.inr ⟨by rfl, rfl⟩) ?_ ?_
  rotate_left
  ·simp only [SX]
   rfl
  refine pure_ (i := 17) (N := some 32) (v := undef) (a' := ?_) (ms 31 262143) rfl rfl (any_of HT_.out (by kernel_rfl)) (fun _ _ _ h => h) (Or.inr ⟨by rfl, rfl⟩) ?_ ?_
  rotate_left
  ·simp only [SX]
   rfl
  refine pure_ (i := 18) (N := some 33) (v := undef) (a' := ?_) (ms 31 524287) rfl rfl (any_of HT_.out (by kernel_rfl)) (fun _ _ _ h => h) (Or.inr ⟨by rfl, rfl⟩) ?_ ?_
  rotate_left
  ·simp only [SX]
   rfl
  refine pure_ (i := 19) (N := some 34) (v := undef) (a' := ?_) (ms 31 1048575) rfl rfl (any_of HT_.out (by kernel_rfl)) (fun _ _ _ h => h) (Or.inr ⟨by rfl, rfl⟩) ?_ ?_
  rotate_left
  ·simp only [SX]
   rfl
  refine pure_ (i := 20) (N := some 35) (v := undef) (a' := ?_) (ms 31 2097151) rfl rfl (any_of HT_.out (by kernel_rfl)) (fun _ _ _ h => h) (Or.inr ⟨by rfl, rfl⟩) ?_ ?_
  rotate_left
  ·simp only [SX]
   rfl
  refine pure_ (i := 21) (N := some 36) (v := undef) (a' := ?_) (ms 31 4194303) rfl rfl (any_of HT_.out (by kernel_rfl)) (fun _ _ _ h => h) (Or.inr ⟨by rfl, rfl⟩) ?_ ?_
  rotate_left
  ·simp only [SX]
   rfl
  refine pure_ (i := 22) (N := some 37) (v := undef) (a' := ?_) (ms 31 8388607) rfl rfl (any_of HT_.out (by kernel_rfl)) (fun _ _ _ h => h) (Or.inr ⟨by rfl, rfl⟩) ?_ ?_
  rotate_left
  ·simp only [SX]
   rfl
  refine pure_ (i := 23) (N := some 38) (v := undef) (a' := ?_) (ms 31 16777215) rfl rfl (any_of HT_.out (by kernel_rfl)) (fun _ _ _ h => h) (Or.inr ⟨by rfl, rfl⟩) ?_ ?_
  rotate_left
  ·simp only [SX]
   rfl
  refine pure_ (i := 24) (N := some 39) (v := undef) (a' := ?_) (ms 31 33554431) rfl rfl (any_of HT_.out (by kernel_rfl)) (fun _ _ _ h => h) (Or.inr ⟨by rfl, rfl⟩) ?_ ?_
  rotate_left
  ·simp only [SX]
   rfl
  refine pure_ (i := 25) (N := some 40) (v := undef) (a' := ?_) (ms 31 67108863) rfl rfl (any_of HT_.out (by kernel_rfl)) (fun _ _ _ h => h) (Or.inr ⟨by rfl, rfl⟩) ?_ ?_
  rotate_left
  ·simp only [SX]
   rfl
  refine pure_ (i := 26) (N := some 41) (v := undef) (a' := ?_) (ms 31 134217727) rfl rfl (any_of HT_.out (by kernel_rfl)) (fun _ _ _ h => h) (Or.inr ⟨by rfl, rfl⟩) ?_ ?_
  rotate_left
  ·simp only [SX]
   rfl
  refine pure_ (i := 27) (N := some 42) (v := undef) (a' := ?_) (ms 31 268435455) rfl rfl (any_of HT_.out (by kernel_rfl)) (fun _ _ _ h => h) (Or.inr ⟨by rfl, rfl⟩) ?_ ?_
  rotate_left
  ·simp only [SX]
   rfl
  refine pure_ (i := 28) (N := some 43) (v := undef) (a' := ?_) (ms 31 536870911) rfl rfl (any_of HT_.out (by kernel_rfl)) (fun _ _ _ h => h) (Or.inr ⟨by rfl, rfl⟩) ?_ ?_
  rotate_left
  ·simp only [SX]
   rfl
  refine pu 29 44 ?_ (ms 31 1073741823) rfl rfl HT_ (by kernel_rfl) (fun _ _ _ h => h) (by rfl) ?_ ?_ ?_ ?_
  rotate_left
  ·intro w'
   go_simp
   with_reducible rfl
  rotate_left
  ·simp only [SX]
   rfl
  refine pu 30 8 ?_ (ms 31 2147483647) rfl rfl HT_ (by kernel_rfl) (fun _ _ _ h => h) (by rfl) ?_ ?_ ?_ ?_
  rotate_left
  ·intro w'
   go_simp
   with_reducible rfl
  rotate_left
  ·simp only [SX]
   rfl
  refine done_ (done_of HT_.out (by kernel_rfl)) ?_
  try go_wp2
  go_ret
  exact ⟨by rfl, bl1 HB GE1365⟩
 subst c8
 rw [if_pos rfl] at H
 by_cases c9 : 0 < (l1.length : Int)
 rotate_left
 ·rw [if_neg c9] at H
  exact absurd H (by simp)
 rw [if_pos c9] at H
 have c9b0 : decide (0 < (l1.length : Int)) = true := decide_eq_true c9
 have c9b1 : decide (0 < l1.length) = true := decide_eq_true (by omega)
 clear c9
 by_cases c10 : 0 ≤ (rd l1 0)
 rotate_left
 ·rw [if_neg c10] at H
  exact absurd H (by simp)
 rw [if_pos c10] at H
 have c10b0 : decide (0 ≤ (rd l1 0)) = true := decide_eq_true c10
 clear c10
 by_cases c11 : (rd l1 0) < (l0_1.length : Int)
 rotate_left
 ·rw [if_neg c11] at H
  exact absurd H (by simp)
 rw [if_pos c11] at H
 have c11b0 : decide ((rd l1 0) < (l0_1.length : Int)) = true := decide_eq_true c11
 clear c11
 by_cases c12 : ((rd_T41 l0_1 (rd l1 0)).f0) = a2
 rotate_left
 ·rw [if_neg c12] at H
  have c12b0 : (((rd_T41 l0_1 (rd l1 0)).f0) == a2) = false := beq_eq_false_iff_ne.mpr c12
  have c12b1 : (((rd_T41 l0_1 (rd l1 0)).f0) != a2) = true := bne_iff_ne.mpr c12
  obtain rfl := Option.some.inj H
  go_enter Try.func47, Try.ntmps47
  try go_wp2_with (((with_reducible refine gate_dst (N := 4) rfl ?_); refine box_event ?hg (N := 4) ?hd (cs := #[.int .i64 a0_0, .slice A0_1 l0_1.length c0_1]) (t := 25) ?hr ?_; (case hd => rfl); (case hg => rfl); (case hr => (go_simp; done)); intro gb1365 hg w21 hbox hb; have BK1365 := Aside0.mk (hbox); have GW1365 := Aside0.mk ((by rw [hg]; exact (below_size (bl HB)) : w.heap.size ≤ gb1365)); have GE1365 := Aside0.mk ((by rw [hg]; exact (below_size (bl HB)) : w.heap.size ≤ gb1365)); replace HB := Aside0.mk (below_step (bl HB) hb); clear hb hbox hg))
  replace BK1365 := Aside0.mk (blk_drew BK1365.out)
  replace HB := Aside0.mk (below_drew1 HB.out)
  have p1367 : 0 ≤ (0 : Int) := (by omega)
  have q1367 : 0 < (l1.length : Int) := oT (by (with_reducible assumption))
  obtain ⟨ad1367, e1367, hx1367_0⟩ := Kd.at_int HR1.out 0 p1367 q1367
  have hw1367_0 := hx1367_0
  (try rw [show ((0 : Int)).toNat = 0 from rfl] at hw1367_0)
  (try rw [show 0 * 1 = 0 from rfl] at hw1367_0)
  (try rw [Addr.add_zero'] at hw1367_0)
  cases e1367
  have qi1367 : (0 < l1.length) = True := eq_true (by omega)
  (try rw [show ((0 : Int)).toNat = 0 from rfl] at hx1367_0)
  (try rw [Addr.add_zero'] at hx1367_0)
  replace hx1367_0 := hcb HB.out hx1367_0
  replace p1367 := eq_true p1367
  replace q1367 := eq_true q1367
  have p1368 : 0 ≤ ((rd l1 0) : Int) := oT (by (with_reducible assumption))
  have q1368 : (rd l1 0) < (l0_1.length : Int) := oT (by (with_reducible assumption))
  obtain ⟨ad1368, e1368, hx1368_0, hx1368_1, hx1368_2, hx1368_3, hx1368_4⟩ := at_T41 HR0_1.out (rd l1 0) p1368 q1368
  have hw1368_4 := hx1368_4
  have hw1368_3 := hx1368_3
  have hw1368_2 := hx1368_2
  have hw1368_1 := hx1368_1
  have hw1368_0 := hx1368_0
  cases e1368
  replace hx1368_0 := hcb HB.out hx1368_0
  replace hx1368_1 := hcb HB.out hx1368_1
  replace hx1368_2 := hcb HB.out hx1368_2
  replace hx1368_3 := hcb HB.out hx1368_3
  replace hx1368_4 := hcb HB.out hx1368_4
  replace p1368 := eq_true p1368
  replace q1368 := eq_true q1368
  refine start_ (n := 31) (S := fun w' => w'.cell? ⟨gb1365, 0, none⟩ = some (.int .i64 a0_0) ∧ w'.cell? ⟨gb1365, 1, none⟩ = some (.slice (some ad1368) l0_1.length c0_1) ∧ w'.cell? ad1367 = some (.int .i64 (rd l1 0)) ∧ w'.cell? (ad1368.add (((rd l1 0)).toNat * 5)) = some (.int .i64 ((rd_T41 l0_1 (rd l1 0)).f0)) ∧ w'.cell? ⟨(ad1368.add (((rd l1 0)).toNat * 5)).block, (ad1368.add (((rd l1 0)).toNat * 5)).off + 1, none⟩ = some (.int .i64 ((rd_T41 l0_1 (rd l1 0)).f1)) ∧ w'.cell? ⟨(ad1368.add (((rd l1 0)).toNat * 5)).block, (ad1368.add (((rd l1 0)).toNat * 5)).off + 2, none⟩ = some (.int .i64 ((rd_T41 l0_1 (rd l1 0)).f2)) ∧ w'.cell? ⟨(ad1368.add (((rd l1 0)).toNat * 5)).block, (ad1368.add (((rd l1 0)).toNat * 5)).off + 3, none⟩ = some (.int .i64 ((rd_T41 l0_1 (rd l1 0)).f3)) ∧ w'.cell? ⟨(ad1368.add (((rd l1 0)).toNat * 5)).block, (ad1368.add (((rd l1 0)).toNat * 5)).off + 4, none⟩ = some (.int .i64 ((rd_T41 l0_1 (rd l1 0)).f4))) (ds := []) (ms 31 0) (by kernel_rfl) rfl (by kernel_rfl) ⟨(blk_cell BK1365.out 0).trans rfl, (blk_cell BK1365.out 1).trans rfl, ((HB.out.cell (World.block_lt_of_cell? w _ hw1367_0)).trans hw1367_0), ((HB.out.cell (World.block_lt_of_cell? w _ hw1368_0)).trans hw1368_0), ((HB.out.cell (World.block_lt_of_cell? w _ hw1368_1)).trans hw1368_1), ((HB.out.cell (World.block_lt_of_cell? w _ hw1368_2)).trans hw1368_2), ((HB.out.cell (World.block_lt_of_cell? w _ hw1368_3)).trans hw1368_3), ((HB.out.cell (World.block_lt_of_cell? w _ hw1368_4)).trans hw1368_4)⟩ (fun hHeld => ?_); refine with_tabW laws_wkEnds.tab3 laws_wkEnds.bits3 (fun HT_ HW_ => ?_)
  generalize w21.drew = w22 at BK1365 HB hx1367_0 hx1368_0 hx1368_1 hx1368_2 hx1368_3 hx1368_4 hHeld ⊢
  refine pu 1 16 ?_ (ms 31 2) rfl rfl HT_ (by kernel_rfl) (fun _ _ _ h => h) (by rfl) ?_ ?_ ?_ ?_
  rotate_left
  ·intro w'
   go_simp
   with_reducible rfl
  rotate_left
  ·simp only [SX]
   rfl
  refine tk 0 15 ?_ (ms 31 3) rfl rfl HT_ HW_ (by kernel_rfl) (fun _ _ _ h => h) (by rfl) ?_ hHeld ?_ ?_ ?_
  rotate_left
  ·rintro w' ⟨s0, s1, s2, s3, s4, s5, s6, s7⟩
   go_simp
   with_reducible rfl
  rotate_left
  ·simp only [SX]
   rfl
  refine one_ (i := 2) (N := some 17) (ms 31 7) rfl rfl (one_of HT_.out (by kernel_rfl)) (by decide) (fun K hK => ?_)
  refine goes_ Try.func99 (by kernel_rfl) rfl #[.agg #[.int .i64 a0_0, .slice (some ad1368) l0_1.length c0_1], .slice (some ad1367) l1.length c1] (by rfl) rfl rfl (by (try simp only [List.map_toArray, List.map_cons, List.map_nil]); rfl) ?_
  with_reducible refine (impl_WalkOk.calls k a0_0 _ _ l0_1 _ _ l1 true _ ?side1 ?side2 ?side3 ?side4 A7.out).mono ?_
  (case side1 => repeat (exact (Kd.C_below HR0_1.out HB.out)))
  (case side2 => exact HC0_1.out)
  (case side3 => repeat (exact (Kd.C_below HR1.out HB.out)))
  (case side4 => exact HC1.out)
  rintro e w23 ⟨rfl, hb⟩
  refine ⟨_, rfl, ?_⟩
  replace BK1365 := Aside0.mk (blk_below (bk BK1365) hb)
  replace HB := Aside0.mk (below_step (bl1 HB GE1365) hb)
  (try clear hb)
  (try clear hb2)
  (try clear hk)
  (try clear hi)
  refine hK.out _ _ ⟨(blk_cell BK1365.out 0).trans rfl, (blk_cell BK1365.out 1).trans rfl, ((HB.out.cell (World.block_lt_of_cell? w _ hw1367_0)).trans hw1367_0), ((HB.out.cell (World.block_lt_of_cell? w _ hw1368_0)).trans hw1368_0), ((HB.out.cell (World.block_lt_of_cell? w _ hw1368_1)).trans hw1368_1), ((HB.out.cell (World.block_lt_of_cell? w _ hw1368_2)).trans hw1368_2), ((HB.out.cell (World.block_lt_of_cell? w _ hw1368_3)).trans hw1368_3), ((HB.out.cell (World.block_lt_of_cell? w _ hw1368_4)).trans hw1368_4)⟩ (fun hHeld => ?_)
  clear hK K
  refine norm_ (a' := ?_) ?_ ?_
  rotate_left
  ·show Act.put _ (some 17) _ = _
   simp only [SX]
   rfl
  refine pu 3 18 ?_ (ms 31 15) rfl rfl HT_ (by kernel_rfl) (fun _ _ _ h => h) (by rfl) ?_ ?_ ?_ ?_
  rotate_left
  ·intro w'
   go_simp
   with_reducible rfl
  rotate_left
  ·simp only [SX]
   rfl
  refine pu 4 19 ?_ (ms 31 31) rfl rfl HT_ (by kernel_rfl) (fun _ _ _ h => h) (by rfl) ?_ ?_ ?_ ?_
  rotate_left
  ·intro w'
   go_simp
   with_reducible rfl
  rotate_left
  ·simp only [SX]
   rfl
  refine pu 6 21 ?_ (ms 31 95) rfl rfl HT_ (by kernel_rfl) (fun _ _ _ h => h) (by rfl) ?_ ?_ ?_ ?_
  rotate_left
  ·intro w'
   go_simp
   with_reducible rfl
  rotate_left
  ·simp only [SX]
   rfl
  refine pu 7 22 ?_ (ms 31 223) rfl rfl HT_ (by kernel_rfl) (fun _ _ _ h => h) (by rfl) ?_ ?_ ?_ ?_
  rotate_left
  ·intro w'
   go_simp
   with_reducible rfl
  rotate_left
  ·simp only [SX]
   rfl
  refine pu 12 27 ?_ (ms 31 4319) rfl rfl HT_ (by kernel_rfl) (fun _ _ _ h => h) (by rfl) ?_ ?_ ?_ ?_
  rotate_left
  ·intro w'
   go_simp
   with_reducible rfl
  rotate_left
  ·simp only [SX]
   rfl
  refine tk 5 20 ?_ (ms 31 4351) rfl rfl HT_ HW_ (by kernel_rfl) (fun _ _ _ h => h) (by rfl) ?_ hHeld ?_ ?_ ?_
  rotate_left
  ·rintro w' ⟨s0, s1, s2, s3, s4, s5, s6, s7⟩
   go_simp
   with_reducible rfl
  rotate_left
  ·simp only [SX]
   rfl
  refine tk 8 23 ?_ (ms 31 4607) rfl rfl HT_ HW_ (by kernel_rfl) (fun _ _ _ h => h) (by rfl) ?_ hHeld ?_ ?_ ?_
  rotate_left
  ·rintro w' ⟨s0, s1, s2, s3, s4, s5, s6, s7⟩
   go_simp
   with_reducible rfl
  rotate_left
  ·simp only [SX]
   rfl
  refine pu 9 24 ?_ (ms 31 5119) rfl rfl HT_ (by kernel_rfl) (fun _ _ _ h => h) (by rfl) ?_ ?_ ?_ ?_
  rotate_left
  ·intro w'
   go_simp
   with_reducible rfl
  rotate_left
  ·simp only [SX]
   rfl
  refine pu 10 25 ?_ (ms 31 6143) rfl rfl HT_ (by kernel_rfl) (fun _ _ _ h => h) (by rfl) ?_ ?_ ?_ ?_
  rotate_left
  ·intro w'
   go_simp
   with_reducible rfl
  rotate_left
  ·simp only [SX]
   rfl
  refine tk 11 26 ?_ (ms 31 8191) rfl rfl HT_ HW_ (by kernel_rfl) (fun _ _ _ h => h) (by rfl) ?_ hHeld ?_ ?_ ?_
  rotate_left
  ·rintro w' ⟨s0, s1, s2, s3, s4, s5, s6, s7⟩
   go_simp
   with_reducible rfl
  rotate_left
  ·simp only [SX]
   rfl
  refine pu 13 28 ?_ (ms 31 16383) rfl rfl HT_ (by kernel_rfl) (fun _ _ _ h => h) (by rfl) ?_ ?_ ?_ ?_
  rotate_left
  ·intro w'
   go_simp
   with_reducible rfl
  rotate_left
  ·simp only [SX]
   rfl
  refine pu 14 29 ?_ (ms 31 32767) rfl rfl HT_ (by kernel_rfl) (fun _ _ _ h => h) (by rfl) ?_ ?_ ?_ ?_
  rotate_left
  ·intro w'
   go_simp
   with_reducible rfl
  rotate_left
  ·simp only [SX]
   rfl
  refine pu 15 30 ?_ (ms 31 65535) rfl rfl HT_ (by kernel_rfl) (fun _ _ _ h => h) (by rfl) ?_ ?_ ?_ ?_
  rotate_left
  ·intro w'
   go_simp
   with_reducible rfl
  rotate_left
  ·simp only [SX]
   rfl
  refine pure_ (i := 16) (N := some 31) (v := undef) (a' := ?_) (ms 31 131071) rfl rfl (any_of HT_.out (by kernel_rfl)) (fun _ _ _ h => h) (Or.inr ⟨by rfl, rfl⟩) ?_ ?_
  rotate_left
  ·simp only [SX]
   rfl
  refine pure_ (i := 17) (N := some 32) (v := undef) (a' := ?_) (ms 31 262143) rfl rfl (any_of HT_.out (by kernel_rfl)) (fun _ _ _ h => h) (Or.inr ⟨by rfl, rfl⟩) ?_ ?_
  rotate_left
  ·simp only [SX]
   rfl
  refine pure_ (i := 18) (N := some 33) (v := undef) (a' := ?_) (ms 31 524287) rfl rfl (any_of HT_.out (by kernel_rfl)) (fun _ _ _ h => h) (Or.inr ⟨by rfl, rfl⟩) ?_ ?_
  rotate_left
  ·simp only [SX]
   rfl
  refine pure_ (i := 19) (N := some 34) (v := undef) (a' := ?_) (ms 31 1048575) rfl rfl (any_of HT_.out (by kernel_rfl)) (fun _ _ _ h => h) (Or.inr ⟨by rfl, rfl⟩) ?_ ?_
  rotate_left
  ·simp only [SX]
   rfl
  refine pure_ (i := 20) (N := some 35) (v := undef) (a' := ?_) (ms 31 2097151) rfl rfl (any_of HT_.out (by kernel_rfl)) (fun _ _ _ h => h) (Or.inr ⟨by rfl, rfl⟩) ?_ ?_
  rotate_left
  ·simp only [SX]
   rfl
  refine pure_ (i := 21) (N := some 36) (v := undef) (a' := ?_) (ms 31 4194303) rfl rfl (any_of HT_.out (by kernel_rfl)) (fun _ _ _ h => h) (Or.inr ⟨by rfl, rfl⟩) ?_ ?_
  rotate_left
  ·simp only [SX]
   rfl
  refine pure_ (i := 22) (N := some 37) (v := undef) (a' := ?_) (ms 31 8388607) rfl rfl (any_of HT_.out (by kernel_rfl)) (fun _ _ _ h => h) (Or.inr ⟨by rfl, rfl⟩) ?_ ?_
  rotate_left
  ·simp only [SX]
   rfl
  refine pure_ (i := 23) (N := some 38) (v := undef) (a' := ?_) (ms 31 16777215) rfl rfl (any_of HT_.out (by kernel_rfl)) (fun _ _ _ h => h) (Or.inr ⟨by rfl, rfl⟩) ?_ ?_
  rotate_left
  ·simp only [SX]
   rfl
  refine pure_ (i := 24) (N := some 39) (v := undef) (a' := ?_) (ms 31 33554431) rfl rfl (any_of HT_.out (by kernel_rfl)) (fun _ _ _ h => h) (Or.inr ⟨by rfl, rfl⟩) ?_ ?_
  rotate_left
  ·simp only [SX]
   rfl
  refine pure_ (i := 25) (N := some 40) (v := undef) (a' := ?_) (ms 31 67108863) rfl rfl (any_of HT_.out (by kernel_rfl)) (fun _ _ _ h => h) (Or.inr ⟨by rfl, rfl⟩) ?_ ?_
  rotate_left
  ·simp only [SX]
   rfl
  refine pure_ (i := 26) (N := some 41) (v := undef) (a' := ?_) (ms 31 134217727) rfl rfl (any_of HT_.out (by kernel_rfl)) (fun _ _ _ h => h) (Or.inr ⟨by rfl, rfl⟩) ?_ ?_
  rotate_left
  ·simp only [SX]
   rfl
  refine pure_ (i := 27) (N := some 42) (v := undef) (a' := ?_) (ms 31 268435455) rfl rfl (any_of HT_.out (by kernel_rfl)) (fun _ _ _ h => h) (Or.inr ⟨by rfl, rfl⟩) ?_ ?_
  rotate_left
  ·simp only [SX]
   rfl
  refine pure_ (i := 28) (N := some 43) (v := undef) (a' := ?_) (ms 31 536870911) rfl rfl (any_of HT_.out (by kernel_rfl)) (fun _ _ _ h => h) (Or.inr ⟨by rfl, rfl⟩) ?_ ?_
  rotate_left
  ·simp only [SX]
   rfl
  refine pu 29 44 ?_ (ms 31 1073741823) rfl rfl HT_ (by kernel_rfl) (fun _ _ _ h => h) (by rfl) ?_ ?_ ?_ ?_
  rotate_left
  ·intro w'
   go_simp
   with_reducible rfl
  rotate_left
  ·simp only [SX]
   rfl
  refine pu 30 8 ?_ (ms 31 2147483647) rfl rfl HT_ (by kernel_rfl) (fun _ _ _ h => h) (by rfl) ?_ ?_ ?_ ?_
  rotate_left
  ·intro w'
   go_simp
   with_reducible rfl
  rotate_left
  ·simp only [SX]
   rfl
  refine done_ (done_of HT_.out (by kernel_rfl)) ?_
  try go_wp2
  go_ret
  exact ⟨by rfl, bl1 HB GE1365⟩
 rw [if_pos c12] at H
 have c12b0 : (((rd_T41 l0_1 (rd l1 0)).f0) == a2) = true := beq_iff_eq.mpr c12
 have c12b1 : (((rd_T41 l0_1 (rd l1 0)).f0) != a2) = false := bne_eq_false_iff_eq.mpr c12
 clear c12
 obtain ⟨ji13, hji13⟩ : ∃ j_ : Int, (wrap64 ((l1.length : Int) - 1)) = j_ := ⟨_, rfl⟩
 replace H : (if 0 ≤ (ji13) then (if (ji13) < (l1.length : Int) then (if 0 ≤ (rd l1 (ji13)) then (if (rd l1 (ji13)) < (l0_1.length : Int) then (some (((rd_T41 l0_1 (rd l1 (ji13))).f1) == a3)) else (none)) else (none)) else (none)) else (none)) = some r := by (rw [hji13] at H; exact H)
 (try rw [hji13] at A7)
 have hji13w : (IntKind.i64.wrap ((l1.length : Int) - 1)) = ji13 := (i64_w _).trans hji13
 by_cases c14 : 0 ≤ (ji13)
 rotate_left
 ·rw [if_neg c14] at H
  exact absurd H (by simp)
 rw [if_pos c14] at H
 have c14b0 : decide (0 ≤ (ji13)) = true := decide_eq_true c14
 clear c14
 by_cases c15 : (ji13) < (l1.length : Int)
 rotate_left
 ·rw [if_neg c15] at H
  exact absurd H (by simp)
 rw [if_pos c15] at H
 have c15b0 : decide ((ji13) < (l1.length : Int)) = true := decide_eq_true c15
 clear c15
 by_cases c16 : 0 ≤ (rd l1 (ji13))
 rotate_left
 ·rw [if_neg c16] at H
  exact absurd H (by simp)
 rw [if_pos c16] at H
 have c16b0 : decide (0 ≤ (rd l1 (ji13))) = true := decide_eq_true c16
 clear c16
 by_cases c17 : (rd l1 (ji13)) < (l0_1.length : Int)
 rotate_left
 ·rw [if_neg c17] at H
  exact absurd H (by simp)
 rw [if_pos c17] at H
 have c17b0 : decide ((rd l1 (ji13)) < (l0_1.length : Int)) = true := decide_eq_true c17
 clear c17
 obtain rfl := Option.some.inj H
 go_enter Try.func47, Try.ntmps47
 try go_wp2_with (((with_reducible refine gate_dst (N := 4) rfl ?_); refine box_event ?hg (N := 4) ?hd (cs := #[.int .i64 a0_0, .slice A0_1 l0_1.length c0_1]) (t := 25) ?hr ?_; (case hd => rfl); (case hg => rfl); (case hr => (go_simp; done)); intro gb1365 hg w18 hbox hb; have BK1365 := Aside0.mk (hbox); have GW1365 := Aside0.mk ((by rw [hg]; exact (below_size (bl HB)) : w.heap.size ≤ gb1365)); have GE1365 := Aside0.mk ((by rw [hg]; exact (below_size (bl HB)) : w.heap.size ≤ gb1365)); replace HB := Aside0.mk (below_step (bl HB) hb); clear hb hbox hg))
 replace BK1365 := Aside0.mk (blk_drew BK1365.out)
 replace HB := Aside0.mk (below_drew1 HB.out)
 have p1367 : 0 ≤ (0 : Int) := (by omega)
 have q1367 : 0 < (l1.length : Int) := oT (by (with_reducible assumption))
 obtain ⟨ad1367, e1367, hx1367_0⟩ := Kd.at_int HR1.out 0 p1367 q1367
 have hw1367_0 := hx1367_0
 (try rw [show ((0 : Int)).toNat = 0 from rfl] at hw1367_0)
 (try rw [show 0 * 1 = 0 from rfl] at hw1367_0)
 (try rw [Addr.add_zero'] at hw1367_0)
 cases e1367
 have qi1367 : (0 < l1.length) = True := eq_true (by omega)
 (try rw [show ((0 : Int)).toNat = 0 from rfl] at hx1367_0)
 (try rw [Addr.add_zero'] at hx1367_0)
 replace hx1367_0 := hcb HB.out hx1367_0
 replace p1367 := eq_true p1367
 replace q1367 := eq_true q1367
 have p1368 : 0 ≤ ((rd l1 0) : Int) := oT (by (with_reducible assumption))
 have q1368 : (rd l1 0) < (l0_1.length : Int) := oT (by (with_reducible assumption))
 obtain ⟨ad1368, e1368, hx1368_0, hx1368_1, hx1368_2, hx1368_3, hx1368_4⟩ := at_T41 HR0_1.out (rd l1 0) p1368 q1368
 have hw1368_4 := hx1368_4
 have hw1368_3 := hx1368_3
 have hw1368_2 := hx1368_2
 have hw1368_1 := hx1368_1
 have hw1368_0 := hx1368_0
 cases e1368
 replace hx1368_0 := hcb HB.out hx1368_0
 replace hx1368_1 := hcb HB.out hx1368_1
 replace hx1368_2 := hcb HB.out hx1368_2
 replace hx1368_3 := hcb HB.out hx1368_3
 replace hx1368_4 := hcb HB.out hx1368_4
 replace p1368 := eq_true p1368
 replace q1368 := eq_true q1368
 have p1369 : 0 ≤ ((ji13) : Int) := oT (by (with_reducible assumption))
 have q1369 : (ji13) < (l1.length : Int) := oT (by (with_reducible assumption))
 obtain ⟨ad1369, e1369, hx1369_0⟩ := Kd.at_int HR1.out (ji13) p1369 q1369
 have hw1369_0 := hx1369_0
 obtain rfl : ad1367 = ad1369 := (by injection e1369)
 replace hx1369_0 := hcb HB.out hx1369_0
 replace p1369 := eq_true p1369
 replace q1369 := eq_true q1369
 have p1370 : 0 ≤ ((rd l1 (ji13)) : Int) := oT (by (with_reducible assumption))
 have q1370 : (rd l1 (ji13)) < (l0_1.length : Int) := oT (by (with_reducible assumption))
 obtain ⟨ad1370, e1370, hx1370_0, hx1370_1, hx1370_2, hx1370_3, hx1370_4⟩ := at_T41 HR0_1.out (rd l1 (ji13)) p1370 q1370
 have hw1370_4 := hx1370_4
 have hw1370_3 := hx1370_3
 have hw1370_2 := hx1370_2
 have hw1370_1 := hx1370_1
 have hw1370_0 := hx1370_0
 obtain rfl : ad1368 = ad1370 := (by injection e1370)
 replace hx1370_0 := hcb HB.out hx1370_0
 replace hx1370_1 := hcb HB.out hx1370_1
 replace hx1370_2 := hcb HB.out hx1370_2
 replace hx1370_3 := hcb HB.out hx1370_3
 replace hx1370_4 := hcb HB.out hx1370_4
 replace p1370 := eq_true p1370
 replace q1370 := eq_true q1370
 refine start_ (n := 31) (S := fun w' => w'.cell? ⟨gb1365, 0, none⟩ = some (.int .i64 a0_0) ∧ w'.cell? ⟨gb1365, 1, none⟩ = some (.slice (some ad1368) l0_1.length c0_1) ∧ w'.cell? ad1367 = some (.int .i64 (rd l1 0)) ∧ w'.cell? (ad1368.add (((rd l1 0)).toNat * 5)) = some (.int .i64 ((rd_T41 l0_1 (rd l1 0)).f0)) ∧ w'.cell? ⟨(ad1368.add (((rd l1 0)).toNat * 5)).block, (ad1368.add (((rd l1 0)).toNat * 5)).off + 1, none⟩ = some (.int .i64 ((rd_T41 l0_1 (rd l1 0)).f1)) ∧ w'.cell? ⟨(ad1368.add (((rd l1 0)).toNat * 5)).block, (ad1368.add (((rd l1 0)).toNat * 5)).off + 2, none⟩ = some (.int .i64 ((rd_T41 l0_1 (rd l1 0)).f2)) ∧ w'.cell? ⟨(ad1368.add (((rd l1 0)).toNat * 5)).block, (ad1368.add (((rd l1 0)).toNat * 5)).off + 3, none⟩ = some (.int .i64 ((rd_T41 l0_1 (rd l1 0)).f3)) ∧ w'.cell? ⟨(ad1368.add (((rd l1 0)).toNat * 5)).block, (ad1368.add (((rd l1 0)).toNat * 5)).off + 4, none⟩ = some (.int .i64 ((rd_T41 l0_1 (rd l1 0)).f4)) ∧ w'.cell? (ad1367.add ((ji13)).toNat) = some (.int .i64 (rd l1 (ji13))) ∧ w'.cell? (ad1368.add (((rd l1 (ji13))).toNat * 5)) = some (.int .i64 ((rd_T41 l0_1 (rd l1 (ji13))).f0)) ∧ w'.cell? ⟨(ad1368.add (((rd l1 (ji13))).toNat * 5)).block, (ad1368.add (((rd l1 (ji13))).toNat * 5)).off + 1, none⟩ = some (.int .i64 ((rd_T41 l0_1 (rd l1 (ji13))).f1)) ∧ w'.cell? ⟨(ad1368.add (((rd l1 (ji13))).toNat * 5)).block, (ad1368.add (((rd l1 (ji13))).toNat * 5)).off + 2, none⟩ = some (.int .i64 ((rd_T41 l0_1 (rd l1 (ji13))).f2)) ∧ w'.cell? ⟨(ad1368.add (((rd l1 (ji13))).toNat * 5)).block, (ad1368.add (((rd l1 (ji13))).toNat * 5)).off + 3, none⟩ = some (.int .i64 ((rd_T41 l0_1 (rd l1 (ji13))).f3)) ∧ w'.cell? ⟨(ad1368.add (((rd l1 (ji13))).toNat * 5)).block, (ad1368.add (((rd l1 (ji13))).toNat * 5)).off + 4, none⟩ = some (.int .i64 ((rd_T41 l0_1 (rd l1 (ji13))).f4))) (ds := []) (ms 31 0) (by kernel_rfl) rfl (by kernel_rfl) ⟨(blk_cell BK1365.out 0).trans rfl, (blk_cell BK1365.out 1).trans rfl, ((HB.out.cell (World.block_lt_of_cell? w _ hw1367_0)).trans hw1367_0), ((HB.out.cell (World.block_lt_of_cell? w _ hw1368_0)).trans hw1368_0), ((HB.out.cell (World.block_lt_of_cell? w _ hw1368_1)).trans hw1368_1), ((HB.out.cell (World.block_lt_of_cell? w _ hw1368_2)).trans hw1368_2), ((HB.out.cell (World.block_lt_of_cell? w _ hw1368_3)).trans hw1368_3), ((HB.out.cell (World.block_lt_of_cell? w _ hw1368_4)).trans hw1368_4), ((HB.out.cell (World.block_lt_of_cell? w _ hw1369_0)).trans hw1369_0), ((HB.out.cell (World.block_lt_of_cell? w _ hw1370_0)).trans hw1370_0), ((HB.out.cell (World.block_lt_of_cell? w _ hw1370_1)).trans hw1370_1), ((HB.out.cell (World.block_lt_of_cell? w _ hw1370_2)).trans hw1370_2), ((HB.out.cell (World.block_lt_of_cell? w _ hw1370_3)).trans hw1370_3), ((HB.out.cell (World.block_lt_of_cell? w _ hw1370_4)).trans hw1370_4)⟩ (fun hHeld => ?_); refine with_tabW laws_wkEnds.tab3 laws_wkEnds.bits3 (fun HT_ HW_ => ?_)
 generalize w18.drew = w19 at BK1365 HB hx1367_0 hx1368_0 hx1368_1 hx1368_2 hx1368_3 hx1368_4 hx1369_0 hx1370_0 hx1370_1 hx1370_2 hx1370_3 hx1370_4 hHeld ⊢
 refine pu 1 16 ?_ (ms 31 2) rfl rfl HT_ (by kernel_rfl) (fun _ _ _ h => h) (by rfl) ?_ ?_ ?_ ?_
 rotate_left
 ·intro w'
  go_simp
  with_reducible rfl
 rotate_left
 ·simp only [SX]
  rfl
 refine tk 0 15 ?_ (ms 31 3) rfl rfl HT_ HW_ (by kernel_rfl) (fun _ _ _ h => h) (by rfl) ?_ hHeld ?_ ?_ ?_
 rotate_left
 ·rintro w' ⟨s0, s1, s2, s3, s4, s5, s6, s7, s8, s9, s10, s11, s12, s13⟩
  go_simp
  with_reducible rfl
 rotate_left
 ·simp only [SX]
  rfl
 refine one_ (i := 2) (N := some 17) (ms 31 7) rfl rfl (one_of HT_.out (by kernel_rfl)) (by decide) (fun K hK => ?_)
 refine goes_ Try.func99 (by kernel_rfl) rfl #[.agg #[.int .i64 a0_0, .slice (some ad1368) l0_1.length c0_1], .slice (some ad1367) l1.length c1] (by rfl) rfl rfl (by (try simp only [List.map_toArray, List.map_cons, List.map_nil]); rfl) ?_
 with_reducible refine (impl_WalkOk.calls k a0_0 _ _ l0_1 _ _ l1 true _ ?side1 ?side2 ?side3 ?side4 A7.out).mono ?_
 (case side1 => repeat (exact (Kd.C_below HR0_1.out HB.out)))
 (case side2 => exact HC0_1.out)
 (case side3 => repeat (exact (Kd.C_below HR1.out HB.out)))
 (case side4 => exact HC1.out)
 rintro e w20 ⟨rfl, hb⟩
 refine ⟨_, rfl, ?_⟩
 replace BK1365 := Aside0.mk (blk_below (bk BK1365) hb)
 replace HB := Aside0.mk (below_step (bl1 HB GE1365) hb)
 (try clear hb)
 (try clear hb2)
 (try clear hk)
 (try clear hi)
 refine hK.out _ _ ⟨(blk_cell BK1365.out 0).trans rfl, (blk_cell BK1365.out 1).trans rfl, ((HB.out.cell (World.block_lt_of_cell? w _ hw1367_0)).trans hw1367_0), ((HB.out.cell (World.block_lt_of_cell? w _ hw1368_0)).trans hw1368_0), ((HB.out.cell (World.block_lt_of_cell? w _ hw1368_1)).trans hw1368_1), ((HB.out.cell (World.block_lt_of_cell? w _ hw1368_2)).trans hw1368_2), ((HB.out.cell (World.block_lt_of_cell? w _ hw1368_3)).trans hw1368_3), ((HB.out.cell (World.block_lt_of_cell? w _ hw1368_4)).trans hw1368_4), ((HB.out.cell (World.block_lt_of_cell? w _ hw1369_0)).trans hw1369_0), ((HB.out.cell (World.block_lt_of_cell? w _ hw1370_0)).trans hw1370_0), ((HB.out.cell (World.block_lt_of_cell? w _ hw1370_1)).trans hw1370_1), ((HB.out.cell (World.block_lt_of_cell? w _ hw1370_2)).trans hw1370_2), ((HB.out.cell (World.block_lt_of_cell? w _ hw1370_3)).trans hw1370_3), ((HB.out.cell (World.block_lt_of_cell? w _ hw1370_4)).trans hw1370_4)⟩ (fun hHeld => ?_)
 clear hK K
 refine norm_ (a' := ?_) ?_ ?_
 rotate_left
 ·show Act.put _ (some 17) _ = _
  simp only [SX]
  rfl
 refine pu 3 18 ?_ (ms 31 15) rfl rfl HT_ (by kernel_rfl) (fun _ _ _ h => h) (by rfl) ?_ ?_ ?_ ?_
 rotate_left
 ·intro w'
  go_simp
  with_reducible rfl
 rotate_left
 ·simp only [SX]
  rfl
 refine pu 4 19 ?_ (ms 31 31) rfl rfl HT_ (by kernel_rfl) (fun _ _ _ h => h) (by rfl) ?_ ?_ ?_ ?_
 rotate_left
 ·intro w'
  go_simp
  with_reducible rfl
 rotate_left
 ·simp only [SX]
  rfl
 refine pu 6 21 ?_ (ms 31 95) rfl rfl HT_ (by kernel_rfl) (fun _ _ _ h => h) (by rfl) ?_ ?_ ?_ ?_
 rotate_left
 ·intro w'
  go_simp
  with_reducible rfl
 rotate_left
 ·simp only [SX]
  rfl
 refine pu 7 22 ?_ (ms 31 223) rfl rfl HT_ (by kernel_rfl) (fun _ _ _ h => h) (by rfl) ?_ ?_ ?_ ?_
 rotate_left
 ·intro w'
  go_simp
  with_reducible rfl
 rotate_left
 ·simp only [SX]
  rfl
 refine pu 12 27 ?_ (ms 31 4319) rfl rfl HT_ (by kernel_rfl) (fun _ _ _ h => h) (by rfl) ?_ ?_ ?_ ?_
 rotate_left
 ·intro w'
  go_simp
  with_reducible rfl
 rotate_left
 ·simp only [SX]
  rfl
 refine tk 5 20 ?_ (ms 31 4351) rfl rfl HT_ HW_ (by kernel_rfl) (fun _ _ _ h => h) (by rfl) ?_ hHeld ?_ ?_ ?_
 rotate_left
 ·rintro w' ⟨s0, s1, s2, s3, s4, s5, s6, s7, s8, s9, s10, s11, s12, s13⟩
  go_simp
  with_reducible rfl
 rotate_left
 ·simp only [SX]
  rfl
 refine tk 8 23 ?_ (ms 31 4607) rfl rfl HT_ HW_ (by kernel_rfl) (fun _ _ _ h => h) (by rfl) ?_ hHeld ?_ ?_ ?_
 rotate_left
 ·rintro w' ⟨s0, s1, s2, s3, s4, s5, s6, s7, s8, s9, s10, s11, s12, s13⟩
  go_simp
  with_reducible rfl
 rotate_left
 ·simp only [SX]
  rfl
 refine pu 9 24 ?_ (ms 31 5119) rfl rfl HT_ (by kernel_rfl) (fun _ _ _ h => h) (by rfl) ?_ ?_ ?_ ?_
 rotate_left
 ·intro w'
  go_simp
  with_reducible rfl
 rotate_left
 ·simp only [SX]
  rfl
 refine pu 10 25 ?_ (ms 31 6143) rfl rfl HT_ (by kernel_rfl) (fun _ _ _ h => h) (by rfl) ?_ ?_ ?_ ?_
 rotate_left
 ·intro w'
  go_simp
  with_reducible rfl
 rotate_left
 ·simp only [SX]
  rfl
 refine tk 11 26 ?_ (ms 31 8191) rfl rfl HT_ HW_ (by kernel_rfl) (fun _ _ _ h => h) (by rfl) ?_ hHeld ?_ ?_ ?_
 rotate_left
 ·rintro w' ⟨s0, s1, s2, s3, s4, s5, s6, s7, s8, s9, s10, s11, s12, s13⟩
  go_simp
  with_reducible rfl
 rotate_left
 ·simp only [SX]
  rfl
 refine pu 13 28 ?_ (ms 31 16383) rfl rfl HT_ (by kernel_rfl) (fun _ _ _ h => h) (by rfl) ?_ ?_ ?_ ?_
 rotate_left
 ·intro w'
  go_simp
  with_reducible rfl
 rotate_left
 ·simp only [SX]
  rfl
 refine pu 14 29 ?_ (ms 31 32767) rfl rfl HT_ (by kernel_rfl) (fun _ _ _ h => h) (by rfl) ?_ ?_ ?_ ?_
 rotate_left
 ·intro w'
  go_simp
  with_reducible rfl
 rotate_left
 ·simp only [SX]
  rfl
 refine pu 15 30 ?_ (ms 31 65535) rfl rfl HT_ (by kernel_rfl) (fun _ _ _ h => h) (by rfl) ?_ ?_ ?_ ?_
 rotate_left
 ·intro w'
  go_simp
  with_reducible rfl
 rotate_left
 ·simp only [SX]
  rfl
 refine pu 16 31 ?_ (ms 31 131071) rfl rfl HT_ (by kernel_rfl) (fun _ _ _ h => h) (by rfl) ?_ ?_ ?_ ?_
 rotate_left
 ·intro w'
  go_simp
  with_reducible rfl
 rotate_left
 ·simp only [SX]
  rfl
 refine pu 18 33 ?_ (ms 31 393215) rfl rfl HT_ (by kernel_rfl) (fun _ _ _ h => h) (by rfl) ?_ ?_ ?_ ?_
 rotate_left
 ·intro w'
  go_simp
  with_reducible rfl
 rotate_left
 ·simp only [SX]
  rfl
 refine pu 19 34 ?_ (ms 31 917503) rfl rfl HT_ (by kernel_rfl) (fun _ _ _ h => h) (by rfl) ?_ ?_ ?_ ?_
 rotate_left
 ·intro w'
  go_simp
  with_reducible rfl
 rotate_left
 ·simp only [SX]
  rfl
 refine pu 20 35 ?_ (ms 31 1966079) rfl rfl HT_ (by kernel_rfl) (fun _ _ _ h => h) (by rfl) ?_ ?_ ?_ ?_
 rotate_left
 ·intro w'
  go_simp
  with_reducible rfl
 rotate_left
 ·simp only [SX]
  rfl
 refine pu 21 36 ?_ (ms 31 4063231) rfl rfl HT_ (by kernel_rfl) (fun _ _ _ h => h) (by rfl) ?_ ?_ ?_ ?_
 rotate_left
 ·intro w'
  go_simp
  with_reducible rfl
 rotate_left
 ·simp only [SX]
  rfl
 refine pu 22 37 ?_ (ms 31 8257535) rfl rfl HT_ (by kernel_rfl) (fun _ _ _ h => h) (by rfl) ?_ ?_ ?_ ?_
 rotate_left
 ·intro w'
  go_simp
  with_reducible rfl
 rotate_left
 ·simp only [SX]
  rfl
 refine pu 27 42 ?_ (ms 31 142475263) rfl rfl HT_ (by kernel_rfl) (fun _ _ _ h => h) (by rfl) ?_ ?_ ?_ ?_
 rotate_left
 ·intro w'
  go_simp
  with_reducible rfl
 rotate_left
 ·simp only [SX]
  rfl
 refine tk 17 32 ?_ (ms 31 142606335) rfl rfl HT_ HW_ (by kernel_rfl) (fun _ _ _ h => h) (by rfl) ?_ hHeld ?_ ?_ ?_
 rotate_left
 ·rintro w' ⟨s0, s1, s2, s3, s4, s5, s6, s7, s8, s9, s10, s11, s12, s13⟩
  go_simp
  with_reducible rfl
 rotate_left
 ·simp only [SX]
  rfl
 refine tk 23 38 ?_ (ms 31 150994943) rfl rfl HT_ HW_ (by kernel_rfl) (fun _ _ _ h => h) (by rfl) ?_ hHeld ?_ ?_ ?_
 rotate_left
 ·rintro w' ⟨s0, s1, s2, s3, s4, s5, s6, s7, s8, s9, s10, s11, s12, s13⟩
  go_simp
  with_reducible rfl
 rotate_left
 ·simp only [SX]
  rfl
 refine pu 24 39 ?_ (ms 31 167772159) rfl rfl HT_ (by kernel_rfl) (fun _ _ _ h => h) (by rfl) ?_ ?_ ?_ ?_
 rotate_left
 ·intro w'
  go_simp
  with_reducible rfl
 rotate_left
 ·simp only [SX]
  rfl
 refine pu 25 40 ?_ (ms 31 201326591) rfl rfl HT_ (by kernel_rfl) (fun _ _ _ h => h) (by rfl) ?_ ?_ ?_ ?_
 rotate_left
 ·intro w'
  go_simp
  with_reducible rfl
 rotate_left
 ·simp only [SX]
  rfl
 refine tk 26 41 ?_ (ms 31 268435455) rfl rfl HT_ HW_ (by kernel_rfl) (fun _ _ _ h => h) (by rfl) ?_ hHeld ?_ ?_ ?_
 rotate_left
 ·rintro w' ⟨s0, s1, s2, s3, s4, s5, s6, s7, s8, s9, s10, s11, s12, s13⟩
  go_simp
  with_reducible rfl
 rotate_left
 ·simp only [SX]
  rfl
 refine pu 28 43 ?_ (ms 31 536870911) rfl rfl HT_ (by kernel_rfl) (fun _ _ _ h => h) (by rfl) ?_ ?_ ?_ ?_
 rotate_left
 ·intro w'
  go_simp
  with_reducible rfl
 rotate_left
 ·simp only [SX]
  rfl
 refine pu 29 44 ?_ (ms 31 1073741823) rfl rfl HT_ (by kernel_rfl) (fun _ _ _ h => h) (by rfl) ?_ ?_ ?_ ?_
 rotate_left
 ·intro w'
  go_simp
  with_reducible rfl
 rotate_left
 ·simp only [SX]
  rfl
 refine pu 30 8 ?_ (ms 31 2147483647) rfl rfl HT_ (by kernel_rfl) (fun _ _ _ h => h) (by rfl) ?_ ?_ ?_ ?_
 rotate_left
 ·intro w'
  go_simp
  with_reducible rfl
 rotate_left
 ·simp only [SX]
  rfl
 refine done_ (done_of HT_.out (by kernel_rfl)) ?_
 try go_wp2
 go_ret
 exact ⟨by rfl, bl1 HB GE1365⟩

end Go.Proofs.Ytgickejeakmenaa.F
