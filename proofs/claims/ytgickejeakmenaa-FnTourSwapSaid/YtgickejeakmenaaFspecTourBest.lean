-- Printed by wip/px/px.py of this claim's repository (the kit's printer, extended there). Lean checks it.
import Derived.Test.YtgickejeakmenaaFKinds
import Derived.Test.YtgickejeakmenaaFspecl1Ok
import Derived.Test.YtgickejeakmenaaFspecl17Stops
import Derived.Test.YtgickejeakmenaaFspecl17Try
namespace Go.Proofs.Ytgickejeakmenaa.F
open Go.RowKit Go.Proofs.YtgickejeakmenaaW.PrintWords Go.Proofs.YtgickejeakmenaaW.PrintLast Go.Proofs.YtgickejeakmenaaW.PrintMore
attribute [local go_sem] max2_int min2_int max_two min_two max_three min_three max_four min_four   -- for this text's walks alone
set_option linter.unusedVariables false
set_option linter.unusedSimpArgs false

/-! ### spec_TourBest: function 43 -/
def spec_TourBest.f (k : Nat) (a0_0 : Int) (l0_1 : List (S41)) (l1 : List Int) : Option (List Int × Int) := (spec_l1Ok.f k a0_0 l0_1).bind fun t1233 => (if t1233 = true then ((spec_l17Stops.f k a0_0 l0_1 l1).bind fun t1234 => (if t1234 = true then (if 1 ≤ (l1.length : Int) then ((spec_l17Try.f k a0_0 l0_1 (l1.take 1) (l1.drop 1) ([] : List Int) 99999).bind fun bt1237 => (some (bt1237.1, bt1237.2))) else (none)) else (some (([] : List Int), (-1))))) else (some (([] : List Int), (-1))))
theorem spec_TourBest.mono : ∀ a0 a1 a2 k, LeO (spec_TourBest.f k a0 a1 a2) (spec_TourBest.f (k + 1) a0 a1 a2) := by
 intro a0 a1 a2 k
 unfold spec_TourBest.f
 repeat' first | (with_reducible exact spec_l17Stops.mono _ _ _ _) | (with_reducible exact spec_l17Try.mono _ _ _ _ _ _ _) | (with_reducible exact spec_l1Ok.mono _ _ _) | (with_reducible exact LeO.refl _) | (with_reducible refine LeO.ite ?_ ?_) | (with_reducible refine LeO.bind ?_ (fun _ => ?_))
def spec_TourBest.T3 : Bool × List (List Nat × List Nat) := (true, [([], []), ([], []), ([1], [1]), ([], []), ([3], [3]), ([0, 2, 4], [0, 2, 4]), ([5], [5]), ([5], [5]), ([6, 5, 0, 1, 2, 3, 4, 5, 6, 7], [6]), ([7, 8, 0, 1, 2, 3, 4, 5, 6, 7, 8], [7])])
def spec_TourBest.B3 : List Nat := [0, 0, 2, 0, 8, 31, 63, 63, 255, 511]
theorem spec_TourBest.tab3 : rtab .any (opsOf Try.f43 3) = spec_TourBest.T3 := by kernel_rfl
theorem spec_TourBest.bits3 : waitsOk spec_TourBest.T3.2 spec_TourBest.B3 = true := by kernel_rfl
set_option maxHeartbeats 8000000 in
set_option maxRecDepth 100000 in
theorem spec_TourBest.calls (k : Nat) (a0_0 : Int) (A0_1 : Option Addr) (c0_1 : Nat) (l0_1 : List (S41)) (A1 : Option Addr) (c1 : Nat) (l1 : List Int) (r1 : List Int) (r2 : Int) (w : World) (hr0_1 : Kd.C k41 w A0_1 l0_1.length l0_1) (hc0_1 : l0_1.length ≤ c0_1) (hr1 : Kd.C (Kd.int .i64) w A1 l1.length l1) (hc1 : l1.length ≤ c1) (h : spec_TourBest.f k a0_0 l0_1 l1 = some (r1, r2)) :
  Calls Try.prog 43 #[.agg #[.int .i64 a0_0, .slice A0_1 l0_1.length c0_1], .slice A1 l1.length c1] w fun e w' => ∃ v0_ : Value, e = .returned (.tuple #[v0_, .int .i64 r2]) ∧ Kd.V (Kd.int .i64) 3 w' w.heap.size (fun k_ => (w.heap.size ≤ k_)) v0_ r1 ∧ Below w.heap.size w w' := by
 have hu25 := Try.underlying25
 have HR0_1 := ak hr0_1
 have HC0_1 := ak hc0_1
 clear hr0_1 hc0_1
 have HR1 := ak hr1
 have HC1 := ak hc1
 clear hr1 hc1
 have HB := ak (Below.refl w.heap.size w)
 have H : ((spec_l1Ok.f k a0_0 l0_1).bind fun t1233 => (if t1233 = true then ((spec_l17Stops.f k a0_0 l0_1 l1).bind fun t1234 => (if t1234 = true then (if 1 ≤ (l1.length : Int) then ((spec_l17Try.f k a0_0 l0_1 (l1.take 1) (l1.drop 1) ([] : List Int) 99999).bind fun bt1237 => (some (bt1237.1, bt1237.2))) else (none)) else (some (([] : List Int), (-1))))) else (some (([] : List Int), (-1))))) = some (r1, r2) := h
 clear h
 replace H := Option.bind_eq_some_iff.mp H
 obtain ⟨t1233, A30, H⟩ := H
 have A3 := ak A30
 clear A30
 by_cases c4 : t1233 = true
 rotate_left
 ·replace c4 := Bool.eq_false_iff.mpr c4
  subst c4
  rw [if_neg (show ¬ (false = true) by decide)] at H
  simp only [Option.some.injEq, Prod.mk.injEq] at H
  obtain ⟨rfl, rfl⟩ := H
  go_enter Try.func43, Try.ntmps43
  go_wp2_with (first | ((with_reducible refine gate_dst (N := 2) rfl ?_); refine box_event ?hg (N := 2) ?hd (cs := #[.int .i64 a0_0, .slice A0_1 l0_1.length c0_1]) (t := 25) ?hr ?_; (case hd => rfl); (case hg => rfl); (case hr => (go_simp; done)); intro gb1232 hg w24 hbox hb; have BK1232 := ak (hbox); have GW1232 := ak ((by rw [hg]; exact (below_size (bl HB)) : w.heap.size ≤ gb1232)); have GE1232 := ak ((by rw [hg]; exact (below_size (bl HB)) : w.heap.size ≤ gb1232)); replace HB := ak (below_step (bl HB) hb); clear hb hbox hg; have hcz25_0 := bc w24 BK1232 0 (.int .i64 a0_0) rfl; have hcz25_1 := bc w24 BK1232 1 (.slice A0_1 l0_1.length c0_1) rfl; have hfz25_0 := fz BK1232 0; have hfz25_1 := fz BK1232 1) | ((with_reducible refine gate_callee (f := 55) rfl ?_); refine goesL_ (some 7) rfl rfl Try.func55 (by kernel_rfl) rfl #[.agg #[.int .i64 a0_0, .slice A0_1 l0_1.length c0_1]] rfl (by (try simp only [List.map_toArray, List.map_cons, List.map_nil]); rfl) ?_; (with_reducible refine (spec_l1Ok.calls k a0_0 _ _ l0_1 false _ ?side1 ?side2 A3.out).mono ?_); (case side1 => repeat (exact (Kd.C_below HR0_1.out HB.out))); (case side2 => exact HC0_1.out); rintro e w26 ⟨rfl, hb⟩; refine ⟨_, rfl, ?_⟩; replace BK1232 := ak (blk_below (bk BK1232) hb); replace HB := ak (below_step (bl1 HB GE1232) hb); (try clear hb); (try clear hb2); (try clear hk); (try clear hi)))
  go_ret2
  exact ⟨_, by rfl, Kd.R_V (base := w.heap.size) (by exact Kd.R_nil _ _ _ _ _), bl1 HB GE1232⟩
 subst c4
 rw [if_pos rfl] at H
 replace H := Option.bind_eq_some_iff.mp H
 obtain ⟨t1234, A50, H⟩ := H
 have A5 := ak A50
 clear A50
 by_cases c6 : t1234 = true
 rotate_left
 ·replace c6 := Bool.eq_false_iff.mpr c6
  subst c6
  rw [if_neg (show ¬ (false = true) by decide)] at H
  simp only [Option.some.injEq, Prod.mk.injEq] at H
  obtain ⟨rfl, rfl⟩ := H
  go_enter Try.func43, Try.ntmps43
  go_wp2_with (first | ((with_reducible refine gate_dst (N := 2) rfl ?_); refine box_event ?hg (N := 2) ?hd (cs := #[.int .i64 a0_0, .slice A0_1 l0_1.length c0_1]) (t := 25) ?hr ?_; (case hd => rfl); (case hg => rfl); (case hr => (go_simp; done)); intro gb1232 hg w19 hbox hb; have BK1232 := ak (hbox); have GW1232 := ak ((by rw [hg]; exact (below_size (bl HB)) : w.heap.size ≤ gb1232)); have GE1232 := ak ((by rw [hg]; exact (below_size (bl HB)) : w.heap.size ≤ gb1232)); replace HB := ak (below_step (bl HB) hb); clear hb hbox hg; have hcz20_0 := bc w19 BK1232 0 (.int .i64 a0_0) rfl; have hcz20_1 := bc w19 BK1232 1 (.slice A0_1 l0_1.length c0_1) rfl; have hfz20_0 := fz BK1232 0; have hfz20_1 := fz BK1232 1) | ((with_reducible refine gate_callee (f := 55) rfl ?_); refine goesL_ (some 7) rfl rfl Try.func55 (by kernel_rfl) rfl #[.agg #[.int .i64 a0_0, .slice A0_1 l0_1.length c0_1]] rfl (by (try simp only [List.map_toArray, List.map_cons, List.map_nil]); rfl) ?_; (with_reducible refine (spec_l1Ok.calls k a0_0 _ _ l0_1 true _ ?side1 ?side2 A3.out).mono ?_); (case side1 => repeat (exact (Kd.C_below HR0_1.out HB.out))); (case side2 => exact HC0_1.out); rintro e w21 ⟨rfl, hb⟩; refine ⟨_, rfl, ?_⟩; replace BK1232 := ak (blk_below (bk BK1232) hb); replace HB := ak (below_step (bl1 HB GE1232) hb); (try clear hb); (try clear hb2); (try clear hk); (try clear hi); have hcz22_0 := bc w21 BK1232 0 (.int .i64 a0_0) rfl; have hcz22_1 := bc w21 BK1232 1 (.slice A0_1 l0_1.length c0_1) rfl; have hfz22_0 := fz BK1232 0; have hfz22_1 := fz BK1232 1) | (go_at_call 56; (with_reducible refine (spec_l17Stops.calls k a0_0 _ _ l0_1 _ _ l1 false _ ?side1 ?side2 ?side3 ?side4 A5.out).mono ?_); (case side1 => repeat (exact (Kd.C_below HR0_1.out HB.out))); (case side2 => exact HC0_1.out); (case side3 => repeat (exact (Kd.C_below HR1.out HB.out))); (case side4 => exact HC1.out); rintro e w23 ⟨rfl, hb⟩; have n0_ := ak (blk_below (bk BK1232) hb); have n1_ := ak (below_step (bl1 HB GE1232) hb); clear BK1232; clear HB; have BK1232 := n0_; have HB := n1_; clear n0_ n1_; (try clear hb); (try clear hb2); (try clear hk); (try clear hi)))
  go_ret2
  exact ⟨_, by rfl, Kd.R_V (base := w.heap.size) (by exact Kd.R_nil _ _ _ _ _), bl1 HB GE1232⟩
 subst c6
 rw [if_pos rfl] at H
 by_cases c7 : 1 ≤ (l1.length : Int)
 rotate_left
 ·rw [if_neg c7] at H
  exact absurd H (by simp)
 rw [if_pos c7] at H
 have c7b0 := eq_true c7
 have c7b1 : decide (1 ≤ (l1.length : Int)) = true := decide_eq_true c7
 clear c7
 have c8b0 := eq_true (oT (by (with_reducible assumption)) : 1 ≤ (l1.length : Int))
 replace H := Option.bind_eq_some_iff.mp H
 obtain ⟨⟨t1237, t1240⟩, A90, H⟩ := H
 have A9 := ak A90
 clear A90
 simp only [Option.some.injEq, Prod.mk.injEq] at H
 obtain ⟨rfl, rfl⟩ := H
 go_enter Try.func43, Try.ntmps43
 try go_wp2_with (first | ((with_reducible refine gate_dst (N := 2) rfl ?_); refine box_event ?hg (N := 2) ?hd (cs := #[.int .i64 a0_0, .slice A0_1 l0_1.length c0_1]) (t := 25) ?hr ?_; (case hd => rfl); (case hg => rfl); (case hr => (go_simp; done)); intro gb1232 hg w10 hbox hb; have BK1232 := ak (hbox); have GW1232 := ak ((by rw [hg]; exact (below_size (bl HB)) : w.heap.size ≤ gb1232)); have GE1232 := ak ((by rw [hg]; exact (below_size (bl HB)) : w.heap.size ≤ gb1232)); replace HB := ak (below_step (bl HB) hb); clear hb hbox hg; have hcz11_0 := bc w10 BK1232 0 (.int .i64 a0_0) rfl; have hcz11_1 := bc w10 BK1232 1 (.slice A0_1 l0_1.length c0_1) rfl; have hfz11_0 := fz BK1232 0; have hfz11_1 := fz BK1232 1) | ((with_reducible refine gate_callee (f := 55) rfl ?_); refine goesL_ (some 7) rfl rfl Try.func55 (by kernel_rfl) rfl #[.agg #[.int .i64 a0_0, .slice A0_1 l0_1.length c0_1]] rfl (by (try simp only [List.map_toArray, List.map_cons, List.map_nil]); rfl) ?_; (with_reducible refine (spec_l1Ok.calls k a0_0 _ _ l0_1 true _ ?side1 ?side2 A3.out).mono ?_); (case side1 => repeat (exact (Kd.C_below HR0_1.out HB.out))); (case side2 => exact HC0_1.out); rintro e w12 ⟨rfl, hb⟩; refine ⟨_, rfl, ?_⟩; replace BK1232 := ak (blk_below (bk BK1232) hb); replace HB := ak (below_step (bl1 HB GE1232) hb); (try clear hb); (try clear hb2); (try clear hk); (try clear hi); have hcz13_0 := bc w12 BK1232 0 (.int .i64 a0_0) rfl; have hcz13_1 := bc w12 BK1232 1 (.slice A0_1 l0_1.length c0_1) rfl; have hfz13_0 := fz BK1232 0; have hfz13_1 := fz BK1232 1) | (go_at_call 56; (with_reducible refine (spec_l17Stops.calls k a0_0 _ _ l0_1 _ _ l1 true _ ?side1 ?side2 ?side3 ?side4 A5.out).mono ?_); (case side1 => repeat (exact (Kd.C_below HR0_1.out HB.out))); (case side2 => exact HC0_1.out); (case side3 => repeat (exact (Kd.C_below HR1.out HB.out))); (case side4 => exact HC1.out); rintro e w14 ⟨rfl, hb⟩; have n0_ := ak (blk_below (bk BK1232) hb); have n1_ := ak (below_step (bl1 HB GE1232) hb); clear BK1232; clear HB; have BK1232 := n0_; have HB := n1_; clear n0_ n1_; (try clear hb); (try clear hb2); (try clear hk); (try clear hi)))
 replace BK1232 := ak (blk_drew BK1232.out)
 replace HB := ak (below_drew1 HB.out)
 obtain ⟨i016, hi016, _, hsz16, _⟩ := info_parts info3
 obtain ⟨hcut16, hA16, hC16⟩ := print_take_of (P := Try.prog) (Value.int .i64) 0 26 3 .i64 Try.underlying26 hi016 hsz16 A1 c1 l1 1 (by omega) (oT (by (with_reducible assumption))) HC1.out
 have HR1235 := ak (Kd.C_of_reads (h1 := fun _ => rfl) (hA16 _ (Kd.reads_of_C HR1.out)))
 have HC1235 := ak hC16
 clear hA16 hC16 hi016 hsz16
 obtain ⟨i017, hi017, _, hsz17, _⟩ := info_parts info3
 obtain ⟨A17, hcut17, hA17, hC17⟩ := print_drop_of (P := Try.prog) (Value.int .i64) 0 26 3 .i64 Try.underlying26 hi017 hsz17 A1 c1 l1 1 (by omega) (oT (by (with_reducible assumption))) HC1.out
 have HR1236 := ak (Kd.C_of_reads (h1 := fun _ => rfl) (hA17 _ (Kd.reads_of_C HR1.out)))
 have HC1236 := ak hC17
 clear hA17 hC17 hi017 hsz17
 refine start_ (n := 10) (S := fun w' => w'.cell? ⟨gb1232, 0, none⟩ = some (.int .i64 a0_0) ∧ w'.cell? ⟨gb1232, 1, none⟩ = some (.slice A0_1 l0_1.length c0_1)) (ds := []) (ms 10 0) (by kernel_rfl) rfl (by kernel_rfl) ⟨(blk_cell BK1232.out 0).trans rfl, (blk_cell BK1232.out 1).trans rfl⟩ (fun hHeld => ?_); refine with_tabW spec_TourBest.tab3 spec_TourBest.bits3 (fun HT_ HW_ => ?_)
 generalize w14.drew = w15 at BK1232 HB HR1235 HR1236 hHeld ⊢
 refine pu 1 16 ?_ (ms 10 2) rfl rfl HT_ (by kernel_rfl) (fun _ _ _ h => h) (by rfl) ?_ ?_ ?_ ?_
 rotate_left
 ·intro w'
  go_simp
  with_reducible rfl
 rotate_left
 ·simp only [SX]
  rfl
 refine pu 2 17 ?_ (ms 10 6) rfl rfl HT_ (by kernel_rfl) (fun _ _ _ h => h) (by rfl) ?_ ?_ ?_ ?_
 rotate_left
 ·intro w'
  go_simp
  with_reducible rfl
 rotate_left
 ·simp only [SX]
  rfl
 refine pu 3 18 ?_ (ms 10 14) rfl rfl HT_ (by kernel_rfl) (fun _ _ _ h => h) (by rfl) ?_ ?_ ?_ ?_
 rotate_left
 ·intro w'
  go_simp
  with_reducible rfl
 rotate_left
 ·simp only [SX]
  rfl
 refine pu 4 19 ?_ (ms 10 30) rfl rfl HT_ (by kernel_rfl) (fun _ _ _ h => h) (by rfl) ?_ ?_ ?_ ?_
 rotate_left
 ·intro w'
  go_simp
  with_reducible rfl
 rotate_left
 ·simp only [SX]
  rfl
 refine tk 0 15 ?_ (ms 10 31) rfl rfl HT_ HW_ (by kernel_rfl) (fun _ _ _ h => h) (by rfl) ?_ hHeld ?_ ?_ ?_
 rotate_left
 ·rintro w' ⟨s0, s1⟩
  go_simp
  with_reducible rfl
 rotate_left
 ·simp only [SX]
  rfl
 refine one_ (i := 5) (N := some 20) (ms 10 63) rfl rfl (one_of HT_.out (by kernel_rfl)) (by decide) (fun K hK => ?_)
 refine goes_ Try.func95 (by kernel_rfl) rfl #[.agg #[.int .i64 a0_0, .slice A0_1 l0_1.length c0_1], .slice A1 (l1.take 1).length c1, .slice A17 (l1.drop 1).length (c1 - 1), .slice none 0 0, .int .i64 99999] (by rfl) rfl rfl (by (try simp only [List.map_toArray, List.map_cons, List.map_nil]); (simp only [List.length_drop, List.length_take]; rfl)) ?_
 refine (spec_l17Try.calls k a0_0 _ _ l0_1 _ _ (l1.take 1) _ _ (l1.drop 1) (fun k_ => False) _ _ ([] : List Int) 99999 t1237 t1240 _ ?side1 ?side2 ?side3 ?side4 ?side5 ?side6 ?side7 A9.out).mono ?_
 (case side1 => repeat (exact (Kd.C_below HR0_1.out HB.out)))
 (case side2 => exact HC0_1.out)
 (case side3 => repeat (exact (Kd.C_below HR1235.out HB.out)))
 (case side4 => exact HC1235.out)
 (case side5 => repeat (exact (Kd.C_below HR1236.out HB.out)))
 (case side6 => exact HC1236.out)
 (case side7 => exact Kd.V_nil _ _ _ _ _)
 rintro e w18 ⟨v1238, rfl, ho0, hb⟩
 refine ⟨_, rfl, ?_⟩
 have HO1239 := ak (Kd.V_lower (Kd.V_mono (ok' := fun k_ => (w.heap.size ≤ k_) ∧ k_ ≠ gb1232) ho0 (fun k_ hk_ => ⟨Or.elim hk_ (fun hs_ => (hs_).elim) (fun hn_ => (Nat.le_trans (below_size (bl1 HB GE1232)) hn_)), Or.elim hk_ (fun hs_ => (hs_).elim) (fun hn_ => (Kd.freshB (bk BK1232) k_ hn_))⟩)) (below_size (bl1 HB GE1232)))
 replace BK1232 := ak (blk_below (bk BK1232) hb)
 replace HB := ak (below_step (bl1 HB GE1232) hb)
 (try clear hb)
 (try clear hb2)
 (try clear hk)
 (try clear hi)
 (try clear ho0)
 refine hK.out _ _ ⟨(blk_cell BK1232.out 0).trans rfl, (blk_cell BK1232.out 1).trans rfl⟩ (fun hHeld => ?_)
 clear hK K
 refine norm_ (a' := ?_) ?_ ?_
 rotate_left
 ·show Act.put _ (some 20) _ = _
  simp only [SX]
  rfl
 refine pu 6 21 ?_ (ms 10 127) rfl rfl HT_ (by kernel_rfl) (fun _ _ _ h => h) (by rfl) ?_ ?_ ?_ ?_
 rotate_left
 ·intro w'
  go_simp
  with_reducible rfl
 rotate_left
 ·simp only [SX]
  rfl
 refine pu 7 22 ?_ (ms 10 255) rfl rfl HT_ (by kernel_rfl) (fun _ _ _ h => h) (by rfl) ?_ ?_ ?_ ?_
 rotate_left
 ·intro w'
  go_simp
  with_reducible rfl
 rotate_left
 ·simp only [SX]
  rfl
 refine pu 8 4 ?_ (ms 10 511) rfl rfl HT_ (by kernel_rfl) (fun _ _ _ h => h) (by rfl) ?_ ?_ ?_ ?_
 rotate_left
 ·intro w'
  go_simp
  with_reducible rfl
 rotate_left
 ·simp only [SX]
  rfl
 refine pu 9 5 ?_ (ms 10 1023) rfl rfl HT_ (by kernel_rfl) (fun _ _ _ h => h) (by rfl) ?_ ?_ ?_ ?_
 rotate_left
 ·intro w'
  go_simp
  with_reducible rfl
 rotate_left
 ·simp only [SX]
  rfl
 refine done_ (done_of HT_.out (by kernel_rfl)) ?_
 try go_wp2
 go_ret2
 exact ⟨_, by rfl, by exact Kd.V_mono HO1239.out (fun _ hk => hk.1), bl1 HB GE1232⟩

end Go.Proofs.Ytgickejeakmenaa.F
