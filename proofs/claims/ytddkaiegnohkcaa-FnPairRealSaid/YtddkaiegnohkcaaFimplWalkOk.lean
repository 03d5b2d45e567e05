-- Printed by wip/px/px.py of this claim's repository (the kit's printer, extended there). Lean checks it.
import Derived.Test.YtddkaiegnohkcaaFKinds
import Derived.Test.YtddkaiegnohkcaaFimplwithin
import Derived.Test.YtddkaiegnohkcaaFimplNetOk
namespace Go.Proofs.Ytddkaiegnohkcaa.F
open Go.RowKit Go.Proofs.YtddkaiegnohkcaaW.PrintWords Go.Proofs.YtddkaiegnohkcaaW.PrintLast Go.Proofs.YtddkaiegnohkcaaW.PrintMore
attribute [local go_sem] max2_int min2_int max_two min_two max_three min_three max_four min_four   -- for this text's walks alone
set_option linter.unusedVariables false
set_option linter.unusedSimpArgs false

/-! ### impl_WalkOk: function 12 -/
mutual
def impl_WalkOk.j0 : Nat → List Int → Bool → Int → List (S33) → Option (Bool)
 | 0, _, _, _, _ => none
 | k + 1, x1, x14, x120000, x120001 => if x14 = true then (some false) else (impl_WalkOk.l0 k x1 x1 (x1.length : Int) 0 x120000 x120001)
def impl_WalkOk.l0 : Nat → List Int → List Int → Int → Int → Int → List (S33) → Option (Bool)
 | 0, _, _, _, _, _, _ => none
 | k + 1, x1, x15, x16, x17, x120000, x120001 => if x17 < x16 then (if 0 ≤ x17 then (if x17 < (x15.length : Int) then ((impl_within.f (rd x15 x17) 0 (wrap64 ((x120001.length : Int) - 1))).bind fun t122 => (if t122 = true then (if x17 > 0 then (if 0 ≤ (wrap64 (x17 - 1)) then (if (wrap64 (x17 - 1)) < (x1.length : Int) then (if 0 ≤ (rd x1 (wrap64 (x17 - 1))) then (if (rd x1 (wrap64 (x17 - 1))) < (x120001.length : Int) then (if 0 ≤ (rd x15 x17) then (if (rd x15 x17) < (x120001.length : Int) then (if ((rd_T33 x120001 (rd x1 (wrap64 (x17 - 1)))).f1) = ((rd_T33 x120001 (rd x15 x17)).f0) then (impl_WalkOk.l0 k x1 x15 x16 (wrap64 (x17 + 1)) x120000 x120001) else (some false)) else (none)) else (none)) else (none)) else (none)) else (none)) else (none)) else (impl_WalkOk.l0 k x1 x15 x16 (wrap64 (x17 + 1)) x120000 x120001)) else (some false))) else (none)) else (none)) else (some true)
end
def impl_WalkOk.f (k : Nat) (a0_0 : Int) (l0_1 : List (S33)) (l1 : List Int) : Option (Bool) := (impl_NetOk.f a0_0 l0_1).bind fun t120 => (if t120 = true then (impl_WalkOk.j0 k l1 (decide ((l1.length : Int) > 20)) a0_0 l0_1) else (impl_WalkOk.j0 k l1 true a0_0 l0_1))
theorem impl_WalkOk.mono_l : ∀ k, (∀ y0 y1 y2 y3, LeO (impl_WalkOk.j0 k y0 y1 y2 y3) (impl_WalkOk.j0 (k + 1) y0 y1 y2 y3)) ∧ (∀ y0 y1 y2 y3 y4 y5, LeO (impl_WalkOk.l0 k y0 y1 y2 y3 y4 y5) (impl_WalkOk.l0 (k + 1) y0 y1 y2 y3 y4 y5))
 | 0 => ⟨fun _ _ _ _ r h => by simp [impl_WalkOk.j0] at h, fun _ _ _ _ _ _ r h => by simp [impl_WalkOk.l0] at h⟩
 | k + 1 => by
  obtain ⟨ih0, ih1⟩ := impl_WalkOk.mono_l k
  refine ⟨?_, ?_⟩
  ·intro y0 y1 y2 y3
   unfold impl_WalkOk.j0
   repeat' first
   | (with_reducible exact ih0 _ _ _ _)
   | (with_reducible exact ih1 _ _ _ _ _ _)
   | (with_reducible exact LeO.refl _)
   | (with_reducible exact LeO.none _)
   | (with_reducible refine LeO.ite ?_ ?_)
   | (with_reducible refine LeO.bind ?_ (fun _ => ?_))
   | exact ih0 _ _ _ _
   | exact ih1 _ _ _ _ _ _
   | exact LeO.none _
   | refine LeO.ite ?_ ?_
   | refine LeO.bind ?_ (fun _ => ?_)
  ·intro y0 y1 y2 y3 y4 y5
   unfold impl_WalkOk.l0
   repeat' first
   | (with_reducible exact ih0 _ _ _ _)
   | (with_reducible exact ih1 _ _ _ _ _ _)
   | (with_reducible exact LeO.refl _)
   | (with_reducible exact LeO.none _)
   | (with_reducible refine LeO.ite ?_ ?_)
   | (with_reducible refine LeO.bind ?_ (fun _ => ?_))
   | exact ih0 _ _ _ _
   | exact ih1 _ _ _ _ _ _
   | exact LeO.none _
   | refine LeO.ite ?_ ?_
   | refine LeO.bind ?_ (fun _ => ?_)
theorem impl_WalkOk.mono : ∀ a0 a1 a2 k, LeO (impl_WalkOk.f k a0 a1 a2) (impl_WalkOk.f (k + 1) a0 a1 a2) := by
 intro a0 a1 a2 k
 obtain ⟨ih0, ih1⟩ := impl_WalkOk.mono_l k
 unfold impl_WalkOk.f
 repeat' first
   | (with_reducible exact ih0 _ _ _ _)
   | (with_reducible exact ih1 _ _ _ _ _ _)
   | (with_reducible exact LeO.refl _)
   | (with_reducible exact LeO.none _)
   | (with_reducible refine LeO.ite ?_ ?_)
   | (with_reducible refine LeO.bind ?_ (fun _ => ?_))
   | exact ih0 _ _ _ _
   | exact ih1 _ _ _ _ _ _
   | exact LeO.none _
   | refine LeO.ite ?_ ?_
   | refine LeO.bind ?_ (fun _ => ?_)
def impl_WalkOk.T6 : Bool × List (List Nat × List Nat) := (true, [([], []), ([], []), ([1], [1]), ([2], [2]), ([3], [3]), ([0, 4], [0, 4]), ([5], [5]), ([6, 5], [6]), ([7], [7]), ([8, 7], [7, 8]), ([9, 7, 7], [7, 9]), ([10], [10]), ([11, 10], [10, 11]), ([10], [10]), ([10], [10]), ([14, 10], [10, 14]), ([13, 15, 10], [10, 13, 15]), ([16, 10], [10, 16]), ([12, 17, 10], [10, 12, 17]), ([18, 10], [10, 18]), ([19, 10], [10, 19]), ([10], [10]), ([21, 10], [10, 21]), ([10], [10]), ([22, 23, 10], [10, 22, 23]), ([24, 10], [10, 24]), ([25, 10], [10, 25]), ([20, 26, 10], [10, 20, 26]), ([10, 27, 7], [7, 10, 27]), ([7, 28], [7, 28])])
def impl_WalkOk.B6 : List Nat := [0, 0, 2, 6, 14, 31, 63, 127, 255, 511, 1023, 2047, 4095, 2047, 2047, 18431, 59391, 124927, 262143, 524287, 1048575, 2047, 2099199, 2047, 14682111, 31459327, 65013759, 134217727, 268435455, 536870911]
theorem impl_WalkOk.tab6 : rtab .any (opsOf Try.f12 6) = impl_WalkOk.T6 := by kernel_rfl
theorem impl_WalkOk.bits6 : waitsOk impl_WalkOk.T6.2 impl_WalkOk.B6 = true := by kernel_rfl
set_option maxHeartbeats 8000000 in
set_option maxRecDepth 100000 in
theorem impl_WalkOk.calls (k : Nat) (a0_0 : Int) (A0_1 : Option Addr) (c0_1 : Nat) (l0_1 : List (S33)) (A1 : Option Addr) (c1 : Nat) (l1 : List Int) (r : Bool) (w : World) (hr0_1 : Kd.C k33 w A0_1 l0_1.length l0_1) (hc0_1 : l0_1.length ≤ c0_1) (hr1 : Kd.C (Kd.int .i64) w A1 l1.length l1) (hc1 : l1.length ≤ c1) (h : impl_WalkOk.f k a0_0 l0_1 l1 = some r) :
  Calls Try.prog 12 #[.agg #[.int .i64 a0_0, .slice A0_1 l0_1.length c0_1], .slice A1 l1.length c1] w fun e w' => e = .returned (.bool r) ∧ Below w.heap.size w w' := by
 have hu25 := Try.underlying25
 have HR0_1 := ak hr0_1
 have HC0_1 := ak hc0_1
 clear hr0_1 hc0_1
 have HR1 := ak hr1
 have HC1 := ak hc1
 clear hr1 hc1
 have HB := ak (Below.refl w.heap.size w)
 have H : ((impl_NetOk.f a0_0 l0_1).bind fun t120 => (if t120 = true then (impl_WalkOk.j0 k l1 (decide ((l1.length : Int) > 20)) a0_0 l0_1) else (impl_WalkOk.j0 k l1 true a0_0 l0_1))) = some r := h
 clear h
 have HC3 := ak H
 clear H
 go_enter Try.func12, Try.ntmps12
 go_upto_region 1 with (first | ((with_reducible refine gate_dst (N := 2) rfl ?_); refine box_event ?hg (N := 2) ?hd (cs := #[.int .i64 a0_0, .slice A0_1 l0_1.length c0_1]) (t := 25) ?hr ?_; (case hd => rfl); (case hg => rfl); (case hr => first | (go_simp; done) | (go_simp; rfl)); intro gb119 hg w4 hbox hb; have BK119 := ak (hbox); have GW119 := ak ((by rw [hg]; exact (below_size (bl HB)) : w.heap.size ≤ gb119)); have GE119 := ak ((by rw [hg]; exact (below_size (bl HB)) : w.heap.size ≤ gb119)); replace HB := ak (below_step (bl HB) hb); clear hb hbox hg))
 (try simp only [Act.put, List.setIfInBounds_toArray, List.set_cons_zero, List.set_cons_succ])
 go_cut [14] (fun v14 wc => ∃ (kq : Nat) (x14_2 : Bool), v14 = .bool x14_2 ∧ Aside0 (impl_WalkOk.j0 kq l1 x14_2 a0_0 l0_1 = some r) ∧ Aside0 (kq ≤ k) ∧ Aside0 (wc.heap[gb119]? = some (.cells #[.int .i64 a0_0, (.slice A0_1 l0_1.length c0_1)] 25 (0, 0))) ∧ Aside0 (Below w.heap.size w wc))
 case first =>
  have H := HC3.out
  clear HC3
  replace H := Option.bind_eq_some_iff.mp H
  obtain ⟨t120, A50, H⟩ := H
  have A5 := ak A50
  clear A50
  by_cases c6 : t120 = true
  ·subst c6
   rw [if_pos rfl] at H
   have H' := ak H
   clear H
   have hcz7_0 := bc w4 BK119 0 (.int .i64 a0_0) rfl
   have hcz7_1 := bc w4 BK119 1 (.slice A0_1 l0_1.length c0_1) rfl
   have hfz7_0 := fz BK119 0
   have hfz7_1 := fz BK119 1
   go_wp2_with (first | ((with_reducible refine gate_callee (f := 35) rfl ?_); refine goesL_ (some 8) rfl rfl Try.func35 (by kernel_rfl) rfl #[.agg #[.int .i64 a0_0, .slice A0_1 l0_1.length c0_1]] rfl (by (try simp only [List.map_toArray, List.map_cons, List.map_nil]); first | done | rfl | (simp only [List.length_drop, List.length_take]; rfl)) ?_; (with_reducible refine (impl_NetOk.calls a0_0 _ _ l0_1 true _ ?side1 ?side2 A5.out).mono ?_); (case side1 => repeat (first | exact (Kd.C_below HR0_1.out HB.out) | (with_reducible refine Kd.C_alloc ?_ _) | (with_reducible refine Kd.C_drewN ?_ _) | (with_reducible refine Kd.C_drew ?_))); (case side2 => exact HC0_1.out); rintro e w8 ⟨rfl, hb⟩; refine ⟨_, rfl, ?_⟩; replace BK119 := ak (blk_below (bk BK119) hb); replace HB := ak (below_step (bl1 HB GE119) hb); (try clear hb); (try clear hb2); (try clear hk); (try clear hi)))
   go_meet
   case rel => exact ⟨_, (decide ((l1.length : Int) > 20)), (by first | rfl | (simp; done) | (simp [*]; done)), H', ⟨by first | omega | exact Nat.le_refl _⟩, ⟨bk BK119⟩, ⟨bl1 HB GE119⟩⟩
  replace c6 := Bool.eq_false_iff.mpr c6
  subst c6
  rw [if_neg (show ¬ (false = true) by decide)] at H
  have H' := ak H
  clear H
  have hcz9_0 := bc w4 BK119 0 (.int .i64 a0_0) rfl
  have hcz9_1 := bc w4 BK119 1 (.slice A0_1 l0_1.length c0_1) rfl
  have hfz9_0 := fz BK119 0
  have hfz9_1 := fz BK119 1
  go_wp2_with (first | ((with_reducible refine gate_callee (f := 35) rfl ?_); refine goesL_ (some 8) rfl rfl Try.func35 (by kernel_rfl) rfl #[.agg #[.int .i64 a0_0, .slice A0_1 l0_1.length c0_1]] rfl (by (try simp only [List.map_toArray, List.map_cons, List.map_nil]); first | done | rfl | (simp only [List.length_drop, List.length_take]; rfl)) ?_; (with_reducible refine (impl_NetOk.calls a0_0 _ _ l0_1 false _ ?side1 ?side2 A5.out).mono ?_); (case side1 => repeat (first | exact (Kd.C_below HR0_1.out HB.out) | (with_reducible refine Kd.C_alloc ?_ _) | (with_reducible refine Kd.C_drewN ?_ _) | (with_reducible refine Kd.C_drew ?_))); (case side2 => exact HC0_1.out); rintro e w10 ⟨rfl, hb⟩; refine ⟨_, rfl, ?_⟩; replace BK119 := ak (blk_below (bk BK119) hb); replace HB := ak (below_step (bl1 HB GE119) hb); (try clear hb); (try clear hb2); (try clear hk); (try clear hi)))
  go_meet
  case rel => exact ⟨_, (true), (by first | rfl | (simp; done) | (simp [*]; done)), H', ⟨by first | omega | exact Nat.le_refl _⟩, ⟨bk BK119⟩, ⟨bl1 HB GE119⟩⟩
 clear HC3
 try clear c1
 try clear p2
 try clear c3
 try clear c6
 try clear hcz7_0
 try clear hcz7_1
 try clear hcz9_0
 try clear hcz9_1
 try clear hfz7_0
 try clear hfz7_1
 try clear hfz9_0
 try clear hfz9_1
 obtain ⟨kq, x14_2, rfl, HA, HJ2, BK119, HB⟩ := hcut
 cases kq with
 | zero => exact absurd HA.out (by simp [impl_WalkOk.j0])
 | succ kj2 =>
  have H := HA.out
  clear HA
  simp only [impl_WalkOk.j0] at H
  by_cases c11 : x14_2 = true
  ·subst c11
   rw [if_pos rfl] at H
   obtain rfl := Option.some.inj H
   go_wp2
   go_ret
   exact ⟨by first | rfl | (simp [errW_none, errW_some] <;> rfl) | (simp [*, errW_none, errW_some] <;> rfl), bl1 HB GE119⟩
  replace c11 := Bool.eq_false_iff.mpr c11
  subst c11
  rw [if_neg (show ¬ (false = true) by decide)] at H
  have H' := ak H
  clear H
  go_wp2
  go_loopg [17] kj2 (fun kq v17 w' => ∃ (x17_2 : Int), v17 = .int .i64 x17_2 ∧ Aside0 (impl_WalkOk.l0 kq l1 l1 (l1.length : Int) x17_2 a0_0 l0_1 = some r) ∧ Aside0 (kq ≤ kj2) ∧ Aside0 (w'.heap[gb119]? = some (.cells #[.int .i64 a0_0, (.slice A0_1 l0_1.length c0_1)] 25 (0, 0))) ∧ Aside0 (Below w.heap.size w w'))
  case atStart => exact ⟨(0), (by first | rfl | (simp; done) | (simp [*]; done)), H', ⟨Nat.le_refl _⟩, ⟨bk BK119⟩, ⟨bl1 HB GE119⟩⟩
  clear H'
  try clear c1
  try clear p2
  try clear c3
  try clear c6
  try clear c11
  try clear hcz7_0
  try clear hcz7_1
  try clear hcz9_0
  try clear hcz9_1
  try clear hfz7_0
  try clear hfz7_1
  try clear hfz9_0
  try clear hfz9_1
  try clear p2
  obtain ⟨x17_2, rfl, HA, HK2, BK119, HB⟩ := hrel
  cases gk with
  | zero => exact absurd HA.out (by simp [impl_WalkOk.l0])
  | succ k2 =>
   have H := HA.out
   clear HA
   simp only [impl_WalkOk.l0] at H
   by_cases c12 : x17_2 < (l1.length : Int)
   rotate_left
   ·rw [if_neg c12] at H
    have c12b0 : decide (x17_2 < (l1.length : Int)) = false := decide_eq_false c12
    clear c12
    obtain rfl := Option.some.inj H
    go_wp2
    go_ret
    exact ⟨by first | rfl | (simp [errW_none, errW_some] <;> rfl) | (simp [*, errW_none, errW_some] <;> rfl), bl1 HB GE119⟩
   rw [if_pos c12] at H
   have c12b0 : decide (x17_2 < (l1.length : Int)) = true := decide_eq_true c12
   clear c12
   by_cases c13 : 0 ≤ x17_2
   rotate_left
   ·rw [if_neg c13] at H
    exact absurd H (by simp)
   rw [if_pos c13] at H
   have c13b0 : decide (0 ≤ x17_2) = true := decide_eq_true c13
   clear c13
   by_cases c14 : x17_2 < (l1.length : Int)
   rotate_left
   ·rw [if_neg c14] at H
    exact absurd H (by simp)
   rw [if_pos c14] at H
   have c14b0 : decide (x17_2 < (l1.length : Int)) = true := decide_eq_true c14
   clear c14
   replace H := Option.bind_eq_some_iff.mp H
   obtain ⟨t122, A150, H⟩ := H
   have A15 := ak A150
   clear A150
   by_cases c16 : t122 = true
   rotate_left
   ·replace c16 := Bool.eq_false_iff.mpr c16
    subst c16
    rw [if_neg (show ¬ (false = true) by decide)] at H
    obtain rfl := Option.some.inj H
    have p121 : 0 ≤ (x17_2 : Int) := oT (by first | (with_reducible assumption) | assumption)
    have q121 : x17_2 < (l1.length : Int) := oT (by first | (with_reducible assumption) | assumption)
    obtain ⟨ad121, e121, hx121_0⟩ := Kd.at_int HR1.out x17_2 p121 q121
    cases e121
    replace hx121_0 := hcb HB.out hx121_0
    replace p121 := eq_true p121
    replace q121 := eq_true q121
    try go_wp2
    replace BK119 := ak (blk_drew BK119.out)
    replace HB := ak (below_drew1 HB.out)
    refine start_ (n := 30) (S := fun w' => w'.cell? ⟨gb119, 0, none⟩ = some (.int .i64 a0_0) ∧ w'.cell? ⟨gb119, 1, none⟩ = some (.slice A0_1 l0_1.length c0_1)) (ds := []) (ms 30 0) (by kernel_rfl) rfl (by kernel_rfl) ⟨(blk_cell BK119.out 0).trans rfl, (blk_cell BK119.out 1).trans rfl⟩ (fun hHeld => ?_); refine with_tabW impl_WalkOk.tab6 impl_WalkOk.bits6 (fun HT_ HW_ => ?_)
    generalize wr.drew = w29 at BK119 HB hHeld ⊢
    refine pu 0 22 ?_ (ms 30 1) rfl rfl HT_ (by kernel_rfl) (fun _ _ _ h => h) (by rfl) ?_ ?_ ?_ ?_
    rotate_left
    ·intro w'
     go_simp
     with_reducible rfl
    rotate_left
    ·simp only [SX]
     rfl
    refine pu 1 23 ?_ (ms 30 3) rfl rfl HT_ (by kernel_rfl) (fun _ _ _ h => h) (by rfl) ?_ ?_ ?_ ?_
    rotate_left
    ·intro w'
     go_simp
     with_reducible rfl
    rotate_left
    ·simp only [SX]
     rfl
    refine tk 2 24 ?_ (ms 30 7) rfl rfl HT_ HW_ (by kernel_rfl) (fun _ _ _ h => h) (by rfl) ?_ hHeld ?_ ?_ ?_
    rotate_left
    ·rintro w' ⟨s0, s1⟩
     go_simp
     with_reducible rfl
    rotate_left
    ·simp only [SX]
     rfl
    refine pu 3 25 ?_ (ms 30 15) rfl rfl HT_ (by kernel_rfl) (fun _ _ _ h => h) (by rfl) ?_ ?_ ?_ ?_
    rotate_left
    ·intro w'
     go_simp
     with_reducible rfl
    rotate_left
    ·simp only [SX]
     rfl
    refine pu 4 26 ?_ (ms 30 31) rfl rfl HT_ (by kernel_rfl) (fun _ _ _ h => h) (by rfl) ?_ ?_ ?_ ?_
    rotate_left
    ·intro w'
     go_simp
     with_reducible rfl
    rotate_left
    ·simp only [SX]
     rfl
    refine one_ (i := 5) (N := some 27) (ms 30 63) rfl rfl (one_of HT_.out (by kernel_rfl)) (by decide) (fun K hK => ?_)
    refine goes_ Try.func41 (by kernel_rfl) rfl #[.int .i64 (rd l1 x17_2), .int .i64 0, .int .i64 (wrap64 ((l0_1.length : Int) - 1))] (by rfl) rfl rfl (by (try simp only [List.map_toArray, List.map_cons, List.map_nil]); first | done | rfl | (simp only [List.length_drop, List.length_take]; rfl)) ?_
    with_reducible refine (impl_within.calls (rd l1 x17_2) 0 (wrap64 ((l0_1.length : Int) - 1)) false _ A15.out).mono ?_
    rintro e w' ⟨rfl, ⟨nd, rfl⟩⟩
    refine ⟨_, rfl, ?_⟩
    refine hK.out _ _ ⟨(blk_cell BK119.out 0).trans rfl, (blk_cell BK119.out 1).trans rfl⟩ (fun hHeld => ?_)
    clear hK K
    refine norm_ (a' := ?_) ?_ ?_
    rotate_left
    ·show Act.put _ (some 27) _ = _
     simp only [SX]
     rfl
    refine pu 6 28 ?_ (ms 30 127) rfl rfl HT_ (by kernel_rfl) (fun _ _ _ h => h) (by rfl) ?_ ?_ ?_ ?_
    rotate_left
    ·intro w'
     go_simp
     with_reducible rfl
    rotate_left
    ·simp only [SX]
     rfl
    refine pu 7 29 ?_ (ms 30 255) rfl rfl HT_ (by kernel_rfl) (fun _ _ _ h => h) (by rfl) ?_ ?_ ?_ ?_
    rotate_left
    ·intro w'
     go_simp
     with_reducible rfl
    rotate_left
    ·simp only [SX]
     rfl
    refine pure_ (i := 8) (N := some 30) (v := undef) (a' := ?_) (ms 30 511) rfl rfl (any_of HT_.out (by kernel_rfl)) (fun _ _ _ h => h) (Or.inr ⟨by rfl, rfl⟩) ?_ ?_
    rotate_left
    ·simp only [SX]
     rfl
    refine pure_ (i := 9) (N := some 31) (v := undef) (a' := ?_) (ms 30 1023) rfl rfl (any_of HT_.out (by kernel_rfl)) (fun _ _ _ h => h) (Or.inr ⟨by rfl, rfl⟩) ?_ ?_
    rotate_left
    ·simp only [SX]
     rfl
    refine pure_ (i := 10) (N := some 32) (v := undef) (a' := ?_) (ms 30 2047) rfl rfl (any_of HT_.out (by kernel_rfl)) (fun _ _ _ h => h) (Or.inr ⟨by rfl, rfl⟩) ?_ ?_
    rotate_left
    ·simp only [SX]
     rfl
    refine pure_ (i := 11) (N := some 33) (v := undef) (a' := ?_) (ms 30 4095) rfl rfl (any_of HT_.out (by kernel_rfl)) (fun _ _ _ h => h) (Or.inr ⟨by rfl, rfl⟩) ?_ ?_
    rotate_left
    ·simp only [SX]
     rfl
    refine pure_ (i := 12) (N := some 34) (v := undef) (a' := ?_) (ms 30 8191) rfl rfl (any_of HT_.out (by kernel_rfl)) (fun _ _ _ h => h) (Or.inr ⟨by rfl, rfl⟩) ?_ ?_
    rotate_left
    ·simp only [SX]
     rfl
    refine pure_ (i := 13) (N := some 35) (v := undef) (a' := ?_) (ms 30 16383) rfl rfl (any_of HT_.out (by kernel_rfl)) (fun _ _ _ h => h) (Or.inr ⟨by rfl, rfl⟩) ?_ ?_
    rotate_left
    ·simp only [SX]
     rfl
    refine pure_ (i := 14) (N := some 36) (v := undef) (a' := ?_) (ms 30 32767) rfl rfl (any_of HT_.out (by kernel_rfl)) (fun _ _ _ h => h) (Or.inr ⟨by rfl, rfl⟩) ?_ ?_
    rotate_left
    ·simp only [SX]
     rfl
    refine pure_ (i := 15) (N := some 37) (v := undef) (a' := ?_) (ms 30 65535) rfl rfl (any_of HT_.out (by kernel_rfl)) (fun _ _ _ h => h) (Or.inr ⟨by rfl, rfl⟩) ?_ ?_
    rotate_left
    ·simp only [SX]
     rfl
    refine pure_ (i := 16) (N := some 38) (v := undef) (a' := ?_) (ms 30 131071) rfl rfl (any_of HT_.out (by kernel_rfl)) (fun _ _ _ h => h) (Or.inr ⟨by rfl, rfl⟩) ?_ ?_
    rotate_left
    ·simp only [SX]
     rfl
    refine pure_ (i := 17) (N := some 39) (v := undef) (a' := ?_) (ms 30 262143) rfl rfl (any_of HT_.out (by kernel_rfl)) (fun _ _ _ h => h) (Or.inr ⟨by rfl, rfl⟩) ?_ ?_
    rotate_left
    ·simp only [SX]
     rfl
    refine pure_ (i := 18) (N := some 40) (v := undef) (a' := ?_) (ms 30 524287) rfl rfl (any_of HT_.out (by kernel_rfl)) (fun _ _ _ h => h) (Or.inr ⟨by rfl, rfl⟩) ?_ ?_
    rotate_left
    ·simp only [SX]
     rfl
    refine pure_ (i := 19) (N := some 41) (v := undef) (a' := ?_) (ms 30 1048575) rfl rfl (any_of HT_.out (by kernel_rfl)) (fun _ _ _ h => h) (Or.inr ⟨by rfl, rfl⟩) ?_ ?_
    rotate_left
    ·simp only [SX]
     rfl
    refine pure_ (i := 20) (N := some 42) (v := undef) (a' := ?_) (ms 30 2097151) rfl rfl (any_of HT_.out (by kernel_rfl)) (fun _ _ _ h => h) (Or.inr ⟨by rfl, rfl⟩) ?_ ?_
    rotate_left
    ·simp only [SX]
     rfl
    refine pure_ (i := 21) (N := some 43) (v := undef) (a' := ?_) (ms 30 4194303) rfl rfl (any_of HT_.out (by kernel_rfl)) (fun _ _ _ h => h) (Or.inr ⟨by rfl, rfl⟩) ?_ ?_
    rotate_left
    ·simp only [SX]
     rfl
    refine pure_ (i := 22) (N := some 44) (v := undef) (a' := ?_) (ms 30 8388607) rfl rfl (any_of HT_.out (by kernel_rfl)) (fun _ _ _ h => h) (Or.inr ⟨by rfl, rfl⟩) ?_ ?_
    rotate_left
    ·simp only [SX]
     rfl
    refine pure_ (i := 23) (N := some 45) (v := undef) (a' := ?_) (ms 30 16777215) rfl rfl (any_of HT_.out (by kernel_rfl)) (fun _ _ _ h => h) (Or.inr ⟨by rfl, rfl⟩) ?_ ?_
    rotate_left
    ·simp only [SX]
     rfl
    refine pure_ (i := 24) (N := some 46) (v := undef) (a' := ?_) (ms 30 33554431) rfl rfl (any_of HT_.out (by kernel_rfl)) (fun _ _ _ h => h) (Or.inr ⟨by rfl, rfl⟩) ?_ ?_
    rotate_left
    ·simp only [SX]
     rfl
    refine pure_ (i := 25) (N := some 47) (v := undef) (a' := ?_) (ms 30 67108863) rfl rfl (any_of HT_.out (by kernel_rfl)) (fun _ _ _ h => h) (Or.inr ⟨by rfl, rfl⟩) ?_ ?_
    rotate_left
    ·simp only [SX]
     rfl
    refine pure_ (i := 26) (N := some 48) (v := undef) (a' := ?_) (ms 30 134217727) rfl rfl (any_of HT_.out (by kernel_rfl)) (fun _ _ _ h => h) (Or.inr ⟨by rfl, rfl⟩) ?_ ?_
    rotate_left
    ·simp only [SX]
     rfl
    refine pure_ (i := 27) (N := some 49) (v := undef) (a' := ?_) (ms 30 268435455) rfl rfl (any_of HT_.out (by kernel_rfl)) (fun _ _ _ h => h) (Or.inr ⟨by rfl, rfl⟩) ?_ ?_
    rotate_left
    ·simp only [SX]
     rfl
    refine pure_ (i := 28) (N := some 50) (v := undef) (a' := ?_) (ms 30 536870911) rfl rfl (any_of HT_.out (by kernel_rfl)) (fun _ _ _ h => h) (Or.inr ⟨by rfl, rfl⟩) ?_ ?_
    rotate_left
    ·simp only [SX]
     rfl
    refine pu 29 51 ?_ (ms 30 1073741823) rfl rfl HT_ (by kernel_rfl) (fun _ _ _ h => h) (by rfl) ?_ ?_ ?_ ?_
    rotate_left
    ·intro w'
     go_simp
     with_reducible rfl
    rotate_left
    ·simp only [SX]
     rfl
    refine done_ (done_of HT_.out (by kernel_rfl)) ?_
    try go_wp2
    go_ret
    exact ⟨by first | rfl | (simp [errW_none, errW_some] <;> rfl) | (simp [*, errW_none, errW_some] <;> rfl), bl1 HB GE119⟩
   subst c16
   rw [if_pos rfl] at H
   by_cases c17 : x17_2 > 0
   rotate_left
   ·rw [if_neg c17] at H
    have c17b0 : decide (0 < x17_2) = false := decide_eq_false c17
    clear c17
    have H' := ak H
    clear H
    have p121 : 0 ≤ (x17_2 : Int) := oT (by first | (with_reducible assumption) | assumption)
    have q121 : x17_2 < (l1.length : Int) := oT (by first | (with_reducible assumption) | assumption)
    obtain ⟨ad121, e121, hx121_0⟩ := Kd.at_int HR1.out x17_2 p121 q121
    cases e121
    replace hx121_0 := hcb HB.out hx121_0
    replace p121 := eq_true p121
    replace q121 := eq_true q121
    try go_wp2
    replace BK119 := ak (blk_drew BK119.out)
    replace HB := ak (below_drew1 HB.out)
    refine start_ (n := 30) (S := fun w' => w'.cell? ⟨gb119, 0, none⟩ = some (.int .i64 a0_0) ∧ w'.cell? ⟨gb119, 1, none⟩ = some (.slice A0_1 l0_1.length c0_1)) (ds := []) (ms 30 0) (by kernel_rfl) rfl (by kernel_rfl) ⟨(blk_cell BK119.out 0).trans rfl, (blk_cell BK119.out 1).trans rfl⟩ (fun hHeld => ?_); refine with_tabW impl_WalkOk.tab6 impl_WalkOk.bits6 (fun HT_ HW_ => ?_)
    generalize wr.drew = w28 at BK119 HB hHeld ⊢
    refine pu 0 22 ?_ (ms 30 1) rfl rfl HT_ (by kernel_rfl) (fun _ _ _ h => h) (by rfl) ?_ ?_ ?_ ?_
    rotate_left
    ·intro w'
     go_simp
     with_reducible rfl
    rotate_left
    ·simp only [SX]
     rfl
    refine pu 1 23 ?_ (ms 30 3) rfl rfl HT_ (by kernel_rfl) (fun _ _ _ h => h) (by rfl) ?_ ?_ ?_ ?_
    rotate_left
    ·intro w'
     go_simp
     with_reducible rfl
    rotate_left
    ·simp only [SX]
     rfl
    refine tk 2 24 ?_ (ms 30 7) rfl rfl HT_ HW_ (by kernel_rfl) (fun _ _ _ h => h) (by rfl) ?_ hHeld ?_ ?_ ?_
    rotate_left
    ·rintro w' ⟨s0, s1⟩
     go_simp
     with_reducible rfl
    rotate_left
    ·simp only [SX]
     rfl
    refine pu 3 25 ?_ (ms 30 15) rfl rfl HT_ (by kernel_rfl) (fun _ _ _ h => h) (by rfl) ?_ ?_ ?_ ?_
    rotate_left
    ·intro w'
     go_simp
     with_reducible rfl
    rotate_left
    ·simp only [SX]
     rfl
    refine pu 4 26 ?_ (ms 30 31) rfl rfl HT_ (by kernel_rfl) (fun _ _ _ h => h) (by rfl) ?_ ?_ ?_ ?_
    rotate_left
    ·intro w'
     go_simp
     with_reducible rfl
    rotate_left
    ·simp only [SX]
     rfl
    refine one_ (i := 5) (N := some 27) (ms 30 63) rfl rfl (one_of HT_.out (by kernel_rfl)) (by decide) (fun K hK => ?_)
    refine goes_ Try.func41 (by kernel_rfl) rfl #[.int .i64 (rd l1 x17_2), .int .i64 0, .int .i64 (wrap64 ((l0_1.length : Int) - 1))] (by rfl) rfl rfl (by (try simp only [List.map_toArray, List.map_cons, List.map_nil]); first | done | rfl | (simp only [List.length_drop, List.length_take]; rfl)) ?_
    with_reducible refine (impl_within.calls (rd l1 x17_2) 0 (wrap64 ((l0_1.length : Int) - 1)) true _ A15.out).mono ?_
    rintro e w' ⟨rfl, ⟨nd, rfl⟩⟩
    refine ⟨_, rfl, ?_⟩
    refine hK.out _ _ ⟨(blk_cell BK119.out 0).trans rfl, (blk_cell BK119.out 1).trans rfl⟩ (fun hHeld => ?_)
    clear hK K
    refine norm_ (a' := ?_) ?_ ?_
    rotate_left
    ·show Act.put _ (some 27) _ = _
     simp only [SX]
     rfl
    refine pu 6 28 ?_ (ms 30 127) rfl rfl HT_ (by kernel_rfl) (fun _ _ _ h => h) (by rfl) ?_ ?_ ?_ ?_
    rotate_left
    ·intro w'
     go_simp
     with_reducible rfl
    rotate_left
    ·simp only [SX]
     rfl
    refine pu 7 29 ?_ (ms 30 255) rfl rfl HT_ (by kernel_rfl) (fun _ _ _ h => h) (by rfl) ?_ ?_ ?_ ?_
    rotate_left
    ·intro w'
     go_simp
     with_reducible rfl
    rotate_left
    ·simp only [SX]
     rfl
    refine pu 8 30 ?_ (ms 30 511) rfl rfl HT_ (by kernel_rfl) (fun _ _ _ h => h) (by rfl) ?_ ?_ ?_ ?_
    rotate_left
    ·intro w'
     go_simp
     with_reducible rfl
    rotate_left
    ·simp only [SX]
     rfl
    refine pu 9 31 ?_ (ms 30 1023) rfl rfl HT_ (by kernel_rfl) (fun _ _ _ h => h) (by rfl) ?_ ?_ ?_ ?_
    rotate_left
    ·intro w'
     go_simp
     with_reducible rfl
    rotate_left
    ·simp only [SX]
     rfl
    refine pu 10 32 ?_ (ms 30 2047) rfl rfl HT_ (by kernel_rfl) (fun _ _ _ h => h) (by rfl) ?_ ?_ ?_ ?_
    rotate_left
    ·intro w'
     go_simp
     with_reducible rfl
    rotate_left
    ·simp only [SX]
     rfl
    refine pure_ (i := 11) (N := some 33) (v := undef) (a' := ?_) (ms 30 4095) rfl rfl (any_of HT_.out (by kernel_rfl)) (fun _ _ _ h => h) (Or.inr ⟨by rfl, rfl⟩) ?_ ?_
    rotate_left
    ·simp only [SX]
     rfl
    refine pure_ (i := 12) (N := some 34) (v := undef) (a' := ?_) (ms 30 8191) rfl rfl (any_of HT_.out (by kernel_rfl)) (fun _ _ _ h => h) (Or.inr ⟨by rfl, rfl⟩) ?_ ?_
    rotate_left
    ·simp only [SX]
     rfl
    refine pure_ (i := 13) (N := some 35) (v := undef) (a' := ?_) (ms 30 16383) rfl rfl (any_of HT_.out (by kernel_rfl)) (fun _ _ _ h => h) (Or.inr ⟨by rfl, rfl⟩) ?_ ?_
    rotate_left
    ·simp only [SX]
     rfl
    refine pure_ (i := 14) (N := some 36) (v := undef) (a' := ?_) (ms 30 32767) rfl rfl (any_of HT_.out (by kernel_rfl)) (fun _ _ _ h => h) (Or.inr ⟨by rfl, rfl⟩) ?_ ?_
    rotate_left
    ·simp only [SX]
     rfl
    refine pure_ (i := 15) (N := some 37) (v := undef) (a' := ?_) (ms 30 65535) rfl rfl (any_of HT_.out (by kernel_rfl)) (fun _ _ _ h => h) (Or.inr ⟨by rfl, rfl⟩) ?_ ?_
    rotate_left
    ·simp only [SX]
     rfl
    refine pure_ (i := 16) (N := some 38) (v := undef) (a' := ?_) (ms 30 131071) rfl rfl (any_of HT_.out (by kernel_rfl)) (fun _ _ _ h => h) (Or.inr ⟨by rfl, rfl⟩) ?_ ?_
    rotate_left
    ·simp only [SX]
     rfl
    refine pure_ (i := 17) (N := some 39) (v := undef) (a' := ?_) (ms 30 262143) rfl rfl (any_of HT_.out (by kernel_rfl)) (fun _ _ _ h => h) (Or.inr ⟨by rfl, rfl⟩) ?_ ?_
    rotate_left
    ·simp only [SX]
     rfl
    refine pure_ (i := 18) (N := some 40) (v := undef) (a' := ?_) (ms 30 524287) rfl rfl (any_of HT_.out (by kernel_rfl)) (fun _ _ _ h => h) (Or.inr ⟨by rfl, rfl⟩) ?_ ?_
    rotate_left
    ·simp only [SX]
     rfl
    refine pure_ (i := 19) (N := some 41) (v := undef) (a' := ?_) (ms 30 1048575) rfl rfl (any_of HT_.out (by kernel_rfl)) (fun _ _ _ h => h) (Or.inr ⟨by rfl, rfl⟩) ?_ ?_
    rotate_left
    ·simp only [SX]
     rfl
    refine pure_ (i := 20) (N := some 42) (v := undef) (a' := ?_) (ms 30 2097151) rfl rfl (any_of HT_.out (by kernel_rfl)) (fun _ _ _ h => h) (Or.inr ⟨by rfl, rfl⟩) ?_ ?_
    rotate_left
    ·simp only [SX]
     rfl
    refine pure_ (i := 21) (N := some 43) (v := undef) (a' := ?_) (ms 30 4194303) rfl rfl (any_of HT_.out (by kernel_rfl)) (fun _ _ _ h => h) (Or.inr ⟨by rfl, rfl⟩) ?_ ?_
    rotate_left
    ·simp only [SX]
     rfl
    refine pure_ (i := 22) (N := some 44) (v := undef) (a' := ?_) (ms 30 8388607) rfl rfl (any_of HT_.out (by kernel_rfl)) (fun _ _ _ h => h) (Or.inr ⟨by rfl, rfl⟩) ?_ ?_
    rotate_left
    ·simp only [SX]
     rfl
    refine pure_ (i := 23) (N := some 45) (v := undef) (a' := ?_) (ms 30 16777215) rfl rfl (any_of HT_.out (by kernel_rfl)) (fun _ _ _ h => h) (Or.inr ⟨by rfl, rfl⟩) ?_ ?_
    rotate_left
    ·simp only [SX]
     rfl
    refine pure_ (i := 24) (N := some 46) (v := undef) (a' := ?_) (ms 30 33554431) rfl rfl (any_of HT_.out (by kernel_rfl)) (fun _ _ _ h => h) (Or.inr ⟨by rfl, rfl⟩) ?_ ?_
    rotate_left
    ·simp only [SX]
     rfl
    refine pure_ (i := 25) (N := some 47) (v := undef) (a' := ?_) (ms 30 67108863) rfl rfl (any_of HT_.out (by kernel_rfl)) (fun _ _ _ h => h) (Or.inr ⟨by rfl, rfl⟩) ?_ ?_
    rotate_left
    ·simp only [SX]
     rfl
    refine pure_ (i := 26) (N := some 48) (v := undef) (a' := ?_) (ms 30 134217727) rfl rfl (any_of HT_.out (by kernel_rfl)) (fun _ _ _ h => h) (Or.inr ⟨by rfl, rfl⟩) ?_ ?_
    rotate_left
    ·simp only [SX]
     rfl
    refine pure_ (i := 27) (N := some 49) (v := undef) (a' := ?_) (ms 30 268435455) rfl rfl (any_of HT_.out (by kernel_rfl)) (fun _ _ _ h => h) (Or.inr ⟨by rfl, rfl⟩) ?_ ?_
    rotate_left
    ·simp only [SX]
     rfl
    refine pu 28 50 ?_ (ms 30 536870911) rfl rfl HT_ (by kernel_rfl) (fun _ _ _ h => h) (by rfl) ?_ ?_ ?_ ?_
    rotate_left
    ·intro w'
     go_simp
     with_reducible rfl
    rotate_left
    ·simp only [SX]
     rfl
    refine pu 29 51 ?_ (ms 30 1073741823) rfl rfl HT_ (by kernel_rfl) (fun _ _ _ h => h) (by rfl) ?_ ?_ ?_ ?_
    rotate_left
    ·intro w'
     go_simp
     with_reducible rfl
    rotate_left
    ·simp only [SX]
     rfl
    refine done_ (done_of HT_.out (by kernel_rfl)) ?_
    try go_wp2
    go_roundg k2
    case measure => have := HJ2.out; have := HK2.out; omega
    case rel => exact ⟨(wrap64 (x17_2 + 1)), (by first | rfl | (simp; done) | (simp [*]; done)), H', ⟨by have := HJ2.out; have := HK2.out; omega⟩, ⟨bk BK119⟩, ⟨bl1 HB GE119⟩⟩
   rw [if_pos c17] at H
   have c17b0 : decide (0 < x17_2) = true := decide_eq_true c17
   clear c17
   obtain ⟨ji18, hji18⟩ : ∃ j_ : Int, (wrap64 (x17_2 - 1)) = j_ := ⟨_, rfl⟩
   replace H : (if 0 ≤ (ji18) then (if (ji18) < (l1.length : Int) then (if 0 ≤ (rd l1 (ji18)) then (if (rd l1 (ji18)) < (l0_1.length : Int) then (if 0 ≤ (rd l1 x17_2) then (if (rd l1 x17_2) < (l0_1.length : Int) then (if ((rd_T33 l0_1 (rd l1 (ji18))).f1) = ((rd_T33 l0_1 (rd l1 x17_2)).f0) then (impl_WalkOk.l0 k2 l1 l1 (l1.length : Int) (wrap64 (x17_2 + 1)) a0_0 l0_1) else (some false)) else (none)) else (none)) else (none)) else (none)) else (none)) else (none)) = some r := by first | (rw [hji18] at H; exact H) | (simp only [hji18] at H ⊢; exact H)
   (try rw [hji18] at A15)
   have hji18w : (IntKind.i64.wrap (x17_2 - 1)) = ji18 := (i64_w _).trans hji18
   by_cases c19 : 0 ≤ (ji18)
   rotate_left
   ·rw [if_neg c19] at H
    exact absurd H (by simp)
   rw [if_pos c19] at H
   have c19b0 : decide (0 ≤ (ji18)) = true := decide_eq_true c19
   clear c19
   by_cases c20 : (ji18) < (l1.length : Int)
   rotate_left
   ·rw [if_neg c20] at H
    exact absurd H (by simp)
   rw [if_pos c20] at H
   have c20b0 : decide ((ji18) < (l1.length : Int)) = true := decide_eq_true c20
   clear c20
   by_cases c21 : 0 ≤ (rd l1 (ji18))
   rotate_left
   ·rw [if_neg c21] at H
    exact absurd H (by simp)
   rw [if_pos c21] at H
   have c21b0 : decide (0 ≤ (rd l1 (ji18))) = true := decide_eq_true c21
   clear c21
   by_cases c22 : (rd l1 (ji18)) < (l0_1.length : Int)
   rotate_left
   ·rw [if_neg c22] at H
    exact absurd H (by simp)
   rw [if_pos c22] at H
   have c22b0 : decide ((rd l1 (ji18)) < (l0_1.length : Int)) = true := decide_eq_true c22
   clear c22
   by_cases c23 : 0 ≤ (rd l1 x17_2)
   rotate_left
   ·rw [if_neg c23] at H
    exact absurd H (by simp)
   rw [if_pos c23] at H
   have c23b0 : decide (0 ≤ (rd l1 x17_2)) = true := decide_eq_true c23
   clear c23
   by_cases c24 : (rd l1 x17_2) < (l0_1.length : Int)
   rotate_left
   ·rw [if_neg c24] at H
    exact absurd H (by simp)
   rw [if_pos c24] at H
   have c24b0 : decide ((rd l1 x17_2) < (l0_1.length : Int)) = true := decide_eq_true c24
   clear c24
   by_cases c25 : ((rd_T33 l0_1 (rd l1 (ji18))).f1) = ((rd_T33 l0_1 (rd l1 x17_2)).f0)
   rotate_left
   ·rw [if_neg c25] at H
    have c25b0 : (((rd_T33 l0_1 (rd l1 (ji18))).f1) == ((rd_T33 l0_1 (rd l1 x17_2)).f0)) = false := beq_eq_false_iff_ne.mpr c25
    have c25b1 : (((rd_T33 l0_1 (rd l1 (ji18))).f1) != ((rd_T33 l0_1 (rd l1 x17_2)).f0)) = true := bne_iff_ne.mpr c25
    obtain rfl := Option.some.inj H
    have p121 : 0 ≤ (x17_2 : Int) := oT (by first | (with_reducible assumption) | assumption)
    have q121 : x17_2 < (l1.length : Int) := oT (by first | (with_reducible assumption) | assumption)
    obtain ⟨ad121, e121, hx121_0⟩ := Kd.at_int HR1.out x17_2 p121 q121
    cases e121
    replace hx121_0 := hcb HB.out hx121_0
    replace p121 := eq_true p121
    replace q121 := eq_true q121
    try go_wp2
    replace BK119 := ak (blk_drew BK119.out)
    replace HB := ak (below_drew1 HB.out)
    have p123 : 0 ≤ ((ji18) : Int) := oT (by first | (with_reducible assumption) | assumption)
    have q123 : (ji18) < (l1.length : Int) := oT (by first | (with_reducible assumption) | assumption)
    obtain ⟨ad123, e123, hx123_0⟩ := Kd.at_int HR1.out (ji18) p123 q123
    have hw123_0 := hx123_0
    obtain rfl : ad121 = ad123 := (by injection e123)
    replace hx123_0 := hcb HB.out hx123_0
    replace p123 := eq_true p123
    replace q123 := eq_true q123
    have p124 : 0 ≤ ((rd l1 (ji18)) : Int) := oT (by first | (with_reducible assumption) | assumption)
    have q124 : (rd l1 (ji18)) < (l0_1.length : Int) := oT (by first | (with_reducible assumption) | assumption)
    obtain ⟨ad124, e124, hx124_0, hx124_1, hx124_2, hx124_3, hx124_4⟩ := at_T33 HR0_1.out (rd l1 (ji18)) p124 q124
    have hw124_4 := hx124_4
    have hw124_3 := hx124_3
    have hw124_2 := hx124_2
    have hw124_1 := hx124_1
    have hw124_0 := hx124_0
    cases e124
    replace hx124_0 := hcb HB.out hx124_0
    replace hx124_1 := hcb HB.out hx124_1
    replace hx124_2 := hcb HB.out hx124_2
    replace hx124_3 := hcb HB.out hx124_3
    replace hx124_4 := hcb HB.out hx124_4
    replace p124 := eq_true p124
    replace q124 := eq_true q124
    have p125 : 0 ≤ ((rd l1 x17_2) : Int) := oT (by first | (with_reducible assumption) | assumption)
    have q125 : (rd l1 x17_2) < (l0_1.length : Int) := oT (by first | (with_reducible assumption) | assumption)
    obtain ⟨ad125, e125, hx125_0, hx125_1, hx125_2, hx125_3, hx125_4⟩ := at_T33 HR0_1.out (rd l1 x17_2) p125 q125
    have hw125_4 := hx125_4
    have hw125_3 := hx125_3
    have hw125_2 := hx125_2
    have hw125_1 := hx125_1
    have hw125_0 := hx125_0
    obtain rfl : ad124 = ad125 := (by injection e125)
    replace hx125_0 := hcb HB.out hx125_0
    replace hx125_1 := hcb HB.out hx125_1
    replace hx125_2 := hcb HB.out hx125_2
    replace hx125_3 := hcb HB.out hx125_3
    replace hx125_4 := hcb HB.out hx125_4
    replace p125 := eq_true p125
    replace q125 := eq_true q125
    refine start_ (n := 30) (S := fun w' => w'.cell? ⟨gb119, 0, none⟩ = some (.int .i64 a0_0) ∧ w'.cell? ⟨gb119, 1, none⟩ = some (.slice (some ad124) l0_1.length c0_1) ∧ w'.cell? (ad121.add ((ji18)).toNat) = some (.int .i64 (rd l1 (ji18))) ∧ w'.cell? (ad124.add (((rd l1 (ji18))).toNat * 5)) = some (.int .i64 ((rd_T33 l0_1 (rd l1 (ji18))).f0)) ∧ w'.cell? ⟨(ad124.add (((rd l1 (ji18))).toNat * 5)).block, (ad124.add (((rd l1 (ji18))).toNat * 5)).off + 1, none⟩ = some (.int .i64 ((rd_T33 l0_1 (rd l1 (ji18))).f1)) ∧ w'.cell? ⟨(ad124.add (((rd l1 (ji18))).toNat * 5)).block, (ad124.add (((rd l1 (ji18))).toNat * 5)).off + 2, none⟩ = some (.int .i64 ((rd_T33 l0_1 (rd l1 (ji18))).f2)) ∧ w'.cell? ⟨(ad124.add (((rd l1 (ji18))).toNat * 5)).block, (ad124.add (((rd l1 (ji18))).toNat * 5)).off + 3, none⟩ = some (.int .i64 ((rd_T33 l0_1 (rd l1 (ji18))).f3)) ∧ w'.cell? ⟨(ad124.add (((rd l1 (ji18))).toNat * 5)).block, (ad124.add (((rd l1 (ji18))).toNat * 5)).off + 4, none⟩ = some (.int .i64 ((rd_T33 l0_1 (rd l1 (ji18))).f4)) ∧ w'.cell? (ad124.add (((rd l1 x17_2)).toNat * 5)) = some (.int .i64 ((rd_T33 l0_1 (rd l1 x17_2)).f0)) ∧ w'.cell? ⟨(ad124.add (((rd l1 x17_2)).toNat * 5)).block, (ad124.add (((rd l1 x17_2)).toNat * 5)).off + 1, none⟩ = some (.int .i64 ((rd_T33 l0_1 (rd l1 x17_2)).f1)) ∧ w'.cell? ⟨(ad124.add (((rd l1 x17_2)).toNat * 5)).block, (ad124.add (((rd l1 x17_2)).toNat * 5)).off + 2, none⟩ = some (.int .i64 ((rd_T33 l0_1 (rd l1 x17_2)).f2)) ∧ w'.cell? ⟨(ad124.add (((rd l1 x17_2)).toNat * 5)).block, (ad124.add (((rd l1 x17_2)).toNat * 5)).off + 3, none⟩ = some (.int .i64 ((rd_T33 l0_1 (rd l1 x17_2)).f3)) ∧ w'.cell? ⟨(ad124.add (((rd l1 x17_2)).toNat * 5)).block, (ad124.add (((rd l1 x17_2)).toNat * 5)).off + 4, none⟩ = some (.int .i64 ((rd_T33 l0_1 (rd l1 x17_2)).f4))) (ds := []) (ms 30 0) (by kernel_rfl) rfl (by kernel_rfl) ⟨(blk_cell BK119.out 0).trans rfl, (blk_cell BK119.out 1).trans rfl, ((HB.out.cell (World.block_lt_of_cell? w _ hw123_0)).trans hw123_0), ((HB.out.cell (World.block_lt_of_cell? w _ hw124_0)).trans hw124_0), ((HB.out.cell (World.block_lt_of_cell? w _ hw124_1)).trans hw124_1), ((HB.out.cell (World.block_lt_of_cell? w _ hw124_2)).trans hw124_2), ((HB.out.cell (World.block_lt_of_cell? w _ hw124_3)).trans hw124_3), ((HB.out.cell (World.block_lt_of_cell? w _ hw124_4)).trans hw124_4), ((HB.out.cell (World.block_lt_of_cell? w _ hw125_0)).trans hw125_0), ((HB.out.cell (World.block_lt_of_cell? w _ hw125_1)).trans hw125_1), ((HB.out.cell (World.block_lt_of_cell? w _ hw125_2)).trans hw125_2), ((HB.out.cell (World.block_lt_of_cell? w _ hw125_3)).trans hw125_3), ((HB.out.cell (World.block_lt_of_cell? w _ hw125_4)).trans hw125_4)⟩ (fun hHeld => ?_); refine with_tabW impl_WalkOk.tab6 impl_WalkOk.bits6 (fun HT_ HW_ => ?_)
    generalize wr.drew = w27 at BK119 HB hx123_0 hx124_0 hx124_1 hx124_2 hx124_3 hx124_4 hx125_0 hx125_1 hx125_2 hx125_3 hx125_4 hHeld ⊢
    refine pu 0 22 ?_ (ms 30 1) rfl rfl HT_ (by kernel_rfl) (fun _ _ _ h => h) (by rfl) ?_ ?_ ?_ ?_
    rotate_left
    ·intro w'
     go_simp
     with_reducible rfl
    rotate_left
    ·simp only [SX]
     rfl
    refine pu 1 23 ?_ (ms 30 3) rfl rfl HT_ (by kernel_rfl) (fun _ _ _ h => h) (by rfl) ?_ ?_ ?_ ?_
    rotate_left
    ·intro w'
     go_simp
     with_reducible rfl
    rotate_left
    ·simp only [SX]
     rfl
    refine tk 2 24 ?_ (ms 30 7) rfl rfl HT_ HW_ (by kernel_rfl) (fun _ _ _ h => h) (by rfl) ?_ hHeld ?_ ?_ ?_
    rotate_left
    ·rintro w' ⟨s0, s1, s2, s3, s4, s5, s6, s7, s8, s9, s10, s11, s12⟩
     go_simp
     with_reducible rfl
    rotate_left
    ·simp only [SX]
     rfl
    refine pu 3 25 ?_ (ms 30 15) rfl rfl HT_ (by kernel_rfl) (fun _ _ _ h => h) (by rfl) ?_ ?_ ?_ ?_
    rotate_left
    ·intro w'
     go_simp
     with_reducible rfl
    rotate_left
    ·simp only [SX]
     rfl
    refine pu 4 26 ?_ (ms 30 31) rfl rfl HT_ (by kernel_rfl) (fun _ _ _ h => h) (by rfl) ?_ ?_ ?_ ?_
    rotate_left
    ·intro w'
     go_simp
     with_reducible rfl
    rotate_left
    ·simp only [SX]
     rfl
    refine one_ (i := 5) (N := some 27) (ms 30 63) rfl rfl (one_of HT_.out (by kernel_rfl)) (by decide) (fun K hK => ?_)
    refine goes_ Try.func41 (by kernel_rfl) rfl #[.int .i64 (rd l1 x17_2), .int .i64 0, .int .i64 (wrap64 ((l0_1.length : Int) - 1))] (by rfl) rfl rfl (by (try simp only [List.map_toArray, List.map_cons, List.map_nil]); first | done | rfl | (simp only [List.length_drop, List.length_take]; rfl)) ?_
    with_reducible refine (impl_within.calls (rd l1 x17_2) 0 (wrap64 ((l0_1.length : Int) - 1)) true _ A15.out).mono ?_
    rintro e w' ⟨rfl, ⟨nd, rfl⟩⟩
    refine ⟨_, rfl, ?_⟩
    refine hK.out _ _ ⟨(blk_cell BK119.out 0).trans rfl, (blk_cell BK119.out 1).trans rfl, ((HB.out.cell (World.block_lt_of_cell? w _ hw123_0)).trans hw123_0), ((HB.out.cell (World.block_lt_of_cell? w _ hw124_0)).trans hw124_0), ((HB.out.cell (World.block_lt_of_cell? w _ hw124_1)).trans hw124_1), ((HB.out.cell (World.block_lt_of_cell? w _ hw124_2)).trans hw124_2), ((HB.out.cell (World.block_lt_of_cell? w _ hw124_3)).trans hw124_3), ((HB.out.cell (World.block_lt_of_cell? w _ hw124_4)).trans hw124_4), ((HB.out.cell (World.block_lt_of_cell? w _ hw125_0)).trans hw125_0), ((HB.out.cell (World.block_lt_of_cell? w _ hw125_1)).trans hw125_1), ((HB.out.cell (World.block_lt_of_cell? w _ hw125_2)).trans hw125_2), ((HB.out.cell (World.block_lt_of_cell? w _ hw125_3)).trans hw125_3), ((HB.out.cell (World.block_lt_of_cell? w _ hw125_4)).trans hw125_4)⟩ (fun hHeld => ?_)
    clear hK K
    refine norm_ (a' := ?_) ?_ ?_
    rotate_left
    ·show Act.put _ (some 27) _ = _
     simp only [SX]
     rfl
    refine pu 6 28 ?_ (ms 30 127) rfl rfl HT_ (by kernel_rfl) (fun _ _ _ h => h) (by rfl) ?_ ?_ ?_ ?_
    rotate_left
    ·intro w'
     go_simp
     with_reducible rfl
    rotate_left
    ·simp only [SX]
     rfl
    refine pu 7 29 ?_ (ms 30 255) rfl rfl HT_ (by kernel_rfl) (fun _ _ _ h => h) (by rfl) ?_ ?_ ?_ ?_
    rotate_left
    ·intro w'
     go_simp
     with_reducible rfl
    rotate_left
    ·simp only [SX]
     rfl
    refine pu 8 30 ?_ (ms 30 511) rfl rfl HT_ (by kernel_rfl) (fun _ _ _ h => h) (by rfl) ?_ ?_ ?_ ?_
    rotate_left
    ·intro w'
     go_simp
     with_reducible rfl
    rotate_left
    ·simp only [SX]
     rfl
    refine pu 9 31 ?_ (ms 30 1023) rfl rfl HT_ (by kernel_rfl) (fun _ _ _ h => h) (by rfl) ?_ ?_ ?_ ?_
    rotate_left
    ·intro w'
     go_simp
     with_reducible rfl
    rotate_left
    ·simp only [SX]
     rfl
    refine pu 10 32 ?_ (ms 30 2047) rfl rfl HT_ (by kernel_rfl) (fun _ _ _ h => h) (by rfl) ?_ ?_ ?_ ?_
    rotate_left
    ·intro w'
     go_simp
     with_reducible rfl
    rotate_left
    ·simp only [SX]
     rfl
    refine pu 11 33 ?_ (ms 30 4095) rfl rfl HT_ (by kernel_rfl) (fun _ _ _ h => h) (by rfl) ?_ ?_ ?_ ?_
    rotate_left
    ·intro w'
     go_simp
     with_reducible rfl
    rotate_left
    ·simp only [SX]
     rfl
    refine pu 13 35 ?_ (ms 30 12287) rfl rfl HT_ (by kernel_rfl) (fun _ _ _ h => h) (by rfl) ?_ ?_ ?_ ?_
    rotate_left
    ·intro w'
     go_simp
     with_reducible rfl
    rotate_left
    ·simp only [SX]
     rfl
    refine pu 14 36 ?_ (ms 30 28671) rfl rfl HT_ (by kernel_rfl) (fun _ _ _ h => h) (by rfl) ?_ ?_ ?_ ?_
    rotate_left
    ·intro w'
     go_simp
     with_reducible rfl
    rotate_left
    ·simp only [SX]
     rfl
    refine pu 15 37 ?_ (ms 30 61439) rfl rfl HT_ (by kernel_rfl) (fun _ _ _ h => h) (by rfl) ?_ ?_ ?_ ?_
    rotate_left
    ·intro w'
     go_simp
     with_reducible rfl
    rotate_left
    ·simp only [SX]
     rfl
    refine pu 16 38 ?_ (ms 30 126975) rfl rfl HT_ (by kernel_rfl) (fun _ _ _ h => h) (by rfl) ?_ ?_ ?_ ?_
    rotate_left
    ·intro w'
     go_simp
     with_reducible rfl
    rotate_left
    ·simp only [SX]
     rfl
    refine pu 21 43 ?_ (ms 30 2224127) rfl rfl HT_ (by kernel_rfl) (fun _ _ _ h => h) (by rfl) ?_ ?_ ?_ ?_
    rotate_left
    ·intro w'
     go_simp
     with_reducible rfl
    rotate_left
    ·simp only [SX]
     rfl
    refine pu 23 45 ?_ (ms 30 10612735) rfl rfl HT_ (by kernel_rfl) (fun _ _ _ h => h) (by rfl) ?_ ?_ ?_ ?_
    rotate_left
    ·intro w'
     go_simp
     with_reducible rfl
    rotate_left
    ·simp only [SX]
     rfl
    refine tk 12 34 ?_ (ms 30 10616831) rfl rfl HT_ HW_ (by kernel_rfl) (fun _ _ _ h => h) (by rfl) ?_ hHeld ?_ ?_ ?_
    rotate_left
    ·rintro w' ⟨s0, s1, s2, s3, s4, s5, s6, s7, s8, s9, s10, s11, s12⟩
     go_simp
     with_reducible rfl
    rotate_left
    ·simp only [SX]
     rfl
    refine tk 17 39 ?_ (ms 30 10747903) rfl rfl HT_ HW_ (by kernel_rfl) (fun _ _ _ h => h) (by rfl) ?_ hHeld ?_ ?_ ?_
    rotate_left
    ·rintro w' ⟨s0, s1, s2, s3, s4, s5, s6, s7, s8, s9, s10, s11, s12⟩
     go_simp
     with_reducible rfl
    rotate_left
    ·simp only [SX]
     rfl
    refine pu 18 40 ?_ (ms 30 11010047) rfl rfl HT_ (by kernel_rfl) (fun _ _ _ h => h) (by rfl) ?_ ?_ ?_ ?_
    rotate_left
    ·intro w'
     go_simp
     with_reducible rfl
    rotate_left
    ·simp only [SX]
     rfl
    refine pu 19 41 ?_ (ms 30 11534335) rfl rfl HT_ (by kernel_rfl) (fun _ _ _ h => h) (by rfl) ?_ ?_ ?_ ?_
    rotate_left
    ·intro w'
     go_simp
     with_reducible rfl
    rotate_left
    ·simp only [SX]
     rfl
    refine tk 20 42 ?_ (ms 30 12582911) rfl rfl HT_ HW_ (by kernel_rfl) (fun _ _ _ h => h) (by rfl) ?_ hHeld ?_ ?_ ?_
    rotate_left
    ·rintro w' ⟨s0, s1, s2, s3, s4, s5, s6, s7, s8, s9, s10, s11, s12⟩
     go_simp
     with_reducible rfl
    rotate_left
    ·simp only [SX]
     rfl
    refine tk 22 44 ?_ (ms 30 16777215) rfl rfl HT_ HW_ (by kernel_rfl) (fun _ _ _ h => h) (by rfl) ?_ hHeld ?_ ?_ ?_
    rotate_left
    ·rintro w' ⟨s0, s1, s2, s3, s4, s5, s6, s7, s8, s9, s10, s11, s12⟩
     go_simp
     with_reducible rfl
    rotate_left
    ·simp only [SX]
     rfl
    refine pu 24 46 ?_ (ms 30 33554431) rfl rfl HT_ (by kernel_rfl) (fun _ _ _ h => h) (by rfl) ?_ ?_ ?_ ?_
    rotate_left
    ·intro w'
     go_simp
     with_reducible rfl
    rotate_left
    ·simp only [SX]
     rfl
    refine pu 25 47 ?_ (ms 30 67108863) rfl rfl HT_ (by kernel_rfl) (fun _ _ _ h => h) (by rfl) ?_ ?_ ?_ ?_
    rotate_left
    ·intro w'
     go_simp
     with_reducible rfl
    rotate_left
    ·simp only [SX]
     rfl
    refine tk 26 48 ?_ (ms 30 134217727) rfl rfl HT_ HW_ (by kernel_rfl) (fun _ _ _ h => h) (by rfl) ?_ hHeld ?_ ?_ ?_
    rotate_left
    ·rintro w' ⟨s0, s1, s2, s3, s4, s5, s6, s7, s8, s9, s10, s11, s12⟩
     go_simp
     with_reducible rfl
    rotate_left
    ·simp only [SX]
     rfl
    refine pu 27 49 ?_ (ms 30 268435455) rfl rfl HT_ (by kernel_rfl) (fun _ _ _ h => h) (by rfl) ?_ ?_ ?_ ?_
    rotate_left
    ·intro w'
     go_simp
     with_reducible rfl
    rotate_left
    ·simp only [SX]
     rfl
    refine pu 28 50 ?_ (ms 30 536870911) rfl rfl HT_ (by kernel_rfl) (fun _ _ _ h => h) (by rfl) ?_ ?_ ?_ ?_
    rotate_left
    ·intro w'
     go_simp
     with_reducible rfl
    rotate_left
    ·simp only [SX]
     rfl
    refine pu 29 51 ?_ (ms 30 1073741823) rfl rfl HT_ (by kernel_rfl) (fun _ _ _ h => h) (by rfl) ?_ ?_ ?_ ?_
    rotate_left
    ·intro w'
     go_simp
     with_reducible rfl
    rotate_left
    ·simp only [SX]
     rfl
    refine done_ (done_of HT_.out (by kernel_rfl)) ?_
    try go_wp2
    go_ret
    exact ⟨by first | rfl | (simp [errW_none, errW_some] <;> rfl) | (simp only [← hji18]; first | rfl | (simp [errW_none, errW_some] <;> rfl)) | (simp [*, errW_none, errW_some] <;> rfl), bl1 HB GE119⟩
   rw [if_pos c25] at H
   have c25b0 : (((rd_T33 l0_1 (rd l1 (ji18))).f1) == ((rd_T33 l0_1 (rd l1 x17_2)).f0)) = true := beq_iff_eq.mpr c25
   have c25b1 : (((rd_T33 l0_1 (rd l1 (ji18))).f1) != ((rd_T33 l0_1 (rd l1 x17_2)).f0)) = false := bne_eq_false_iff_eq.mpr c25
   clear c25
   have H' := ak H
   clear H
   have p121 : 0 ≤ (x17_2 : Int) := oT (by first | (with_reducible assumption) | assumption)
   have q121 : x17_2 < (l1.length : Int) := oT (by first | (with_reducible assumption) | assumption)
   obtain ⟨ad121, e121, hx121_0⟩ := Kd.at_int HR1.out x17_2 p121 q121
   cases e121
   replace hx121_0 := hcb HB.out hx121_0
   replace p121 := eq_true p121
   replace q121 := eq_true q121
   try go_wp2
   replace BK119 := ak (blk_drew BK119.out)
   replace HB := ak (below_drew1 HB.out)
   have p123 : 0 ≤ ((ji18) : Int) := oT (by first | (with_reducible assumption) | assumption)
   have q123 : (ji18) < (l1.length : Int) := oT (by first | (with_reducible assumption) | assumption)
   obtain ⟨ad123, e123, hx123_0⟩ := Kd.at_int HR1.out (ji18) p123 q123
   have hw123_0 := hx123_0
   obtain rfl : ad121 = ad123 := (by injection e123)
   replace hx123_0 := hcb HB.out hx123_0
   replace p123 := eq_true p123
   replace q123 := eq_true q123
   have p124 : 0 ≤ ((rd l1 (ji18)) : Int) := oT (by first | (with_reducible assumption) | assumption)
   have q124 : (rd l1 (ji18)) < (l0_1.length : Int) := oT (by first | (with_reducible assumption) | assumption)
   obtain ⟨ad124, e124, hx124_0, hx124_1, hx124_2, hx124_3, hx124_4⟩ := at_T33 HR0_1.out (rd l1 (ji18)) p124 q124
   have hw124_4 := hx124_4
   have hw124_3 := hx124_3
   have hw124_2 := hx124_2
   have hw124_1 := hx124_1
   have hw124_0 := hx124_0
   cases e124
   replace hx124_0 := hcb HB.out hx124_0
   replace hx124_1 := hcb HB.out hx124_1
   replace hx124_2 := hcb HB.out hx124_2
   replace hx124_3 := hcb HB.out hx124_3
   replace hx124_4 := hcb HB.out hx124_4
   replace p124 := eq_true p124
   replace q124 := eq_true q124
   have p125 : 0 ≤ ((rd l1 x17_2) : Int) := oT (by first | (with_reducible assumption) | assumption)
   have q125 : (rd l1 x17_2) < (l0_1.length : Int) := oT (by first | (with_reducible assumption) | assumption)
   obtain ⟨ad125, e125, hx125_0, hx125_1, hx125_2, hx125_3, hx125_4⟩ := at_T33 HR0_1.out (rd l1 x17_2) p125 q125
   have hw125_4 := hx125_4
   have hw125_3 := hx125_3
   have hw125_2 := hx125_2
   have hw125_1 := hx125_1
   have hw125_0 := hx125_0
   obtain rfl : ad124 = ad125 := (by injection e125)
   replace hx125_0 := hcb HB.out hx125_0
   replace hx125_1 := hcb HB.out hx125_1
   replace hx125_2 := hcb HB.out hx125_2
   replace hx125_3 := hcb HB.out hx125_3
   replace hx125_4 := hcb HB.out hx125_4
   replace p125 := eq_true p125
   replace q125 := eq_true q125
   refine start_ (n := 30) (S := fun w' => w'.cell? ⟨gb119, 0, none⟩ = some (.int .i64 a0_0) ∧ w'.cell? ⟨gb119, 1, none⟩ = some (.slice (some ad124) l0_1.length c0_1) ∧ w'.cell? (ad121.add ((ji18)).toNat) = some (.int .i64 (rd l1 (ji18))) ∧ w'.cell? (ad124.add (((rd l1 (ji18))).toNat * 5)) = some (.int .i64 ((rd_T33 l0_1 (rd l1 (ji18))).f0)) ∧ w'.cell? ⟨(ad124.add (((rd l1 (ji18))).toNat * 5)).block, (ad124.add (((rd l1 (ji18))).toNat * 5)).off + 1, none⟩ = some (.int .i64 ((rd_T33 l0_1 (rd l1 (ji18))).f1)) ∧ w'.cell? ⟨(ad124.add (((rd l1 (ji18))).toNat * 5)).block, (ad124.add (((rd l1 (ji18))).toNat * 5)).off + 2, none⟩ = some (.int .i64 ((rd_T33 l0_1 (rd l1 (ji18))).f2)) ∧ w'.cell? ⟨(ad124.add (((rd l1 (ji18))).toNat * 5)).block, (ad124.add (((rd l1 (ji18))).toNat * 5)).off + 3, none⟩ = some (.int .i64 ((rd_T33 l0_1 (rd l1 (ji18))).f3)) ∧ w'.cell? ⟨(ad124.add (((rd l1 (ji18))).toNat * 5)).block, (ad124.add (((rd l1 (ji18))).toNat * 5)).off + 4, none⟩ = some (.int .i64 ((rd_T33 l0_1 (rd l1 (ji18))).f4)) ∧ w'.cell? (ad124.add (((rd l1 x17_2)).toNat * 5)) = some (.int .i64 ((rd_T33 l0_1 (rd l1 x17_2)).f0)) ∧ w'.cell? ⟨(ad124.add (((rd l1 x17_2)).toNat * 5)).block, (ad124.add (((rd l1 x17_2)).toNat * 5)).off + 1, none⟩ = some (.int .i64 ((rd_T33 l0_1 (rd l1 x17_2)).f1)) ∧ w'.cell? ⟨(ad124.add (((rd l1 x17_2)).toNat * 5)).block, (ad124.add (((rd l1 x17_2)).toNat * 5)).off + 2, none⟩ = some (.int .i64 ((rd_T33 l0_1 (rd l1 x17_2)).f2)) ∧ w'.cell? ⟨(ad124.add (((rd l1 x17_2)).toNat * 5)).block, (ad124.add (((rd l1 x17_2)).toNat * 5)).off + 3, none⟩ = some (.int .i64 ((rd_T33 l0_1 (rd l1 x17_2)).f3)) ∧ w'.cell? ⟨(ad124.add (((rd l1 x17_2)).toNat * 5)).block, (ad124.add (((rd l1 x17_2)).toNat * 5)).off + 4, none⟩ = some (.int .i64 ((rd_T33 l0_1 (rd l1 x17_2)).f4))) (ds := []) (ms 30 0) (by kernel_rfl) rfl (by kernel_rfl) ⟨(blk_cell BK119.out 0).trans rfl, (blk_cell BK119.out 1).trans rfl, ((HB.out.cell (World.block_lt_of_cell? w _ hw123_0)).trans hw123_0), ((HB.out.cell (World.block_lt_of_cell? w _ hw124_0)).trans hw124_0), ((HB.out.cell (World.block_lt_of_cell? w _ hw124_1)).trans hw124_1), ((HB.out.cell (World.block_lt_of_cell? w _ hw124_2)).trans hw124_2), ((HB.out.cell (World.block_lt_of_cell? w _ hw124_3)).trans hw124_3), ((HB.out.cell (World.block_lt_of_cell? w _ hw124_4)).trans hw124_4), ((HB.out.cell (World.block_lt_of_cell? w _ hw125_0)).trans hw125_0), ((HB.out.cell (World.block_lt_of_cell? w _ hw125_1)).trans hw125_1), ((HB.out.cell (World.block_lt_of_cell? w _ hw125_2)).trans hw125_2), ((HB.out.cell (World.block_lt_of_cell? w _ hw125_3)).trans hw125_3), ((HB.out.cell (World.block_lt_of_cell? w _ hw125_4)).trans hw125_4)⟩ (fun hHeld => ?_); refine with_tabW impl_WalkOk.tab6 impl_WalkOk.bits6 (fun HT_ HW_ => ?_)
   generalize wr.drew = w26 at BK119 HB hx123_0 hx124_0 hx124_1 hx124_2 hx124_3 hx124_4 hx125_0 hx125_1 hx125_2 hx125_3 hx125_4 hHeld ⊢
   refine pu 0 22 ?_ (ms 30 1) rfl rfl HT_ (by kernel_rfl) (fun _ _ _ h => h) (by rfl) ?_ ?_ ?_ ?_
   rotate_left
   ·intro w'
    go_simp
    with_reducible rfl
   rotate_left
   ·simp only [SX]
    rfl
   refine pu 1 23 ?_ (ms 30 3) rfl rfl HT_ (by kernel_rfl) (fun _ _ _ h => h) (by rfl) ?_ ?_ ?_ ?_
   rotate_left
   ·intro w'
    go_simp
    with_reducible rfl
   rotate_left
   ·simp only [SX]
    rfl
   refine tk 2 24 ?_ (ms 30 7) rfl rfl HT_ HW_ (by kernel_rfl) (fun _ _ _ h => h) (by rfl) ?_ hHeld ?_ ?_ ?_
   rotate_left
   ·rintro w' ⟨s0, s1, s2, s3, s4, s5, s6, s7, s8, s9, s10, s11, s12⟩
    go_simp
    with_reducible rfl
   rotate_left
   ·simp only [SX]
    rfl
   refine pu 3 25 ?_ (ms 30 15) rfl rfl HT_ (by kernel_rfl) (fun _ _ _ h => h) (by rfl) ?_ ?_ ?_ ?_
   rotate_left
   ·intro w'
    go_simp
    with_reducible rfl
   rotate_left
   ·simp only [SX]
    rfl
   refine pu 4 26 ?_ (ms 30 31) rfl rfl HT_ (by kernel_rfl) (fun _ _ _ h => h) (by rfl) ?_ ?_ ?_ ?_
   rotate_left
   ·intro w'
    go_simp
    with_reducible rfl
   rotate_left
   ·simp only [SX]
    rfl
   refine one_ (i := 5) (N := some 27) (ms 30 63) rfl rfl (one_of HT_.out (by kernel_rfl)) (by decide) (fun K hK => ?_)
   refine goes_ Try.func41 (by kernel_rfl) rfl #[.int .i64 (rd l1 x17_2), .int .i64 0, .int .i64 (wrap64 ((l0_1.length : Int) - 1))] (by rfl) rfl rfl (by (try simp only [List.map_toArray, List.map_cons, List.map_nil]); first | done | rfl | (simp only [List.length_drop, List.length_take]; rfl)) ?_
   with_reducible refine (impl_within.calls (rd l1 x17_2) 0 (wrap64 ((l0_1.length : Int) - 1)) true _ A15.out).mono ?_
   rintro e w' ⟨rfl, ⟨nd, rfl⟩⟩
   refine ⟨_, rfl, ?_⟩
   refine hK.out _ _ ⟨(blk_cell BK119.out 0).trans rfl, (blk_cell BK119.out 1).trans rfl, ((HB.out.cell (World.block_lt_of_cell? w _ hw123_0)).trans hw123_0), ((HB.out.cell (World.block_lt_of_cell? w _ hw124_0)).trans hw124_0), ((HB.out.cell (World.block_lt_of_cell? w _ hw124_1)).trans hw124_1), ((HB.out.cell (World.block_lt_of_cell? w _ hw124_2)).trans hw124_2), ((HB.out.cell (World.block_lt_of_cell? w _ hw124_3)).trans hw124_3), ((HB.out.cell (World.block_lt_of_cell? w _ hw124_4)).trans hw124_4), ((HB.out.cell (World.block_lt_of_cell? w _ hw125_0)).trans hw125_0), ((HB.out.cell (World.block_lt_of_cell? w _ hw125_1)).trans hw125_1), ((HB.out.cell (World.block_lt_of_cell? w _ hw125_2)).trans hw125_2), ((HB.out.cell (World.block_lt_of_cell? w _ hw125_3)).trans hw125_3), ((HB.out.cell (World.block_lt_of_cell? w _ hw125_4)).trans hw125_4)⟩ (fun hHeld => ?_)
   clear hK K
   refine norm_ (a' := ?_) ?_ ?_
   rotate_left
   ·show Act.put _ (some 27) _ = _
    simp only [SX]
    rfl
   refine pu 6 28 ?_ (ms 30 127) rfl rfl HT_ (by kernel_rfl) (fun _ _ _ h => h) (by rfl) ?_ ?_ ?_ ?_
   rotate_left
   ·intro w'
    go_simp
    with_reducible rfl
   rotate_left
   ·simp only [SX]
    rfl
   refine pu 7 29 ?_ (ms 30 255) rfl rfl HT_ (by kernel_rfl) (fun _ _ _ h => h) (by rfl) ?_ ?_ ?_ ?_
   rotate_left
   ·intro w'
    go_simp
    with_reducible rfl
   rotate_left
   ·simp only [SX]
    rfl
   refine pu 8 30 ?_ (ms 30 511) rfl rfl HT_ (by kernel_rfl) (fun _ _ _ h => h) (by rfl) ?_ ?_ ?_ ?_
   rotate_left
   ·intro w'
    go_simp
    with_reducible rfl
   rotate_left
   ·simp only [SX]
    rfl
   refine pu 9 31 ?_ (ms 30 1023) rfl rfl HT_ (by kernel_rfl) (fun _ _ _ h => h) (by rfl) ?_ ?_ ?_ ?_
   rotate_left
   ·intro w'
    go_simp
    with_reducible rfl
   rotate_left
   ·simp only [SX]
    rfl
   refine pu 10 32 ?_ (ms 30 2047) rfl rfl HT_ (by kernel_rfl) (fun _ _ _ h => h) (by rfl) ?_ ?_ ?_ ?_
   rotate_left
   ·intro w'
    go_simp
    with_reducible rfl
   rotate_left
   ·simp only [SX]
    rfl
   refine pu 11 33 ?_ (ms 30 4095) rfl rfl HT_ (by kernel_rfl) (fun _ _ _ h => h) (by rfl) ?_ ?_ ?_ ?_
   rotate_left
   ·intro w'
    go_simp
    with_reducible rfl
   rotate_left
   ·simp only [SX]
    rfl
   refine pu 13 35 ?_ (ms 30 12287) rfl rfl HT_ (by kernel_rfl) (fun _ _ _ h => h) (by rfl) ?_ ?_ ?_ ?_
   rotate_left
   ·intro w'
    go_simp
    with_reducible rfl
   rotate_left
   ·simp only [SX]
    rfl
   refine pu 14 36 ?_ (ms 30 28671) rfl rfl HT_ (by kernel_rfl) (fun _ _ _ h => h) (by rfl) ?_ ?_ ?_ ?_
   rotate_left
   ·intro w'
    go_simp
    with_reducible rfl
   rotate_left
   ·simp only [SX]
    rfl
   refine pu 15 37 ?_ (ms 30 61439) rfl rfl HT_ (by kernel_rfl) (fun _ _ _ h => h) (by rfl) ?_ ?_ ?_ ?_
   rotate_left
   ·intro w'
    go_simp
    with_reducible rfl
   rotate_left
   ·simp only [SX]
    rfl
   refine pu 16 38 ?_ (ms 30 126975) rfl rfl HT_ (by kernel_rfl) (fun _ _ _ h => h) (by rfl) ?_ ?_ ?_ ?_
   rotate_left
   ·intro w'
    go_simp
    with_reducible rfl
   rotate_left
   ·simp only [SX]
    rfl
   refine pu 21 43 ?_ (ms 30 2224127) rfl rfl HT_ (by kernel_rfl) (fun _ _ _ h => h) (by rfl) ?_ ?_ ?_ ?_
   rotate_left
   ·intro w'
    go_simp
    with_reducible rfl
   rotate_left
   ·simp only [SX]
    rfl
   refine pu 23 45 ?_ (ms 30 10612735) rfl rfl HT_ (by kernel_rfl) (fun _ _ _ h => h) (by rfl) ?_ ?_ ?_ ?_
   rotate_left
   ·intro w'
    go_simp
    with_reducible rfl
   rotate_left
   ·simp only [SX]
    rfl
   refine tk 12 34 ?_ (ms 30 10616831) rfl rfl HT_ HW_ (by kernel_rfl) (fun _ _ _ h => h) (by rfl) ?_ hHeld ?_ ?_ ?_
   rotate_left
   ·rintro w' ⟨s0, s1, s2, s3, s4, s5, s6, s7, s8, s9, s10, s11, s12⟩
    go_simp
    with_reducible rfl
   rotate_left
   ·simp only [SX]
    rfl
   refine tk 17 39 ?_ (ms 30 10747903) rfl rfl HT_ HW_ (by kernel_rfl) (fun _ _ _ h => h) (by rfl) ?_ hHeld ?_ ?_ ?_
   rotate_left
   ·rintro w' ⟨s0, s1, s2, s3, s4, s5, s6, s7, s8, s9, s10, s11, s12⟩
    go_simp
    with_reducible rfl
   rotate_left
   ·simp only [SX]
    rfl
   refine pu 18 40 ?_ (ms 30 11010047) rfl rfl HT_ (by kernel_rfl) (fun _ _ _ h => h) (by rfl) ?_ ?_ ?_ ?_
   rotate_left
   ·intro w'
    go_simp
    with_reducible rfl
   rotate_left
   ·simp only [SX]
    rfl
   refine pu 19 41 ?_ (ms 30 11534335) rfl rfl HT_ (by kernel_rfl) (fun _ _ _ h => h) (by rfl) ?_ ?_ ?_ ?_
   rotate_left
   ·intro w'
    go_simp
    with_reducible rfl
   rotate_left
   ·simp only [SX]
    rfl
   refine tk 20 42 ?_ (ms 30 12582911) rfl rfl HT_ HW_ (by kernel_rfl) (fun _ _ _ h => h) (by rfl) ?_ hHeld ?_ ?_ ?_
   rotate_left
   ·rintro w' ⟨s0, s1, s2, s3, s4, s5, s6, s7, s8, s9, s10, s11, s12⟩
    go_simp
    with_reducible rfl
   rotate_left
   ·simp only [SX]
    rfl
   refine tk 22 44 ?_ (ms 30 16777215) rfl rfl HT_ HW_ (by kernel_rfl) (fun _ _ _ h => h) (by rfl) ?_ hHeld ?_ ?_ ?_
   rotate_left
   ·rintro w' ⟨s0, s1, s2, s3, s4, s5, s6, s7, s8, s9, s10, s11, s12⟩
    go_simp
    with_reducible rfl
   rotate_left
   ·simp only [SX]
    rfl
   refine pu 24 46 ?_ (ms 30 33554431) rfl rfl HT_ (by kernel_rfl) (fun _ _ _ h => h) (by rfl) ?_ ?_ ?_ ?_
   rotate_left
   ·intro w'
    go_simp
    with_reducible rfl
   rotate_left
   ·simp only [SX]
    rfl
   refine pu 25 47 ?_ (ms 30 67108863) rfl rfl HT_ (by kernel_rfl) (fun _ _ _ h => h) (by rfl) ?_ ?_ ?_ ?_
   rotate_left
   ·intro w'
    go_simp
    with_reducible rfl
   rotate_left
   ·simp only [SX]
    rfl
   refine tk 26 48 ?_ (ms 30 134217727) rfl rfl HT_ HW_ (by kernel_rfl) (fun _ _ _ h => h) (by rfl) ?_ hHeld ?_ ?_ ?_
   rotate_left
   ·rintro w' ⟨s0, s1, s2, s3, s4, s5, s6, s7, s8, s9, s10, s11, s12⟩
    go_simp
    with_reducible rfl
   rotate_left
   ·simp only [SX]
    rfl
   refine pu 27 49 ?_ (ms 30 268435455) rfl rfl HT_ (by kernel_rfl) (fun _ _ _ h => h) (by rfl) ?_ ?_ ?_ ?_
   rotate_left
   ·intro w'
    go_simp
    with_reducible rfl
   rotate_left
   ·simp only [SX]
    rfl
   refine pu 28 50 ?_ (ms 30 536870911) rfl rfl HT_ (by kernel_rfl) (fun _ _ _ h => h) (by rfl) ?_ ?_ ?_ ?_
   rotate_left
   ·intro w'
    go_simp
    with_reducible rfl
   rotate_left
   ·simp only [SX]
    rfl
   refine pu 29 51 ?_ (ms 30 1073741823) rfl rfl HT_ (by kernel_rfl) (fun _ _ _ h => h) (by rfl) ?_ ?_ ?_ ?_
   rotate_left
   ·intro w'
    go_simp
    with_reducible rfl
   rotate_left
   ·simp only [SX]
    rfl
   refine done_ (done_of HT_.out (by kernel_rfl)) ?_
   try go_wp2
   go_roundg k2
   case measure => have := HJ2.out; have := HK2.out; omega
   case rel => exact ⟨(wrap64 (x17_2 + 1)), (by first | rfl | (simp; done) | (simp [*]; done)), H', ⟨by have := HJ2.out; have := HK2.out; omega⟩, ⟨bk BK119⟩, ⟨bl1 HB GE119⟩⟩

end Go.Proofs.Ytddkaiegnohkcaa.F
