-- Printed by wip/px/px.py of this claim's repository (the kit's printer, extended there). Lean checks it.
import Derived.Test.YtbcedkcjodokkaaFKinds
import Derived.Test.YtbcedkcjodokkaaFspecl1In
import Derived.Test.YtbcedkcjodokkaaFspecl1Ok
namespace Go.Proofs.Ytbcedkcjodokkaa.F
open Go.RowKit Go.Proofs.YtbcedkcjodokkaaW.PrintWords Go.Proofs.YtbcedkcjodokkaaW.PrintLast Go.Proofs.YtbcedkcjodokkaaW.PrintMore
attribute [local go_sem] max2_int min2_int max_two min_two max_three min_three max_four min_four   -- for this text's walks alone
set_option linter.unusedVariables false
set_option linter.unusedSimpArgs false

/-! ### spec_l16Ok: function 21 -/
def spec_l16Ok.l0 : Nat → Int → Int → List (S65) → List (S30) → Option (Bool)
 | 0, _, _, _, _ => none
 | k + 1, x3, x114000, x114001, x114002 => if x3 < (x114002.length : Int) then (if 0 ≤ x3 then ((spec_l1In.f ((rd_T30 x114002 x3).f0) 1 999).bind fun t117 => (if t117 = true then ((spec_l1In.f ((rd_T30 x114002 x3).f1) 0 (wrap64 ((x114001.length : Int) - 1))).bind fun t118 => (if t118 = true then ((spec_l1In.f ((rd_T30 x114002 x3).f2) (-1) 99).bind fun t119 => (if t119 = true then (if x3 > 0 then (if 0 ≤ (wrap64 (x3 - 1)) then (if (wrap64 (x3 - 1)) < (x114002.length : Int) then (if ((rd_T30 x114002 x3).f0) ≤ ((rd_T30 x114002 (wrap64 (x3 - 1))).f0) then (some false) else (spec_l16Ok.l0 k (wrap64 (x3 + 1)) x114000 x114001 x114002)) else (none)) else (none)) else (spec_l16Ok.l0 k (wrap64 (x3 + 1)) x114000 x114001 x114002)) else (some false))) else (some false))) else (some false))) else (none)) else ((spec_l1Ok.f k x114000 x114001).bind fun t114 => (if t114 = true then (some (decide ((x114002.length : Int) ≤ 6))) else (some false)))
def spec_l16Ok.f (k : Nat) (a0_0 : Int) (l0_1 : List (S65)) (l0_2 : List (S30)) : Option (Bool) := spec_l16Ok.l0 k 0 a0_0 l0_1 l0_2
theorem spec_l16Ok.mono_l : ∀ k, (∀ y0 y1 y2 y3, LeO (spec_l16Ok.l0 k y0 y1 y2 y3) (spec_l16Ok.l0 (k + 1) y0 y1 y2 y3))
 | 0 => fun _ _ _ _ r h => by simp [spec_l16Ok.l0] at h
 | k + 1 => by
  have ih0 := spec_l16Ok.mono_l k
  ·intro y0 y1 y2 y3
   unfold spec_l16Ok.l0
   repeat' first | (with_reducible exact ih0 _ _ _ _) | (with_reducible exact spec_l1Ok.mono _ _ _) | (with_reducible exact LeO.refl _) | (with_reducible refine LeO.ite ?_ ?_) | (with_reducible refine LeO.bind ?_ (fun _ => ?_))
theorem spec_l16Ok.mono : ∀ a0 a1 a2 k, LeO (spec_l16Ok.f k a0 a1 a2) (spec_l16Ok.f (k + 1) a0 a1 a2) := by
 intro a0 a1 a2 k
 have ih0 := spec_l16Ok.mono_l k
 unfold spec_l16Ok.f
 repeat' (with_reducible exact ih0 _ _ _ _)
def spec_l16Ok.T5 : Bool × List (List Nat × List Nat) := (true, [([], []), ([0], [0]), ([1], [1]), ([2], [2]), ([3, 2], [3]), ([4], [4]), ([5, 4], [4, 5]), ([4], [4]), ([7, 4], [4, 7]), ([8, 4], [4, 8]), ([9, 4], [4, 9]), ([10, 4], [4, 10]), ([6, 11, 4, 4], [4, 6, 11]), ([12, 4], [4, 12]), ([4, 13], [4, 13]), ([14, 12], [14]), ([15], [15]), ([16, 15], [15, 16]), ([17, 15, 15], [15, 17]), ([18, 15], [15, 18]), ([15, 19], [15, 19]), ([20, 18], [20]), ([21], [21]), ([22, 21], [21, 22]), ([23, 21, 21], [21, 23]), ([24], [24]), ([25, 24], [24, 25]), ([24], [24]), ([27, 24], [24, 27]), ([24], [24]), ([29, 24], [24, 29]), ([28, 30, 24], [24, 28, 30]), ([31, 24], [24, 31]), ([32, 24], [24, 32]), ([26, 33, 24], [24, 26, 33]), ([24, 34, 21], [21, 24, 34]), ([21, 35], [21, 35])])
def spec_l16Ok.B5 : List Nat := [0, 1, 3, 7, 15, 31, 63, 31, 159, 415, 927, 1951, 4095, 8191, 16383, 32767, 65535, 131071, 262143, 524287, 1048575, 2097151, 4194303, 8388607, 16777215, 33554431, 67108863, 33554431, 167772159, 33554431, 570425343, 2046820351, 4194303999, 8489271295, 17179869183, 34359738367, 68719476735]
theorem spec_l16Ok.tab5 : rtab .any (opsOf Try.f21 5) = spec_l16Ok.T5 := by kernel_rfl
theorem spec_l16Ok.bits5 : waitsOk spec_l16Ok.T5.2 spec_l16Ok.B5 = true := by kernel_rfl
set_option maxHeartbeats 8000000 in
set_option maxRecDepth 100000 in
theorem spec_l16Ok.calls (k : Nat) (a0_0 : Int) (A0_1 : Option Addr) (c0_1 : Nat) (l0_1 : List (S65)) (A0_2 : Option Addr) (c0_2 : Nat) (l0_2 : List (S30)) (r : Bool) (w : World) (hr0_1 : Kd.C k65 w A0_1 l0_1.length l0_1) (hc0_1 : l0_1.length ≤ c0_1) (hr0_2 : Kd.C k30 w A0_2 l0_2.length l0_2) (hc0_2 : l0_2.length ≤ c0_2) (h : spec_l16Ok.f k a0_0 l0_1 l0_2 = some r) :
  Calls Try.prog 21 #[.agg #[.int .i64 a0_0, .slice A0_1 l0_1.length c0_1, .slice A0_2 l0_2.length c0_2]] w fun e w' => e = .returned (.bool r) ∧ Below w.heap.size w w' := by
 have hu28 := Try.underlying28
 have hu30 := Try.underlying30
 have hu25 := Try.underlying25
 have HR0_1 := ak hr0_1
 have HC0_1 := ak hc0_1
 clear hr0_1 hc0_1
 have HR0_2 := ak hr0_2
 have HC0_2 := ak hc0_2
 clear hr0_2 hc0_2
 have HB := ak (Below.refl w.heap.size w)
 have H : (spec_l16Ok.l0 k 0 a0_0 l0_1 l0_2) = some r := h
 clear h
 have H' := ak H
 clear H
 go_enter Try.func21, Try.ntmps21
 go_wp2_with (((with_reducible refine gate_dst (N := 1) rfl ?_); refine box_event ?hg (N := 1) ?hd (cs := #[.int .i64 a0_0, .slice A0_1 l0_1.length c0_1, .slice A0_2 l0_2.length c0_2]) (t := 28) ?hr ?_; (case hd => rfl); (case hg => rfl); (case hr => (go_simp; done)); intro gb113 hg w2 hbox hb; have BK113 := ak (hbox); have GW113 := ak ((by rw [hg]; exact (below_size (bl HB)) : w.heap.size ≤ gb113)); have GE113 := ak ((by rw [hg]; exact (below_size (bl HB)) : w.heap.size ≤ gb113)); replace HB := ak (below_step (bl HB) hb); clear hb hbox hg))
 go_loopg [3] k (fun kq v3 w' => ∃ (x3_1 : Int), v3 = .int .i64 x3_1 ∧ Aside0 (spec_l16Ok.l0 kq x3_1 a0_0 l0_1 l0_2 = some r) ∧ Aside0 (kq ≤ k) ∧ Aside0 (w'.heap[gb113]? = some (.cells #[.int .i64 a0_0, (.slice A0_1 l0_1.length c0_1), (.slice A0_2 l0_2.length c0_2)] 28 (0, 0))) ∧ Aside0 (Below w.heap.size w w'))
 case atStart => exact ⟨(0), (by rfl), H', ⟨Nat.le_refl _⟩, ⟨bk BK113⟩, ⟨bl1 HB GE113⟩⟩
 clear H'
 try clear c2
 try clear p2
 obtain ⟨x3_1, rfl, HA, HK1, BK113, HB⟩ := hrel
 cases gk with
 | zero => exact absurd HA.out (by simp [spec_l16Ok.l0])
 | succ k1 =>
  have H := HA.out
  clear HA
  simp only [spec_l16Ok.l0] at H
  by_cases c3 : x3_1 < (l0_2.length : Int)
  rotate_left
  ·rw [if_neg c3] at H
   have c3b0 : decide (x3_1 < (l0_2.length : Int)) = false := decide_eq_false c3
   clear c3
   replace H := Option.bind_eq_some_iff.mp H
   obtain ⟨t114, A520, H⟩ := H
   have A52 := ak A520
   clear A520
   by_cases c53 : t114 = true
   rotate_left
   ·replace c53 := Bool.eq_false_iff.mpr c53
    subst c53
    rw [if_neg (show ¬ (false = true) by decide)] at H
    obtain rfl := Option.some.inj H
    have hcz57_0 := bc wr BK113 0 (.int .i64 a0_0) rfl
    have hcz57_1 := bc wr BK113 1 (.slice A0_1 l0_1.length c0_1) rfl
    have hcz57_2 := bc wr BK113 2 (.slice A0_2 l0_2.length c0_2) rfl
    have hfz57_0 := fz BK113 0
    have hfz57_1 := fz BK113 1
    have hfz57_2 := fz BK113 2
    go_wp2_with (((with_reducible refine gate_callee (f := 40) rfl ?_); refine goesL_ (some 56) rfl rfl Try.func40 (by kernel_rfl) rfl #[.agg #[.int .i64 a0_0, .slice A0_1 l0_1.length c0_1]] rfl (by (try simp only [List.map_toArray, List.map_cons, List.map_nil]); rfl) ?_; (with_reducible refine (spec_l1Ok.calls k1 a0_0 _ _ l0_1 false _ ?side1 ?side2 A52.out).mono ?_); (case side1 => repeat (exact (Kd.C_below HR0_1.out HB.out))); (case side2 => exact HC0_1.out); rintro e w58 ⟨rfl, hb⟩; refine ⟨_, rfl, ?_⟩; replace BK113 := ak (blk_below (bk BK113) hb); replace HB := ak (below_step (bl1 HB GE113) hb); (try clear hb); (try clear hb2); (try clear hk); (try clear hi)))
    go_ret
    exact ⟨by rfl, bl1 HB GE113⟩
   subst c53
   rw [if_pos rfl] at H
   obtain rfl := Option.some.inj H
   have hcz54_0 := bc wr BK113 0 (.int .i64 a0_0) rfl
   have hcz54_1 := bc wr BK113 1 (.slice A0_1 l0_1.length c0_1) rfl
   have hcz54_2 := bc wr BK113 2 (.slice A0_2 l0_2.length c0_2) rfl
   have hfz54_0 := fz BK113 0
   have hfz54_1 := fz BK113 1
   have hfz54_2 := fz BK113 2
   go_wp2_with (((with_reducible refine gate_callee (f := 40) rfl ?_); refine goesL_ (some 56) rfl rfl Try.func40 (by kernel_rfl) rfl #[.agg #[.int .i64 a0_0, .slice A0_1 l0_1.length c0_1]] rfl (by (try simp only [List.map_toArray, List.map_cons, List.map_nil]); rfl) ?_; (with_reducible refine (spec_l1Ok.calls k1 a0_0 _ _ l0_1 true _ ?side1 ?side2 A52.out).mono ?_); (case side1 => repeat (exact (Kd.C_below HR0_1.out HB.out))); (case side2 => exact HC0_1.out); rintro e w55 ⟨rfl, hb⟩; refine ⟨_, rfl, ?_⟩; replace BK113 := ak (blk_below (bk BK113) hb); replace HB := ak (below_step (bl1 HB GE113) hb); (try clear hb); (try clear hb2); (try clear hk); (try clear hi); have hcz56_0 := bc w55 BK113 0 (.int .i64 a0_0) rfl; have hcz56_1 := bc w55 BK113 1 (.slice A0_1 l0_1.length c0_1) rfl; have hcz56_2 := bc w55 BK113 2 (.slice A0_2 l0_2.length c0_2) rfl; have hfz56_0 := fz BK113 0; have hfz56_1 := fz BK113 1; have hfz56_2 := fz BK113 2))
   go_ret
   exact ⟨by rfl, bl1 HB GE113⟩
  rw [if_pos c3] at H
  have c3b0 : decide (x3_1 < (l0_2.length : Int)) = true := decide_eq_true c3
  clear c3
  by_cases c4 : 0 ≤ x3_1
  rotate_left
  ·rw [if_neg c4] at H
   exact absurd H (by simp)
  rw [if_pos c4] at H
  have c4b0 : decide (0 ≤ x3_1) = true := decide_eq_true c4
  clear c4
  replace H := Option.bind_eq_some_iff.mp H
  obtain ⟨t117, A50, H⟩ := H
  have A5 := ak A50
  clear A50
  by_cases c6 : t117 = true
  rotate_left
  ·replace c6 := Bool.eq_false_iff.mpr c6
   subst c6
   rw [if_neg (show ¬ (false = true) by decide)] at H
   obtain rfl := Option.some.inj H
   have hcz46_0 := bc wr BK113 0 (.int .i64 a0_0) rfl
   have hcz46_1 := bc wr BK113 1 (.slice A0_1 l0_1.length c0_1) rfl
   have hcz46_2 := bc wr BK113 2 (.slice A0_2 l0_2.length c0_2) rfl
   have hfz46_0 := fz BK113 0
   have hfz46_1 := fz BK113 1
   have hfz46_2 := fz BK113 2
   have p115 : 0 ≤ (x3_1 : Int) := oT (by (with_reducible assumption))
   have q115 : x3_1 < (l0_2.length : Int) := oT (by (with_reducible assumption))
   obtain ⟨ad115, e115, hx115_0, hx115_1, hx115_2⟩ := at_T30 HR0_2.out x3_1 p115 q115
   cases e115
   replace hx115_0 := hcb HB.out hx115_0
   replace hx115_1 := hcb HB.out hx115_1
   replace hx115_2 := hcb HB.out hx115_2
   replace p115 := eq_true p115
   replace q115 := eq_true q115
   try go_wp2_with (((with_reducible refine gate_dst (N := 4) rfl ?_); refine box_event ?hg (N := 4) ?hd (cs := #[.int .i64 0, .int .i64 0, .int .i64 0]) (t := 30) ?hr ?_; (case hd => rfl); (case hg => rfl); (case hr => (go_simp; done)); intro gb116 hg w47 hbox hb; have BK116 := ak (hbox); have GW116 := ak ((by rw [hg]; exact (below_size (bl1 HB GE113)) : w.heap.size ≤ gb116)); have GE116 := ak ((by rw [hg]; exact (below_size (bl1 HB GE113)) : w.heap.size ≤ gb116)); replace HB := ak (below_step (bl1 HB GE113) hb); have NB113_116 := ak ((by rw [hg]; exact Nat.ne_of_lt (blk_lt (bk BK113)) : gb113 ≠ gb116)); have NB116_113 := ak ((by rw [hg]; exact Nat.ne_of_gt (blk_lt (bk BK113)) : gb116 ≠ gb113)); replace BK113 := ak (blk_below (bk BK113) hb); clear hb hbox hg; have hnb48 := NB116_113.out; have hnc48 := NB113_116.out; have hcz49_0 := bc w47 BK116 0 (.int .i64 0) rfl; have hcz49_1 := bc w47 BK116 1 (.int .i64 0) rfl; have hcz49_2 := bc w47 BK116 2 (.int .i64 0) rfl; have hfz49_0 := fz BK116 0; have hfz49_1 := fz BK116 1; have hfz49_2 := fz BK116 2))
   have n0_ : Aside0 ((((w47.setCell ⟨gb116, 0, none⟩ (.int .i64 ((rd_T30 l0_2 x3_1).f0))).setCell ⟨gb116, 1, none⟩ (.int .i64 ((rd_T30 l0_2 x3_1).f1))).setCell ⟨gb116, 2, none⟩ (.int .i64 ((rd_T30 l0_2 x3_1).f2))).heap[gb113]? = some (.cells #[.int .i64 a0_0, .slice A0_1 l0_1.length c0_1, .slice (some ad115) l0_2.length c0_2] 28 (0, 0))) := ⟨by refine blk_far ?_ NB113_116.out _; refine blk_far ?_ NB113_116.out _; refine blk_far ?_ NB113_116.out _; exact BK113.out⟩
   have n1_ : Aside0 ((((w47.setCell ⟨gb116, 0, none⟩ (.int .i64 ((rd_T30 l0_2 x3_1).f0))).setCell ⟨gb116, 1, none⟩ (.int .i64 ((rd_T30 l0_2 x3_1).f1))).setCell ⟨gb116, 2, none⟩ (.int .i64 ((rd_T30 l0_2 x3_1).f2))).heap[gb116]? = some (.cells #[.int .i64 ((rd_T30 l0_2 x3_1).f0), .int .i64 ((rd_T30 l0_2 x3_1).f1), .int .i64 ((rd_T30 l0_2 x3_1).f2)] 30 (0, 0))) := ⟨by refine blk_put (cs := #[.int .i64 ((rd_T30 l0_2 x3_1).f0), .int .i64 ((rd_T30 l0_2 x3_1).f1), .int .i64 0]) ?_ 2 _ rfl; refine blk_put (cs := #[.int .i64 ((rd_T30 l0_2 x3_1).f0), .int .i64 0, .int .i64 0]) ?_ 1 _ rfl; refine blk_put (cs := #[.int .i64 0, .int .i64 0, .int .i64 0]) ?_ 0 _ rfl; exact BK116.out⟩
   have n2_ : Aside0 (Below w.heap.size w (((w47.setCell ⟨gb116, 0, none⟩ (.int .i64 ((rd_T30 l0_2 x3_1).f0))).setCell ⟨gb116, 1, none⟩ (.int .i64 ((rd_T30 l0_2 x3_1).f1))).setCell ⟨gb116, 2, none⟩ (.int .i64 ((rd_T30 l0_2 x3_1).f2)))) := ⟨bl2 HB GE113 GE116⟩
   (try clear BK113)
   (try clear BK116)
   (try clear HB)
   generalize (((w47.setCell ⟨gb116, 0, none⟩ (.int .i64 ((rd_T30 l0_2 x3_1).f0))).setCell ⟨gb116, 1, none⟩ (.int .i64 ((rd_T30 l0_2 x3_1).f1))).setCell ⟨gb116, 2, none⟩ (.int .i64 ((rd_T30 l0_2 x3_1).f2))) = w50 at n0_ n1_ n2_ ⊢
   have BK113 := n0_
   have BK116 := n1_
   have HB := n2_
   clear n0_ n1_ n2_
   replace BK113 := ak (blk_drew BK113.out)
   replace BK116 := ak (blk_drew BK116.out)
   replace HB := ak (below_drew1 HB.out)
   refine start_ (n := 37) (S := fun w' => w'.cell? ⟨gb116, 0, none⟩ = some (.int .i64 ((rd_T30 l0_2 x3_1).f0)) ∧ w'.cell? ⟨gb116, 1, none⟩ = some (.int .i64 ((rd_T30 l0_2 x3_1).f1)) ∧ w'.cell? ⟨gb116, 2, none⟩ = some (.int .i64 ((rd_T30 l0_2 x3_1).f2))) (ds := []) (ms 37 0) (by kernel_rfl) rfl (by kernel_rfl) ⟨(blk_cell BK116.out 0).trans rfl, (blk_cell BK116.out 1).trans rfl, (blk_cell BK116.out 2).trans rfl⟩ (fun hHeld => ?_); refine with_tabW spec_l16Ok.tab5 spec_l16Ok.bits5 (fun HT_ HW_ => ?_)
   generalize w50.drew = w51 at BK113 BK116 HB hHeld ⊢
   refine pu 0 17 ?_ (ms 37 1) rfl rfl HT_ (by kernel_rfl) (fun _ _ _ h => h) (by rfl) ?_ ?_ ?_ ?_
   rotate_left
   ·intro w'
    go_simp
    with_reducible rfl
   rotate_left
   ·simp only [SX]
    rfl
   refine tk 1 18 ?_ (ms 37 3) rfl rfl HT_ HW_ (by kernel_rfl) (fun _ _ _ h => h) (by rfl) ?_ hHeld ?_ ?_ ?_
   rotate_left
   ·rintro w' ⟨s0, s1, s2⟩
    go_simp
    with_reducible rfl
   rotate_left
   ·simp only [SX]
    rfl
   refine one_ (i := 2) (N := some 19) (ms 37 7) rfl rfl (one_of HT_.out (by kernel_rfl)) (by decide) (fun K hK => ?_)
   refine goes_ Try.func39 (by kernel_rfl) rfl #[.int .i64 ((rd_T30 l0_2 x3_1).f0), .int .i64 1, .int .i64 999] (by rfl) rfl rfl (by (try simp only [List.map_toArray, List.map_cons, List.map_nil]); rfl) ?_
   with_reducible refine (spec_l1In.calls ((rd_T30 l0_2 x3_1).f0) 1 999 false _ A5.out).mono ?_
   rintro e w' ⟨rfl, ⟨nd, rfl⟩⟩
   refine ⟨_, rfl, ?_⟩
   refine hK.out _ _ ⟨(blk_cell BK116.out 0).trans rfl, (blk_cell BK116.out 1).trans rfl, (blk_cell BK116.out 2).trans rfl⟩ (fun hHeld => ?_)
   clear hK K
   refine norm_ (a' := ?_) ?_ ?_
   rotate_left
   ·show Act.put _ (some 19) _ = _
    simp only [SX]
    rfl
   refine pu 3 20 ?_ (ms 37 15) rfl rfl HT_ (by kernel_rfl) (fun _ _ _ h => h) (by rfl) ?_ ?_ ?_ ?_
   rotate_left
   ·intro w'
    go_simp
    with_reducible rfl
   rotate_left
   ·simp only [SX]
    rfl
   refine pu 4 21 ?_ (ms 37 31) rfl rfl HT_ (by kernel_rfl) (fun _ _ _ h => h) (by rfl) ?_ ?_ ?_ ?_
   rotate_left
   ·intro w'
    go_simp
    with_reducible rfl
   rotate_left
   ·simp only [SX]
    rfl
   refine pure_ (i := 5) (N := some 22) (v := undef) (a' := ?_) (ms 37 63) rfl rfl (any_of HT_.out (by kernel_rfl)) (fun _ _ _ h => h) (Or.inr ⟨by rfl, rfl⟩) ?_ ?_
   rotate_left
   ·simp only [SX]
    rfl
   refine pure_ (i := 6) (N := some 23) (v := undef) (a' := ?_) (ms 37 127) rfl rfl (any_of HT_.out (by kernel_rfl)) (fun _ _ _ h => h) (Or.inr ⟨by rfl, rfl⟩) ?_ ?_
   rotate_left
   ·simp only [SX]
    rfl
   refine pure_ (i := 7) (N := some 24) (v := undef) (a' := ?_) (ms 37 255) rfl rfl (any_of HT_.out (by kernel_rfl)) (fun _ _ _ h => h) (Or.inr ⟨by rfl, rfl⟩) ?_ ?_
   rotate_left
   ·simp only [SX]
    rfl
   refine pure_ (i := 8) (N := some 25) (v := undef) (a' := ?_) (ms 37 511) rfl rfl (any_of HT_.out (by kernel_rfl)) (fun _ _ _ h => h) (Or.inr ⟨by rfl, rfl⟩) ?_ ?_
   rotate_left
   ·simp only [SX]
    rfl
   refine pure_ (i := 9) (N := some 26) (v := undef) (a' := ?_) (ms 37 1023) rfl rfl (any_of HT_.out (by kernel_rfl)) (fun _ _ _ h => h) (Or.inr ⟨by rfl, rfl⟩) ?_ ?_
   rotate_left
   ·simp only [SX]
    rfl
   refine pure_ (i := 10) (N := some 27) (v := undef) (a' := ?_) (ms 37 2047) rfl rfl (any_of HT_.out (by kernel_rfl)) (fun _ _ _ h => h) (Or.inr ⟨by rfl, rfl⟩) ?_ ?_
   rotate_left
   ·simp only [SX]
    rfl
   refine pure_ (i := 11) (N := some 28) (v := undef) (a' := ?_) (ms 37 4095) rfl rfl (any_of HT_.out (by kernel_rfl)) (fun _ _ _ h => h) (Or.inr ⟨by rfl, rfl⟩) ?_ ?_
   rotate_left
   ·simp only [SX]
    rfl
   refine pure_ (i := 12) (N := some 29) (v := undef) (a' := ?_) (ms 37 8191) rfl rfl (any_of HT_.out (by kernel_rfl)) (fun _ _ _ h => h) (Or.inr ⟨by rfl, rfl⟩) ?_ ?_
   rotate_left
   ·simp only [SX]
    rfl
   refine pure_ (i := 13) (N := some 30) (v := undef) (a' := ?_) (ms 37 16383) rfl rfl (any_of HT_.out (by kernel_rfl)) (fun _ _ _ h => h) (Or.inr ⟨by rfl, rfl⟩) ?_ ?_
   rotate_left
   ·simp only [SX]
    rfl
   refine pu 14 31 ?_ (ms 37 32767) rfl rfl HT_ (by kernel_rfl) (fun _ _ _ h => h) (by rfl) ?_ ?_ ?_ ?_
   rotate_left
   ·intro w'
    go_simp
    with_reducible rfl
   rotate_left
   ·simp only [SX]
    rfl
   refine pu 15 32 ?_ (ms 37 65535) rfl rfl HT_ (by kernel_rfl) (fun _ _ _ h => h) (by rfl) ?_ ?_ ?_ ?_
   rotate_left
   ·intro w'
    go_simp
    with_reducible rfl
   rotate_left
   ·simp only [SX]
    rfl
   refine pure_ (i := 16) (N := some 33) (v := undef) (a' := ?_) (ms 37 131071) rfl rfl (any_of HT_.out (by kernel_rfl)) (fun _ _ _ h => h) (Or.inr ⟨by rfl, rfl⟩) ?_ ?_
   rotate_left
   ·simp only [SX]
    rfl
   refine pure_ (i := 17) (N := some 34) (v := undef) (a' := ?_) (ms 37 262143) rfl rfl (any_of HT_.out (by kernel_rfl)) (fun _ _ _ h => h) (Or.inr ⟨by rfl, rfl⟩) ?_ ?_
   rotate_left
   ·simp only [SX]
    rfl
   refine pure_ (i := 18) (N := some 35) (v := undef) (a' := ?_) (ms 37 524287) rfl rfl (any_of HT_.out (by kernel_rfl)) (fun _ _ _ h => h) (Or.inr ⟨by rfl, rfl⟩) ?_ ?_
   rotate_left
   ·simp only [SX]
    rfl
   refine pure_ (i := 19) (N := some 36) (v := undef) (a' := ?_) (ms 37 1048575) rfl rfl (any_of HT_.out (by kernel_rfl)) (fun _ _ _ h => h) (Or.inr ⟨by rfl, rfl⟩) ?_ ?_
   rotate_left
   ·simp only [SX]
    rfl
   refine pu 20 37 ?_ (ms 37 2097151) rfl rfl HT_ (by kernel_rfl) (fun _ _ _ h => h) (by rfl) ?_ ?_ ?_ ?_
   rotate_left
   ·intro w'
    go_simp
    with_reducible rfl
   rotate_left
   ·simp only [SX]
    rfl
   refine pu 21 38 ?_ (ms 37 4194303) rfl rfl HT_ (by kernel_rfl) (fun _ _ _ h => h) (by rfl) ?_ ?_ ?_ ?_
   rotate_left
   ·intro w'
    go_simp
    with_reducible rfl
   rotate_left
   ·simp only [SX]
    rfl
   refine pure_ (i := 22) (N := some 39) (v := undef) (a' := ?_) (ms 37 8388607) rfl rfl (any_of HT_.out (by kernel_rfl)) (fun _ _ _ h => h) (Or.inr ⟨by rfl, rfl⟩) ?_ ?_
   rotate_left
   ·simp only [SX]
    rfl
   refine pure_ (i := 23) (N := some 40) (v := undef) (a' := ?_) (ms 37 16777215) rfl rfl (any_of HT_.out (by kernel_rfl)) (fun _ _ _ h => h) (Or.inr ⟨by rfl, rfl⟩) ?_ ?_
   rotate_left
   ·simp only [SX]
    rfl
   refine pure_ (i := 24) (N := some 41) (v := undef) (a' := ?_) (ms 37 33554431) rfl rfl (any_of HT_.out (by kernel_rfl)) (fun _ _ _ h => h) (Or.inr ⟨by rfl, rfl⟩) ?_ ?_
   rotate_left
   ·simp only [SX]
    rfl
   refine pure_ (i := 25) (N := some 42) (v := undef) (a' := ?_) (ms 37 67108863) rfl rfl (any_of HT_.out (by kernel_rfl)) (fun _ _ _ h => h) (Or.inr ⟨by rfl, rfl⟩) ?_ ?_
   rotate_left
   ·simp only [SX]
    rfl
   refine pure_ (i := 26) (N := some 43) (v := undef) (a' := ?_) (ms 37 134217727) rfl rfl (any_of HT_.out (by kernel_rfl)) (fun _ _ _ h => h) (Or.inr ⟨by rfl, rfl⟩) ?_ ?_
   rotate_left
   ·simp only [SX]
    rfl
   refine pure_ (i := 27) (N := some 44) (v := undef) (a' := ?_) (ms 37 268435455) rfl rfl (any_of HT_.out (by kernel_rfl)) (fun _ _ _ h => h) (Or.inr ⟨by rfl, rfl⟩) ?_ ?_
   rotate_left
   ·simp only [SX]
    rfl
   refine pure_ (i := 28) (N := some 45) (v := undef) (a' := ?_) (ms 37 536870911) rfl rfl (any_of HT_.out (by kernel_rfl)) (fun _ _ _ h => h) (Or.inr ⟨by rfl, rfl⟩) ?_ ?_
   rotate_left
   ·simp only [SX]
    rfl
   refine pure_ (i := 29) (N := some 46) (v := undef) (a' := ?_) (ms 37 1073741823) rfl rfl (any_of HT_.out (by kernel_rfl)) (fun _ _ _ h => h) (Or.inr ⟨by rfl, rfl⟩) ?_ ?_
   rotate_left
   ·simp only [SX]
    rfl
   refine pure_ (i := 30) (N := some 47) (v := undef) (a' := ?_) (ms 37 2147483647) rfl rfl (any_of HT_.out (by kernel_rfl)) (fun _ _ _ h => h) (Or.inr ⟨by rfl, rfl⟩) ?_ ?_
   rotate_left
   ·simp only [SX]
    rfl
   refine pure_ (i := 31) (N := some 48) (v := undef) (a' := ?_) (ms 37 4294967295) rfl rfl (any_of HT_.out (by kernel_rfl)) (fun _ _ _ h => h) (Or.inr ⟨by rfl, rfl⟩) ?_ ?_
   rotate_left
   ·simp only [SX]
    rfl
   refine pure_ (i := 32) (N := some 49) (v := undef) (a' := ?_) (ms 37 8589934591) rfl rfl (any_of HT_.out (by kernel_rfl)) (fun _ _ _ h => h) (Or.inr ⟨by rfl, rfl⟩) ?_ ?_
   rotate_left
   ·simp only [SX]
    rfl
   refine pure_ (i := 33) (N := some 50) (v := undef) (a' := ?_) (ms 37 17179869183) rfl rfl (any_of HT_.out (by kernel_rfl)) (fun _ _ _ h => h) (Or.inr ⟨by rfl, rfl⟩) ?_ ?_
   rotate_left
   ·simp only [SX]
    rfl
   refine pure_ (i := 34) (N := some 51) (v := undef) (a' := ?_) (ms 37 34359738367) rfl rfl (any_of HT_.out (by kernel_rfl)) (fun _ _ _ h => h) (Or.inr ⟨by rfl, rfl⟩) ?_ ?_
   rotate_left
   ·simp only [SX]
    rfl
   refine pure_ (i := 35) (N := some 52) (v := undef) (a' := ?_) (ms 37 68719476735) rfl rfl (any_of HT_.out (by kernel_rfl)) (fun _ _ _ h => h) (Or.inr ⟨by rfl, rfl⟩) ?_ ?_
   rotate_left
   ·simp only [SX]
    rfl
   refine pu 36 53 ?_ (ms 37 137438953471) rfl rfl HT_ (by kernel_rfl) (fun _ _ _ h => h) (by rfl) ?_ ?_ ?_ ?_
   rotate_left
   ·intro w'
    go_simp
    with_reducible rfl
   rotate_left
   ·simp only [SX]
    rfl
   refine done_ (done_of HT_.out (by kernel_rfl)) ?_
   try go_wp2
   go_ret
   exact ⟨by rfl, bl2 HB GE113 GE116⟩
  subst c6
  rw [if_pos rfl] at H
  replace H := Option.bind_eq_some_iff.mp H
  obtain ⟨t118, A70, H⟩ := H
  have A7 := ak A70
  clear A70
  by_cases c8 : t118 = true
  rotate_left
  ·replace c8 := Bool.eq_false_iff.mpr c8
   subst c8
   rw [if_neg (show ¬ (false = true) by decide)] at H
   obtain rfl := Option.some.inj H
   have hcz40_0 := bc wr BK113 0 (.int .i64 a0_0) rfl
   have hcz40_1 := bc wr BK113 1 (.slice A0_1 l0_1.length c0_1) rfl
   have hcz40_2 := bc wr BK113 2 (.slice A0_2 l0_2.length c0_2) rfl
   have hfz40_0 := fz BK113 0
   have hfz40_1 := fz BK113 1
   have hfz40_2 := fz BK113 2
   have p115 : 0 ≤ (x3_1 : Int) := oT (by (with_reducible assumption))
   have q115 : x3_1 < (l0_2.length : Int) := oT (by (with_reducible assumption))
   obtain ⟨ad115, e115, hx115_0, hx115_1, hx115_2⟩ := at_T30 HR0_2.out x3_1 p115 q115
   cases e115
   replace hx115_0 := hcb HB.out hx115_0
   replace hx115_1 := hcb HB.out hx115_1
   replace hx115_2 := hcb HB.out hx115_2
   replace p115 := eq_true p115
   replace q115 := eq_true q115
   try go_wp2_with (((with_reducible refine gate_dst (N := 4) rfl ?_); refine box_event ?hg (N := 4) ?hd (cs := #[.int .i64 0, .int .i64 0, .int .i64 0]) (t := 30) ?hr ?_; (case hd => rfl); (case hg => rfl); (case hr => (go_simp; done)); intro gb116 hg w41 hbox hb; have BK116 := ak (hbox); have GW116 := ak ((by rw [hg]; exact (below_size (bl1 HB GE113)) : w.heap.size ≤ gb116)); have GE116 := ak ((by rw [hg]; exact (below_size (bl1 HB GE113)) : w.heap.size ≤ gb116)); replace HB := ak (below_step (bl1 HB GE113) hb); have NB113_116 := ak ((by rw [hg]; exact Nat.ne_of_lt (blk_lt (bk BK113)) : gb113 ≠ gb116)); have NB116_113 := ak ((by rw [hg]; exact Nat.ne_of_gt (blk_lt (bk BK113)) : gb116 ≠ gb113)); replace BK113 := ak (blk_below (bk BK113) hb); clear hb hbox hg; have hnb42 := NB116_113.out; have hnc42 := NB113_116.out; have hcz43_0 := bc w41 BK116 0 (.int .i64 0) rfl; have hcz43_1 := bc w41 BK116 1 (.int .i64 0) rfl; have hcz43_2 := bc w41 BK116 2 (.int .i64 0) rfl; have hfz43_0 := fz BK116 0; have hfz43_1 := fz BK116 1; have hfz43_2 := fz BK116 2))
   have n0_ : Aside0 ((((w41.setCell ⟨gb116, 0, none⟩ (.int .i64 ((rd_T30 l0_2 x3_1).f0))).setCell ⟨gb116, 1, none⟩ (.int .i64 ((rd_T30 l0_2 x3_1).f1))).setCell ⟨gb116, 2, none⟩ (.int .i64 ((rd_T30 l0_2 x3_1).f2))).heap[gb113]? = some (.cells #[.int .i64 a0_0, .slice A0_1 l0_1.length c0_1, .slice (some ad115) l0_2.length c0_2] 28 (0, 0))) := ⟨by refine blk_far ?_ NB113_116.out _; refine blk_far ?_ NB113_116.out _; refine blk_far ?_ NB113_116.out _; exact BK113.out⟩
   have n1_ : Aside0 ((((w41.setCell ⟨gb116, 0, none⟩ (.int .i64 ((rd_T30 l0_2 x3_1).f0))).setCell ⟨gb116, 1, none⟩ (.int .i64 ((rd_T30 l0_2 x3_1).f1))).setCell ⟨gb116, 2, none⟩ (.int .i64 ((rd_T30 l0_2 x3_1).f2))).heap[gb116]? = some (.cells #[.int .i64 ((rd_T30 l0_2 x3_1).f0), .int .i64 ((rd_T30 l0_2 x3_1).f1), .int .i64 ((rd_T30 l0_2 x3_1).f2)] 30 (0, 0))) := ⟨by refine blk_put (cs := #[.int .i64 ((rd_T30 l0_2 x3_1).f0), .int .i64 ((rd_T30 l0_2 x3_1).f1), .int .i64 0]) ?_ 2 _ rfl; refine blk_put (cs := #[.int .i64 ((rd_T30 l0_2 x3_1).f0), .int .i64 0, .int .i64 0]) ?_ 1 _ rfl; refine blk_put (cs := #[.int .i64 0, .int .i64 0, .int .i64 0]) ?_ 0 _ rfl; exact BK116.out⟩
   have n2_ : Aside0 (Below w.heap.size w (((w41.setCell ⟨gb116, 0, none⟩ (.int .i64 ((rd_T30 l0_2 x3_1).f0))).setCell ⟨gb116, 1, none⟩ (.int .i64 ((rd_T30 l0_2 x3_1).f1))).setCell ⟨gb116, 2, none⟩ (.int .i64 ((rd_T30 l0_2 x3_1).f2)))) := ⟨bl2 HB GE113 GE116⟩
   (try clear BK113)
   (try clear BK116)
   (try clear HB)
   generalize (((w41.setCell ⟨gb116, 0, none⟩ (.int .i64 ((rd_T30 l0_2 x3_1).f0))).setCell ⟨gb116, 1, none⟩ (.int .i64 ((rd_T30 l0_2 x3_1).f1))).setCell ⟨gb116, 2, none⟩ (.int .i64 ((rd_T30 l0_2 x3_1).f2))) = w44 at n0_ n1_ n2_ ⊢
   have BK113 := n0_
   have BK116 := n1_
   have HB := n2_
   clear n0_ n1_ n2_
   replace BK113 := ak (blk_drew BK113.out)
   replace BK116 := ak (blk_drew BK116.out)
   replace HB := ak (below_drew1 HB.out)
   refine start_ (n := 37) (S := fun w' => w'.cell? ⟨gb116, 0, none⟩ = some (.int .i64 ((rd_T30 l0_2 x3_1).f0)) ∧ w'.cell? ⟨gb116, 1, none⟩ = some (.int .i64 ((rd_T30 l0_2 x3_1).f1)) ∧ w'.cell? ⟨gb116, 2, none⟩ = some (.int .i64 ((rd_T30 l0_2 x3_1).f2)) ∧ w'.cell? ⟨gb113, 0, none⟩ = some (.int .i64 a0_0) ∧ w'.cell? ⟨gb113, 1, none⟩ = some (.slice A0_1 l0_1.length c0_1) ∧ w'.cell? ⟨gb113, 2, none⟩ = some (.slice (some ad115) l0_2.length c0_2)) (ds := []) (ms 37 0) (by kernel_rfl) rfl (by kernel_rfl) ⟨(blk_cell BK116.out 0).trans rfl, (blk_cell BK116.out 1).trans rfl, (blk_cell BK116.out 2).trans rfl, (blk_cell BK113.out 0).trans rfl, (blk_cell BK113.out 1).trans rfl, (blk_cell BK113.out 2).trans rfl⟩ (fun hHeld => ?_); refine with_tabW spec_l16Ok.tab5 spec_l16Ok.bits5 (fun HT_ HW_ => ?_)
   generalize w44.drew = w45 at BK113 BK116 HB hHeld ⊢
   refine pu 0 17 ?_ (ms 37 1) rfl rfl HT_ (by kernel_rfl) (fun _ _ _ h => h) (by rfl) ?_ ?_ ?_ ?_
   rotate_left
   ·intro w'
    go_simp
    with_reducible rfl
   rotate_left
   ·simp only [SX]
    rfl
   refine tk 1 18 ?_ (ms 37 3) rfl rfl HT_ HW_ (by kernel_rfl) (fun _ _ _ h => h) (by rfl) ?_ hHeld ?_ ?_ ?_
   rotate_left
   ·rintro w' ⟨s0, s1, s2, s3, s4, s5⟩
    go_simp
    with_reducible rfl
   rotate_left
   ·simp only [SX]
    rfl
   refine one_ (i := 2) (N := some 19) (ms 37 7) rfl rfl (one_of HT_.out (by kernel_rfl)) (by decide) (fun K hK => ?_)
   refine goes_ Try.func39 (by kernel_rfl) rfl #[.int .i64 ((rd_T30 l0_2 x3_1).f0), .int .i64 1, .int .i64 999] (by rfl) rfl rfl (by (try simp only [List.map_toArray, List.map_cons, List.map_nil]); rfl) ?_
   with_reducible refine (spec_l1In.calls ((rd_T30 l0_2 x3_1).f0) 1 999 true _ A5.out).mono ?_
   rintro e w' ⟨rfl, ⟨nd, rfl⟩⟩
   refine ⟨_, rfl, ?_⟩
   refine hK.out _ _ ⟨(blk_cell BK116.out 0).trans rfl, (blk_cell BK116.out 1).trans rfl, (blk_cell BK116.out 2).trans rfl, (blk_cell BK113.out 0).trans rfl, (blk_cell BK113.out 1).trans rfl, (blk_cell BK113.out 2).trans rfl⟩ (fun hHeld => ?_)
   clear hK K
   refine norm_ (a' := ?_) ?_ ?_
   rotate_left
   ·show Act.put _ (some 19) _ = _
    simp only [SX]
    rfl
   refine pu 3 20 ?_ (ms 37 15) rfl rfl HT_ (by kernel_rfl) (fun _ _ _ h => h) (by rfl) ?_ ?_ ?_ ?_
   rotate_left
   ·intro w'
    go_simp
    with_reducible rfl
   rotate_left
   ·simp only [SX]
    rfl
   refine pu 4 21 ?_ (ms 37 31) rfl rfl HT_ (by kernel_rfl) (fun _ _ _ h => h) (by rfl) ?_ ?_ ?_ ?_
   rotate_left
   ·intro w'
    go_simp
    with_reducible rfl
   rotate_left
   ·simp only [SX]
    rfl
   refine pu 5 22 ?_ (ms 37 63) rfl rfl HT_ (by kernel_rfl) (fun _ _ _ h => h) (by rfl) ?_ ?_ ?_ ?_
   rotate_left
   ·intro w'
    go_simp
    with_reducible rfl
   rotate_left
   ·simp only [SX]
    rfl
   refine pu 7 24 ?_ (ms 37 191) rfl rfl HT_ (by kernel_rfl) (fun _ _ _ h => h) (by rfl) ?_ ?_ ?_ ?_
   rotate_left
   ·intro w'
    go_simp
    with_reducible rfl
   rotate_left
   ·simp only [SX]
    rfl
   refine pu 8 25 ?_ (ms 37 447) rfl rfl HT_ (by kernel_rfl) (fun _ _ _ h => h) (by rfl) ?_ ?_ ?_ ?_
   rotate_left
   ·intro w'
    go_simp
    with_reducible rfl
   rotate_left
   ·simp only [SX]
    rfl
   refine tk 6 23 ?_ (ms 37 511) rfl rfl HT_ HW_ (by kernel_rfl) (fun _ _ _ h => h) (by rfl) ?_ hHeld ?_ ?_ ?_
   rotate_left
   ·rintro w' ⟨s0, s1, s2, s3, s4, s5⟩
    go_simp
    with_reducible rfl
   rotate_left
   ·simp only [SX]
    rfl
   refine tk 9 26 ?_ (ms 37 1023) rfl rfl HT_ HW_ (by kernel_rfl) (fun _ _ _ h => h) (by rfl) ?_ hHeld ?_ ?_ ?_
   rotate_left
   ·rintro w' ⟨s0, s1, s2, s3, s4, s5⟩
    go_simp
    with_reducible rfl
   rotate_left
   ·simp only [SX]
    rfl
   refine pu 10 27 ?_ (ms 37 2047) rfl rfl HT_ (by kernel_rfl) (fun _ _ _ h => h) (by rfl) ?_ ?_ ?_ ?_
   rotate_left
   ·intro w'
    go_simp
    with_reducible rfl
   rotate_left
   ·simp only [SX]
    rfl
   refine pu 11 28 ?_ (ms 37 4095) rfl rfl HT_ (by kernel_rfl) (fun _ _ _ h => h) (by rfl) ?_ ?_ ?_ ?_
   rotate_left
   ·intro w'
    go_simp
    with_reducible rfl
   rotate_left
   ·simp only [SX]
    rfl
   refine one_ (i := 12) (N := some 29) (ms 37 8191) rfl rfl (one_of HT_.out (by kernel_rfl)) (by decide) (fun K hK => ?_)
   refine goes_ Try.func39 (by kernel_rfl) rfl #[.int .i64 ((rd_T30 l0_2 x3_1).f1), .int .i64 0, .int .i64 (wrap64 ((l0_1.length : Int) - 1))] (by rfl) rfl rfl (by (try simp only [List.map_toArray, List.map_cons, List.map_nil]); rfl) ?_
   with_reducible refine (spec_l1In.calls ((rd_T30 l0_2 x3_1).f1) 0 (wrap64 ((l0_1.length : Int) - 1)) false _ A7.out).mono ?_
   rintro e w' ⟨rfl, ⟨nd, rfl⟩⟩
   refine ⟨_, rfl, ?_⟩
   refine hK.out _ _ ⟨(blk_cell BK116.out 0).trans rfl, (blk_cell BK116.out 1).trans rfl, (blk_cell BK116.out 2).trans rfl, (blk_cell BK113.out 0).trans rfl, (blk_cell BK113.out 1).trans rfl, (blk_cell BK113.out 2).trans rfl⟩ (fun hHeld => ?_)
   clear hK K
   refine norm_ (a' := ?_) ?_ ?_
   rotate_left
   ·show Act.put _ (some 29) _ = _
    simp only [SX]
    rfl
   refine pu 13 30 ?_ (ms 37 16383) rfl rfl HT_ (by kernel_rfl) (fun _ _ _ h => h) (by rfl) ?_ ?_ ?_ ?_
   rotate_left
   ·intro w'
    go_simp
    with_reducible rfl
   rotate_left
   ·simp only [SX]
    rfl
   refine pu 14 31 ?_ (ms 37 32767) rfl rfl HT_ (by kernel_rfl) (fun _ _ _ h => h) (by rfl) ?_ ?_ ?_ ?_
   rotate_left
   ·intro w'
    go_simp
    with_reducible rfl
   rotate_left
   ·simp only [SX]
    rfl
   refine pu 15 32 ?_ (ms 37 65535) rfl rfl HT_ (by kernel_rfl) (fun _ _ _ h => h) (by rfl) ?_ ?_ ?_ ?_
   rotate_left
   ·intro w'
    go_simp
    with_reducible rfl
   rotate_left
   ·simp only [SX]
    rfl
   refine pure_ (i := 16) (N := some 33) (v := undef) (a' := ?_) (ms 37 131071) rfl rfl (any_of HT_.out (by kernel_rfl)) (fun _ _ _ h => h) (Or.inr ⟨by rfl, rfl⟩) ?_ ?_
   rotate_left
   ·simp only [SX]
    rfl
   refine pure_ (i := 17) (N := some 34) (v := undef) (a' := ?_) (ms 37 262143) rfl rfl (any_of HT_.out (by kernel_rfl)) (fun _ _ _ h => h) (Or.inr ⟨by rfl, rfl⟩) ?_ ?_
   rotate_left
   ·simp only [SX]
    rfl
   refine pure_ (i := 18) (N := some 35) (v := undef) (a' := ?_) (ms 37 524287) rfl rfl (any_of HT_.out (by kernel_rfl)) (fun _ _ _ h => h) (Or.inr ⟨by rfl, rfl⟩) ?_ ?_
   rotate_left
   ·simp only [SX]
    rfl
   refine pure_ (i := 19) (N := some 36) (v := undef) (a' := ?_) (ms 37 1048575) rfl rfl (any_of HT_.out (by kernel_rfl)) (fun _ _ _ h => h) (Or.inr ⟨by rfl, rfl⟩) ?_ ?_
   rotate_left
   ·simp only [SX]
    rfl
   refine pu 20 37 ?_ (ms 37 2097151) rfl rfl HT_ (by kernel_rfl) (fun _ _ _ h => h) (by rfl) ?_ ?_ ?_ ?_
   rotate_left
   ·intro w'
    go_simp
    with_reducible rfl
   rotate_left
   ·simp only [SX]
    rfl
   refine pu 21 38 ?_ (ms 37 4194303) rfl rfl HT_ (by kernel_rfl) (fun _ _ _ h => h) (by rfl) ?_ ?_ ?_ ?_
   rotate_left
   ·intro w'
    go_simp
    with_reducible rfl
   rotate_left
   ·simp only [SX]
    rfl
   refine pure_ (i := 22) (N := some 39) (v := undef) (a' := ?_) (ms 37 8388607) rfl rfl (any_of HT_.out (by kernel_rfl)) (fun _ _ _ h => h) (Or.inr ⟨by rfl, rfl⟩) ?_ ?_
   rotate_left
   ·simp only [SX]
    rfl
   refine pure_ (i := 23) (N := some 40) (v := undef) (a' := ?_) (ms 37 16777215) rfl rfl (any_of HT_.out (by kernel_rfl)) (fun _ _ _ h => h) (Or.inr ⟨by rfl, rfl⟩) ?_ ?_
   rotate_left
   ·simp only [SX]
    rfl
   refine pure_ (i := 24) (N := some 41) (v := undef) (a' := ?_) (ms 37 33554431) rfl rfl (any_of HT_.out (by kernel_rfl)) (fun _ _ _ h => h) (Or.inr ⟨by rfl, rfl⟩) ?_ ?_
   rotate_left
   ·simp only [SX]
    rfl
   refine pure_ (i := 25) (N := some 42) (v := undef) (a' := ?_) (ms 37 67108863) rfl rfl (any_of HT_.out (by kernel_rfl)) (fun _ _ _ h => h) (Or.inr ⟨by rfl, rfl⟩) ?_ ?_
   rotate_left
   ·simp only [SX]
    rfl
   refine pure_ (i := 26) (N := some 43) (v := undef) (a' := ?_) (ms 37 134217727) rfl rfl (any_of HT_.out (by kernel_rfl)) (fun _ _ _ h => h) (Or.inr ⟨by rfl, rfl⟩) ?_ ?_
   rotate_left
   ·simp only [SX]
    rfl
   refine pure_ (i := 27) (N := some 44) (v := undef) (a' := ?_) (ms 37 268435455) rfl rfl (any_of HT_.out (by kernel_rfl)) (fun _ _ _ h => h) (Or.inr ⟨by rfl, rfl⟩) ?_ ?_
   rotate_left
   ·simp only [SX]
    rfl
   refine pure_ (i := 28) (N := some 45) (v := undef) (a' := ?_) (ms 37 536870911) rfl rfl (any_of HT_.out (by kernel_rfl)) (fun _ _ _ h => h) (Or.inr ⟨by rfl, rfl⟩) ?_ ?_
   rotate_left
   ·simp only [SX]
    rfl
   refine pure_ (i := 29) (N := some 46) (v := undef) (a' := ?_) (ms 37 1073741823) rfl rfl (any_of HT_.out (by kernel_rfl)) (fun _ _ _ h => h) (Or.inr ⟨by rfl, rfl⟩) ?_ ?_
   rotate_left
   ·simp only [SX]
    rfl
   refine pure_ (i := 30) (N := some 47) (v := undef) (a' := ?_) (ms 37 2147483647) rfl rfl (any_of HT_.out (by kernel_rfl)) (fun _ _ _ h => h) (Or.inr ⟨by rfl, rfl⟩) ?_ ?_
   rotate_left
   ·simp only [SX]
    rfl
   refine pure_ (i := 31) (N := some 48) (v := undef) (a' := ?_) (ms 37 4294967295) rfl rfl (any_of HT_.out (by kernel_rfl)) (fun _ _ _ h => h) (Or.inr ⟨by rfl, rfl⟩) ?_ ?_
   rotate_left
   ·simp only [SX]
    rfl
   refine pure_ (i := 32) (N := some 49) (v := undef) (a' := ?_) (ms 37 8589934591) rfl rfl (any_of HT_.out (by kernel_rfl)) (fun _ _ _ h => h) (Or.inr ⟨by rfl, rfl⟩) ?_ ?_
   rotate_left
   ·simp only [SX]
    rfl
   refine pure_ (i := 33) (N := some 50) (v := undef) (a' := ?_) (ms 37 17179869183) rfl rfl (any_of HT_.out (by kernel_rfl)) (fun _ _ _ h => h) (Or.inr ⟨by rfl, rfl⟩) ?_ ?_
   rotate_left
   ·simp only [SX]
    rfl
   refine pure_ (i := 34) (N := some 51) (v := undef) (a' := ?_) (ms 37 34359738367) rfl rfl (any_of HT_.out (by kernel_rfl)) (fun _ _ _ h => h) (Or.inr ⟨by rfl, rfl⟩) ?_ ?_
   rotate_left
   ·simp only [SX]
    rfl
   refine pure_ (i := 35) (N := some 52) (v := undef) (a' := ?_) (ms 37 68719476735) rfl rfl (any_of HT_.out (by kernel_rfl)) (fun _ _ _ h => h) (Or.inr ⟨by rfl, rfl⟩) ?_ ?_
   rotate_left
   ·simp only [SX]
    rfl
   refine pu 36 53 ?_ (ms 37 137438953471) rfl rfl HT_ (by kernel_rfl) (fun _ _ _ h => h) (by rfl) ?_ ?_ ?_ ?_
   rotate_left
   ·intro w'
    go_simp
    with_reducible rfl
   rotate_left
   ·simp only [SX]
    rfl
   refine done_ (done_of HT_.out (by kernel_rfl)) ?_
   try go_wp2
   go_ret
   exact ⟨by rfl, bl2 HB GE113 GE116⟩
  subst c8
  rw [if_pos rfl] at H
  replace H := Option.bind_eq_some_iff.mp H
  obtain ⟨t119, A90, H⟩ := H
  have A9 := ak A90
  clear A90
  by_cases c10 : t119 = true
  rotate_left
  ·replace c10 := Bool.eq_false_iff.mpr c10
   subst c10
   rw [if_neg (show ¬ (false = true) by decide)] at H
   obtain rfl := Option.some.inj H
   have hcz34_0 := bc wr BK113 0 (.int .i64 a0_0) rfl
   have hcz34_1 := bc wr BK113 1 (.slice A0_1 l0_1.length c0_1) rfl
   have hcz34_2 := bc wr BK113 2 (.slice A0_2 l0_2.length c0_2) rfl
   have hfz34_0 := fz BK113 0
   have hfz34_1 := fz BK113 1
   have hfz34_2 := fz BK113 2
   have p115 : 0 ≤ (x3_1 : Int) := oT (by (with_reducible assumption))
   have q115 : x3_1 < (l0_2.length : Int) := oT (by (with_reducible assumption))
   obtain ⟨ad115, e115, hx115_0, hx115_1, hx115_2⟩ := at_T30 HR0_2.out x3_1 p115 q115
   cases e115
   replace hx115_0 := hcb HB.out hx115_0
   replace hx115_1 := hcb HB.out hx115_1
   replace hx115_2 := hcb HB.out hx115_2
   replace p115 := eq_true p115
   replace q115 := eq_true q115
   try go_wp2_with (((with_reducible refine gate_dst (N := 4) rfl ?_); refine box_event ?hg (N := 4) ?hd (cs := #[.int .i64 0, .int .i64 0, .int .i64 0]) (t := 30) ?hr ?_; (case hd => rfl); (case hg => rfl); (case hr => (go_simp; done)); intro gb116 hg w35 hbox hb; have BK116 := ak (hbox); have GW116 := ak ((by rw [hg]; exact (below_size (bl1 HB GE113)) : w.heap.size ≤ gb116)); have GE116 := ak ((by rw [hg]; exact (below_size (bl1 HB GE113)) : w.heap.size ≤ gb116)); replace HB := ak (below_step (bl1 HB GE113) hb); have NB113_116 := ak ((by rw [hg]; exact Nat.ne_of_lt (blk_lt (bk BK113)) : gb113 ≠ gb116)); have NB116_113 := ak ((by rw [hg]; exact Nat.ne_of_gt (blk_lt (bk BK113)) : gb116 ≠ gb113)); replace BK113 := ak (blk_below (bk BK113) hb); clear hb hbox hg; have hnb36 := NB116_113.out; have hnc36 := NB113_116.out; have hcz37_0 := bc w35 BK116 0 (.int .i64 0) rfl; have hcz37_1 := bc w35 BK116 1 (.int .i64 0) rfl; have hcz37_2 := bc w35 BK116 2 (.int .i64 0) rfl; have hfz37_0 := fz BK116 0; have hfz37_1 := fz BK116 1; have hfz37_2 := fz BK116 2))
   have n0_ : Aside0 ((((w35.setCell ⟨gb116, 0, none⟩ (.int .i64 ((rd_T30 l0_2 x3_1).f0))).setCell ⟨gb116, 1, none⟩ (.int .i64 ((rd_T30 l0_2 x3_1).f1))).setCell ⟨gb116, 2, none⟩ (.int .i64 ((rd_T30 l0_2 x3_1).f2))).heap[gb113]? = some (.cells #[.int .i64 a0_0, .slice A0_1 l0_1.length c0_1, .slice (some ad115) l0_2.length c0_2] 28 (0, 0))) := ⟨by refine blk_far ?_ NB113_116.out _; refine blk_far ?_ NB113_116.out _; refine blk_far ?_ NB113_116.out _; exact BK113.out⟩
   have n1_ : Aside0 ((((w35.setCell ⟨gb116, 0, none⟩ (.int .i64 ((rd_T30 l0_2 x3_1).f0))).setCell ⟨gb116, 1, none⟩ (.int .i64 ((rd_T30 l0_2 x3_1).f1))).setCell ⟨gb116, 2, none⟩ (.int .i64 ((rd_T30 l0_2 x3_1).f2))).heap[gb116]? = some (.cells #[.int .i64 ((rd_T30 l0_2 x3_1).f0), .int .i64 ((rd_T30 l0_2 x3_1).f1), .int .i64 ((rd_T30 l0_2 x3_1).f2)] 30 (0, 0))) := ⟨by refine blk_put (cs := #[.int .i64 ((rd_T30 l0_2 x3_1).f0), .int .i64 ((rd_T30 l0_2 x3_1).f1), .int .i64 0]) ?_ 2 _ rfl; refine blk_put (cs := #[.int .i64 ((rd_T30 l0_2 x3_1).f0), .int .i64 0, .int .i64 0]) ?_ 1 _ rfl; refine blk_put (cs := #[.int .i64 0, .int .i64 0, .int .i64 0]) ?_ 0 _ rfl; exact BK116.out⟩
   have n2_ : Aside0 (Below w.heap.size w (((w35.setCell ⟨gb116, 0, none⟩ (.int .i64 ((rd_T30 l0_2 x3_1).f0))).setCell ⟨gb116, 1, none⟩ (.int .i64 ((rd_T30 l0_2 x3_1).f1))).setCell ⟨gb116, 2, none⟩ (.int .i64 ((rd_T30 l0_2 x3_1).f2)))) := ⟨bl2 HB GE113 GE116⟩
   (try clear BK113)
   (try clear BK116)
   (try clear HB)
   generalize (((w35.setCell ⟨gb116, 0, none⟩ (.int .i64 ((rd_T30 l0_2 x3_1).f0))).setCell ⟨gb116, 1, none⟩ (.int .i64 ((rd_T30 l0_2 x3_1).f1))).setCell ⟨gb116, 2, none⟩ (.int .i64 ((rd_T30 l0_2 x3_1).f2))) = w38 at n0_ n1_ n2_ ⊢
   have BK113 := n0_
   have BK116 := n1_
   have HB := n2_
   clear n0_ n1_ n2_
   replace BK113 := ak (blk_drew BK113.out)
   replace BK116 := ak (blk_drew BK116.out)
   replace HB := ak (below_drew1 HB.out)
   refine start_ (n := 37) (S := fun w' => w'.cell? ⟨gb116, 0, none⟩ = some (.int .i64 ((rd_T30 l0_2 x3_1).f0)) ∧ w'.cell? ⟨gb116, 1, none⟩ = some (.int .i64 ((rd_T30 l0_2 x3_1).f1)) ∧ w'.cell? ⟨gb116, 2, none⟩ = some (.int .i64 ((rd_T30 l0_2 x3_1).f2)) ∧ w'.cell? ⟨gb113, 0, none⟩ = some (.int .i64 a0_0) ∧ w'.cell? ⟨gb113, 1, none⟩ = some (.slice A0_1 l0_1.length c0_1) ∧ w'.cell? ⟨gb113, 2, none⟩ = some (.slice (some ad115) l0_2.length c0_2)) (ds := []) (ms 37 0) (by kernel_rfl) rfl (by kernel_rfl) ⟨(blk_cell BK116.out 0).trans rfl, (blk_cell BK116.out 1).trans rfl, (blk_cell BK116.out 2).trans rfl, (blk_cell BK113.out 0).trans rfl, (blk_cell BK113.out 1).trans rfl, (blk_cell BK113.out 2).trans rfl⟩ (fun hHeld => ?_); refine with_tabW spec_l16Ok.tab5 spec_l16Ok.bits5 (fun HT_ HW_ => ?_)
   generalize w38.drew = w39 at BK113 BK116 HB hHeld ⊢
   refine pu 0 17 ?_ (ms 37 1) rfl rfl HT_ (by kernel_rfl) (fun _ _ _ h => h) (by rfl) ?_ ?_ ?_ ?_
   rotate_left
   ·intro w'
    go_simp
    with_reducible rfl
   rotate_left
   ·simp only [SX]
    rfl
   refine tk 1 18 ?_ (ms 37 3) rfl rfl HT_ HW_ (by kernel_rfl) (fun _ _ _ h => h) (by rfl) ?_ hHeld ?_ ?_ ?_
   rotate_left
   ·rintro w' ⟨s0, s1, s2, s3, s4, s5⟩
    go_simp
    with_reducible rfl
   rotate_left
   ·simp only [SX]
    rfl
   refine one_ (i := 2) (N := some 19) (ms 37 7) rfl rfl (one_of HT_.out (by kernel_rfl)) (by decide) (fun K hK => ?_)
   refine goes_ Try.func39 (by kernel_rfl) rfl #[.int .i64 ((rd_T30 l0_2 x3_1).f0), .int .i64 1, .int .i64 999] (by rfl) rfl rfl (by (try simp only [List.map_toArray, List.map_cons, List.map_nil]); rfl) ?_
   with_reducible refine (spec_l1In.calls ((rd_T30 l0_2 x3_1).f0) 1 999 true _ A5.out).mono ?_
   rintro e w' ⟨rfl, ⟨nd, rfl⟩⟩
   refine ⟨_, rfl, ?_⟩
   refine hK.out _ _ ⟨(blk_cell BK116.out 0).trans rfl, (blk_cell BK116.out 1).trans rfl, (blk_cell BK116.out 2).trans rfl, (blk_cell BK113.out 0).trans rfl, (blk_cell BK113.out 1).trans rfl, (blk_cell BK113.out 2).trans rfl⟩ (fun hHeld => ?_)
   clear hK K
   refine norm_ (a' := ?_) ?_ ?_
   rotate_left
   ·show Act.put _ (some 19) _ = _
    simp only [SX]
    rfl
   refine pu 3 20 ?_ (ms 37 15) rfl rfl HT_ (by kernel_rfl) (fun _ _ _ h => h) (by rfl) ?_ ?_ ?_ ?_
   rotate_left
   ·intro w'
    go_simp
    with_reducible rfl
   rotate_left
   ·simp only [SX]
    rfl
   refine pu 4 21 ?_ (ms 37 31) rfl rfl HT_ (by kernel_rfl) (fun _ _ _ h => h) (by rfl) ?_ ?_ ?_ ?_
   rotate_left
   ·intro w'
    go_simp
    with_reducible rfl
   rotate_left
   ·simp only [SX]
    rfl
   refine pu 5 22 ?_ (ms 37 63) rfl rfl HT_ (by kernel_rfl) (fun _ _ _ h => h) (by rfl) ?_ ?_ ?_ ?_
   rotate_left
   ·intro w'
    go_simp
    with_reducible rfl
   rotate_left
   ·simp only [SX]
    rfl
   refine pu 7 24 ?_ (ms 37 191) rfl rfl HT_ (by kernel_rfl) (fun _ _ _ h => h) (by rfl) ?_ ?_ ?_ ?_
   rotate_left
   ·intro w'
    go_simp
    with_reducible rfl
   rotate_left
   ·simp only [SX]
    rfl
   refine pu 8 25 ?_ (ms 37 447) rfl rfl HT_ (by kernel_rfl) (fun _ _ _ h => h) (by rfl) ?_ ?_ ?_ ?_
   rotate_left
   ·intro w'
    go_simp
    with_reducible rfl
   rotate_left
   ·simp only [SX]
    rfl
   refine tk 6 23 ?_ (ms 37 511) rfl rfl HT_ HW_ (by kernel_rfl) (fun _ _ _ h => h) (by rfl) ?_ hHeld ?_ ?_ ?_
   rotate_left
   ·rintro w' ⟨s0, s1, s2, s3, s4, s5⟩
    go_simp
    with_reducible rfl
   rotate_left
   ·simp only [SX]
    rfl
   refine tk 9 26 ?_ (ms 37 1023) rfl rfl HT_ HW_ (by kernel_rfl) (fun _ _ _ h => h) (by rfl) ?_ hHeld ?_ ?_ ?_
   rotate_left
   ·rintro w' ⟨s0, s1, s2, s3, s4, s5⟩
    go_simp
    with_reducible rfl
   rotate_left
   ·simp only [SX]
    rfl
   refine pu 10 27 ?_ (ms 37 2047) rfl rfl HT_ (by kernel_rfl) (fun _ _ _ h => h) (by rfl) ?_ ?_ ?_ ?_
   rotate_left
   ·intro w'
    go_simp
    with_reducible rfl
   rotate_left
   ·simp only [SX]
    rfl
   refine pu 11 28 ?_ (ms 37 4095) rfl rfl HT_ (by kernel_rfl) (fun _ _ _ h => h) (by rfl) ?_ ?_ ?_ ?_
   rotate_left
   ·intro w'
    go_simp
    with_reducible rfl
   rotate_left
   ·simp only [SX]
    rfl
   refine one_ (i := 12) (N := some 29) (ms 37 8191) rfl rfl (one_of HT_.out (by kernel_rfl)) (by decide) (fun K hK => ?_)
   refine goes_ Try.func39 (by kernel_rfl) rfl #[.int .i64 ((rd_T30 l0_2 x3_1).f1), .int .i64 0, .int .i64 (wrap64 ((l0_1.length : Int) - 1))] (by rfl) rfl rfl (by (try simp only [List.map_toArray, List.map_cons, List.map_nil]); rfl) ?_
   with_reducible refine (spec_l1In.calls ((rd_T30 l0_2 x3_1).f1) 0 (wrap64 ((l0_1.length : Int) - 1)) true _ A7.out).mono ?_
   rintro e w' ⟨rfl, ⟨nd, rfl⟩⟩
   refine ⟨_, rfl, ?_⟩
   refine hK.out _ _ ⟨(blk_cell BK116.out 0).trans rfl, (blk_cell BK116.out 1).trans rfl, (blk_cell BK116.out 2).trans rfl, (blk_cell BK113.out 0).trans rfl, (blk_cell BK113.out 1).trans rfl, (blk_cell BK113.out 2).trans rfl⟩ (fun hHeld => ?_)
   clear hK K
   refine norm_ (a' := ?_) ?_ ?_
   rotate_left
   ·show Act.put _ (some 29) _ = _
    simp only [SX]
    rfl
   refine pu 13 30 ?_ (ms 37 16383) rfl rfl HT_ (by kernel_rfl) (fun _ _ _ h => h) (by rfl) ?_ ?_ ?_ ?_
   rotate_left
   ·intro w'
    go_simp
    with_reducible rfl
   rotate_left
   ·simp only [SX]
    rfl
   refine pu 14 31 ?_ (ms 37 32767) rfl rfl HT_ (by kernel_rfl) (fun _ _ _ h => h) (by rfl) ?_ ?_ ?_ ?_
   rotate_left
   ·intro w'
    go_simp
    with_reducible rfl
   rotate_left
   ·simp only [SX]
    rfl
   refine pu 15 32 ?_ (ms 37 65535) rfl rfl HT_ (by kernel_rfl) (fun _ _ _ h => h) (by rfl) ?_ ?_ ?_ ?_
   rotate_left
   ·intro w'
    go_simp
    with_reducible rfl
   rotate_left
   ·simp only [SX]
    rfl
   refine pu 16 33 ?_ (ms 37 131071) rfl rfl HT_ (by kernel_rfl) (fun _ _ _ h => h) (by rfl) ?_ ?_ ?_ ?_
   rotate_left
   ·intro w'
    go_simp
    with_reducible rfl
   rotate_left
   ·simp only [SX]
    rfl
   refine tk 17 34 ?_ (ms 37 262143) rfl rfl HT_ HW_ (by kernel_rfl) (fun _ _ _ h => h) (by rfl) ?_ hHeld ?_ ?_ ?_
   rotate_left
   ·rintro w' ⟨s0, s1, s2, s3, s4, s5⟩
    go_simp
    with_reducible rfl
   rotate_left
   ·simp only [SX]
    rfl
   refine one_ (i := 18) (N := some 35) (ms 37 524287) rfl rfl (one_of HT_.out (by kernel_rfl)) (by decide) (fun K hK => ?_)
   refine goes_ Try.func39 (by kernel_rfl) rfl #[.int .i64 ((rd_T30 l0_2 x3_1).f2), .int .i64 (-1), .int .i64 99] (by rfl) rfl rfl (by (try simp only [List.map_toArray, List.map_cons, List.map_nil]); rfl) ?_
   with_reducible refine (spec_l1In.calls ((rd_T30 l0_2 x3_1).f2) (-1) 99 false _ A9.out).mono ?_
   rintro e w' ⟨rfl, ⟨nd, rfl⟩⟩
   refine ⟨_, rfl, ?_⟩
   refine hK.out _ _ ⟨(blk_cell BK116.out 0).trans rfl, (blk_cell BK116.out 1).trans rfl, (blk_cell BK116.out 2).trans rfl, (blk_cell BK113.out 0).trans rfl, (blk_cell BK113.out 1).trans rfl, (blk_cell BK113.out 2).trans rfl⟩ (fun hHeld => ?_)
   clear hK K
   refine norm_ (a' := ?_) ?_ ?_
   rotate_left
   ·show Act.put _ (some 35) _ = _
    simp only [SX]
    rfl
   refine pu 19 36 ?_ (ms 37 1048575) rfl rfl HT_ (by kernel_rfl) (fun _ _ _ h => h) (by rfl) ?_ ?_ ?_ ?_
   rotate_left
   ·intro w'
    go_simp
    with_reducible rfl
   rotate_left
   ·simp only [SX]
    rfl
   refine pu 20 37 ?_ (ms 37 2097151) rfl rfl HT_ (by kernel_rfl) (fun _ _ _ h => h) (by rfl) ?_ ?_ ?_ ?_
   rotate_left
   ·intro w'
    go_simp
    with_reducible rfl
   rotate_left
   ·simp only [SX]
    rfl
   refine pu 21 38 ?_ (ms 37 4194303) rfl rfl HT_ (by kernel_rfl) (fun _ _ _ h => h) (by rfl) ?_ ?_ ?_ ?_
   rotate_left
   ·intro w'
    go_simp
    with_reducible rfl
   rotate_left
   ·simp only [SX]
    rfl
   refine pure_ (i := 22) (N := some 39) (v := undef) (a' := ?_) (ms 37 8388607) rfl rfl (any_of HT_.out (by kernel_rfl)) (fun _ _ _ h => h) (Or.inr ⟨by rfl, rfl⟩) ?_ ?_
   rotate_left
   ·simp only [SX]
    rfl
   refine pure_ (i := 23) (N := some 40) (v := undef) (a' := ?_) (ms 37 16777215) rfl rfl (any_of HT_.out (by kernel_rfl)) (fun _ _ _ h => h) (Or.inr ⟨by rfl, rfl⟩) ?_ ?_
   rotate_left
   ·simp only [SX]
    rfl
   refine pure_ (i := 24) (N := some 41) (v := undef) (a' := ?_) (ms 37 33554431) rfl rfl (any_of HT_.out (by kernel_rfl)) (fun _ _ _ h => h) (Or.inr ⟨by rfl, rfl⟩) ?_ ?_
   rotate_left
   ·simp only [SX]
    rfl
   refine pure_ (i := 25) (N := some 42) (v := undef) (a' := ?_) (ms 37 67108863) rfl rfl (any_of HT_.out (by kernel_rfl)) (fun _ _ _ h => h) (Or.inr ⟨by rfl, rfl⟩) ?_ ?_
   rotate_left
   ·simp only [SX]
    rfl
   refine pure_ (i := 26) (N := some 43) (v := undef) (a' := ?_) (ms 37 134217727) rfl rfl (any_of HT_.out (by kernel_rfl)) (fun _ _ _ h => h) (Or.inr ⟨by rfl, rfl⟩) ?_ ?_
   rotate_left
   ·simp only [SX]
    rfl
   refine pure_ (i := 27) (N := some 44) (v := undef) (a' := ?_) (ms 37 268435455) rfl rfl (any_of HT_.out (by kernel_rfl)) (fun _ _ _ h => h) (Or.inr ⟨by rfl, rfl⟩) ?_ ?_
   rotate_left
   ·simp only [SX]
    rfl
   refine pure_ (i := 28) (N := some 45) (v := undef) (a' := ?_) (ms 37 536870911) rfl rfl (any_of HT_.out (by kernel_rfl)) (fun _ _ _ h => h) (Or.inr ⟨by rfl, rfl⟩) ?_ ?_
   rotate_left
   ·simp only [SX]
    rfl
   refine pure_ (i := 29) (N := some 46) (v := undef) (a' := ?_) (ms 37 1073741823) rfl rfl (any_of HT_.out (by kernel_rfl)) (fun _ _ _ h => h) (Or.inr ⟨by rfl, rfl⟩) ?_ ?_
   rotate_left
   ·simp only [SX]
    rfl
   refine pure_ (i := 30) (N := some 47) (v := undef) (a' := ?_) (ms 37 2147483647) rfl rfl (any_of HT_.out (by kernel_rfl)) (fun _ _ _ h => h) (Or.inr ⟨by rfl, rfl⟩) ?_ ?_
   rotate_left
   ·simp only [SX]
    rfl
   refine pure_ (i := 31) (N := some 48) (v := undef) (a' := ?_) (ms 37 4294967295) rfl rfl (any_of HT_.out (by kernel_rfl)) (fun _ _ _ h => h) (Or.inr ⟨by rfl, rfl⟩) ?_ ?_
   rotate_left
   ·simp only [SX]
    rfl
   refine pure_ (i := 32) (N := some 49) (v := undef) (a' := ?_) (ms 37 8589934591) rfl rfl (any_of HT_.out (by kernel_rfl)) (fun _ _ _ h => h) (Or.inr ⟨by rfl, rfl⟩) ?_ ?_
   rotate_left
   ·simp only [SX]
    rfl
   refine pure_ (i := 33) (N := some 50) (v := undef) (a' := ?_) (ms 37 17179869183) rfl rfl (any_of HT_.out (by kernel_rfl)) (fun _ _ _ h => h) (Or.inr ⟨by rfl, rfl⟩) ?_ ?_
   rotate_left
   ·simp only [SX]
    rfl
   refine pure_ (i := 34) (N := some 51) (v := undef) (a' := ?_) (ms 37 34359738367) rfl rfl (any_of HT_.out (by kernel_rfl)) (fun _ _ _ h => h) (Or.inr ⟨by rfl, rfl⟩) ?_ ?_
   rotate_left
   ·simp only [SX]
    rfl
   refine pure_ (i := 35) (N := some 52) (v := undef) (a' := ?_) (ms 37 68719476735) rfl rfl (any_of HT_.out (by kernel_rfl)) (fun _ _ _ h => h) (Or.inr ⟨by rfl, rfl⟩) ?_ ?_
   rotate_left
   ·simp only [SX]
    rfl
   refine pu 36 53 ?_ (ms 37 137438953471) rfl rfl HT_ (by kernel_rfl) (fun _ _ _ h => h) (by rfl) ?_ ?_ ?_ ?_
   rotate_left
   ·intro w'
    go_simp
    with_reducible rfl
   rotate_left
   ·simp only [SX]
    rfl
   refine done_ (done_of HT_.out (by kernel_rfl)) ?_
   try go_wp2
   go_ret
   exact ⟨by rfl, bl2 HB GE113 GE116⟩
  subst c10
  rw [if_pos rfl] at H
  by_cases c11 : x3_1 > 0
  rotate_left
  ·rw [if_neg c11] at H
   have c11b0 : decide (0 < x3_1) = false := decide_eq_false c11
   clear c11
   have H' := ak H
   clear H
   have hcz28_0 := bc wr BK113 0 (.int .i64 a0_0) rfl
   have hcz28_1 := bc wr BK113 1 (.slice A0_1 l0_1.length c0_1) rfl
   have hcz28_2 := bc wr BK113 2 (.slice A0_2 l0_2.length c0_2) rfl
   have hfz28_0 := fz BK113 0
   have hfz28_1 := fz BK113 1
   have hfz28_2 := fz BK113 2
   have p115 : 0 ≤ (x3_1 : Int) := oT (by (with_reducible assumption))
   have q115 : x3_1 < (l0_2.length : Int) := oT (by (with_reducible assumption))
   obtain ⟨ad115, e115, hx115_0, hx115_1, hx115_2⟩ := at_T30 HR0_2.out x3_1 p115 q115
   cases e115
   replace hx115_0 := hcb HB.out hx115_0
   replace hx115_1 := hcb HB.out hx115_1
   replace hx115_2 := hcb HB.out hx115_2
   replace p115 := eq_true p115
   replace q115 := eq_true q115
   try go_wp2_with (((with_reducible refine gate_dst (N := 4) rfl ?_); refine box_event ?hg (N := 4) ?hd (cs := #[.int .i64 0, .int .i64 0, .int .i64 0]) (t := 30) ?hr ?_; (case hd => rfl); (case hg => rfl); (case hr => (go_simp; done)); intro gb116 hg w29 hbox hb; have BK116 := ak (hbox); have GW116 := ak ((by rw [hg]; exact (below_size (bl1 HB GE113)) : w.heap.size ≤ gb116)); have GE116 := ak ((by rw [hg]; exact (below_size (bl1 HB GE113)) : w.heap.size ≤ gb116)); replace HB := ak (below_step (bl1 HB GE113) hb); have NB113_116 := ak ((by rw [hg]; exact Nat.ne_of_lt (blk_lt (bk BK113)) : gb113 ≠ gb116)); have NB116_113 := ak ((by rw [hg]; exact Nat.ne_of_gt (blk_lt (bk BK113)) : gb116 ≠ gb113)); replace BK113 := ak (blk_below (bk BK113) hb); clear hb hbox hg; have hnb30 := NB116_113.out; have hnc30 := NB113_116.out; have hcz31_0 := bc w29 BK116 0 (.int .i64 0) rfl; have hcz31_1 := bc w29 BK116 1 (.int .i64 0) rfl; have hcz31_2 := bc w29 BK116 2 (.int .i64 0) rfl; have hfz31_0 := fz BK116 0; have hfz31_1 := fz BK116 1; have hfz31_2 := fz BK116 2))
   have n0_ : Aside0 ((((w29.setCell ⟨gb116, 0, none⟩ (.int .i64 ((rd_T30 l0_2 x3_1).f0))).setCell ⟨gb116, 1, none⟩ (.int .i64 ((rd_T30 l0_2 x3_1).f1))).setCell ⟨gb116, 2, none⟩ (.int .i64 ((rd_T30 l0_2 x3_1).f2))).heap[gb113]? = some (.cells #[.int .i64 a0_0, .slice A0_1 l0_1.length c0_1, .slice (some ad115) l0_2.length c0_2] 28 (0, 0))) := ⟨by refine blk_far ?_ NB113_116.out _; refine blk_far ?_ NB113_116.out _; refine blk_far ?_ NB113_116.out _; exact BK113.out⟩
   have n1_ : Aside0 ((((w29.setCell ⟨gb116, 0, none⟩ (.int .i64 ((rd_T30 l0_2 x3_1).f0))).setCell ⟨gb116, 1, none⟩ (.int .i64 ((rd_T30 l0_2 x3_1).f1))).setCell ⟨gb116, 2, none⟩ (.int .i64 ((rd_T30 l0_2 x3_1).f2))).heap[gb116]? = some (.cells #[.int .i64 ((rd_T30 l0_2 x3_1).f0), .int .i64 ((rd_T30 l0_2 x3_1).f1), .int .i64 ((rd_T30 l0_2 x3_1).f2)] 30 (0, 0))) := ⟨by refine blk_put (cs := #[.int .i64 ((rd_T30 l0_2 x3_1).f0), .int .i64 ((rd_T30 l0_2 x3_1).f1), .int .i64 0]) ?_ 2 _ rfl; refine blk_put (cs := #[.int .i64 ((rd_T30 l0_2 x3_1).f0), .int .i64 0, .int .i64 0]) ?_ 1 _ rfl; refine blk_put (cs := #[.int .i64 0, .int .i64 0, .int .i64 0]) ?_ 0 _ rfl; exact BK116.out⟩
   have n2_ : Aside0 (Below w.heap.size w (((w29.setCell ⟨gb116, 0, none⟩ (.int .i64 ((rd_T30 l0_2 x3_1).f0))).setCell ⟨gb116, 1, none⟩ (.int .i64 ((rd_T30 l0_2 x3_1).f1))).setCell ⟨gb116, 2, none⟩ (.int .i64 ((rd_T30 l0_2 x3_1).f2)))) := ⟨bl2 HB GE113 GE116⟩
   (try clear BK113)
   (try clear BK116)
   (try clear HB)
   generalize (((w29.setCell ⟨gb116, 0, none⟩ (.int .i64 ((rd_T30 l0_2 x3_1).f0))).setCell ⟨gb116, 1, none⟩ (.int .i64 ((rd_T30 l0_2 x3_1).f1))).setCell ⟨gb116, 2, none⟩ (.int .i64 ((rd_T30 l0_2 x3_1).f2))) = w32 at n0_ n1_ n2_ ⊢
   have BK113 := n0_
   have BK116 := n1_
   have HB := n2_
   clear n0_ n1_ n2_
   replace BK113 := ak (blk_drew BK113.out)
   replace BK116 := ak (blk_drew BK116.out)
   replace HB := ak (below_drew1 HB.out)
   refine start_ (n := 37) (S := fun w' => w'.cell? ⟨gb116, 0, none⟩ = some (.int .i64 ((rd_T30 l0_2 x3_1).f0)) ∧ w'.cell? ⟨gb116, 1, none⟩ = some (.int .i64 ((rd_T30 l0_2 x3_1).f1)) ∧ w'.cell? ⟨gb116, 2, none⟩ = some (.int .i64 ((rd_T30 l0_2 x3_1).f2)) ∧ w'.cell? ⟨gb113, 0, none⟩ = some (.int .i64 a0_0) ∧ w'.cell? ⟨gb113, 1, none⟩ = some (.slice A0_1 l0_1.length c0_1) ∧ w'.cell? ⟨gb113, 2, none⟩ = some (.slice (some ad115) l0_2.length c0_2)) (ds := []) (ms 37 0) (by kernel_rfl) rfl (by kernel_rfl) ⟨(blk_cell BK116.out 0).trans rfl, (blk_cell BK116.out 1).trans rfl, (blk_cell BK116.out 2).trans rfl, (blk_cell BK113.out 0).trans rfl, (blk_cell BK113.out 1).trans rfl, (blk_cell BK113.out 2).trans rfl⟩ (fun hHeld => ?_); refine with_tabW spec_l16Ok.tab5 spec_l16Ok.bits5 (fun HT_ HW_ => ?_)
   generalize w32.drew = w33 at BK113 BK116 HB hHeld ⊢
   refine pu 0 17 ?_ (ms 37 1) rfl rfl HT_ (by kernel_rfl) (fun _ _ _ h => h) (by rfl) ?_ ?_ ?_ ?_
   rotate_left
   ·intro w'
    go_simp
    with_reducible rfl
   rotate_left
   ·simp only [SX]
    rfl
   refine tk 1 18 ?_ (ms 37 3) rfl rfl HT_ HW_ (by kernel_rfl) (fun _ _ _ h => h) (by rfl) ?_ hHeld ?_ ?_ ?_
   rotate_left
   ·rintro w' ⟨s0, s1, s2, s3, s4, s5⟩
    go_simp
    with_reducible rfl
   rotate_left
   ·simp only [SX]
    rfl
   refine one_ (i := 2) (N := some 19) (ms 37 7) rfl rfl (one_of HT_.out (by kernel_rfl)) (by decide) (fun K hK => ?_)
   refine goes_ Try.func39 (by kernel_rfl) rfl #[.int .i64 ((rd_T30 l0_2 x3_1).f0), .int .i64 1, .int .i64 999] (by rfl) rfl rfl (by (try simp only [List.map_toArray, List.map_cons, List.map_nil]); rfl) ?_
   with_reducible refine (spec_l1In.calls ((rd_T30 l0_2 x3_1).f0) 1 999 true _ A5.out).mono ?_
   rintro e w' ⟨rfl, ⟨nd, rfl⟩⟩
   refine ⟨_, rfl, ?_⟩
   refine hK.out _ _ ⟨(blk_cell BK116.out 0).trans rfl, (blk_cell BK116.out 1).trans rfl, (blk_cell BK116.out 2).trans rfl, (blk_cell BK113.out 0).trans rfl, (blk_cell BK113.out 1).trans rfl, (blk_cell BK113.out 2).trans rfl⟩ (fun hHeld => ?_)
   clear hK K
   refine norm_ (a' := ?_) ?_ ?_
   rotate_left
   ·show Act.put _ (some 19) _ = _
    simp only [SX]
    rfl
   refine pu 3 20 ?_ (ms 37 15) rfl rfl HT_ (by kernel_rfl) (fun _ _ _ h => h) (by rfl) ?_ ?_ ?_ ?_
   rotate_left
   ·intro w'
    go_simp
    with_reducible rfl
   rotate_left
   ·simp only [SX]
    rfl
   refine pu 4 21 ?_ (ms 37 31) rfl rfl HT_ (by kernel_rfl) (fun _ _ _ h => h) (by rfl) ?_ ?_ ?_ ?_
   rotate_left
   ·intro w'
    go_simp
    with_reducible rfl
   rotate_left
   ·simp only [SX]
    rfl
   refine pu 5 22 ?_ (ms 37 63) rfl rfl HT_ (by kernel_rfl) (fun _ _ _ h => h) (by rfl) ?_ ?_ ?_ ?_
   rotate_left
   ·intro w'
    go_simp
    with_reducible rfl
   rotate_left
   ·simp only [SX]
    rfl
   refine pu 7 24 ?_ (ms 37 191) rfl rfl HT_ (by kernel_rfl) (fun _ _ _ h => h) (by rfl) ?_ ?_ ?_ ?_
   rotate_left
   ·intro w'
    go_simp
    with_reducible rfl
   rotate_left
   ·simp only [SX]
    rfl
   refine pu 8 25 ?_ (ms 37 447) rfl rfl HT_ (by kernel_rfl) (fun _ _ _ h => h) (by rfl) ?_ ?_ ?_ ?_
   rotate_left
   ·intro w'
    go_simp
    with_reducible rfl
   rotate_left
   ·simp only [SX]
    rfl
   refine tk 6 23 ?_ (ms 37 511) rfl rfl HT_ HW_ (by kernel_rfl) (fun _ _ _ h => h) (by rfl) ?_ hHeld ?_ ?_ ?_
   rotate_left
   ·rintro w' ⟨s0, s1, s2, s3, s4, s5⟩
    go_simp
    with_reducible rfl
   rotate_left
   ·simp only [SX]
    rfl
   refine tk 9 26 ?_ (ms 37 1023) rfl rfl HT_ HW_ (by kernel_rfl) (fun _ _ _ h => h) (by rfl) ?_ hHeld ?_ ?_ ?_
   rotate_left
   ·rintro w' ⟨s0, s1, s2, s3, s4, s5⟩
    go_simp
    with_reducible rfl
   rotate_left
   ·simp only [SX]
    rfl
   refine pu 10 27 ?_ (ms 37 2047) rfl rfl HT_ (by kernel_rfl) (fun _ _ _ h => h) (by rfl) ?_ ?_ ?_ ?_
   rotate_left
   ·intro w'
    go_simp
    with_reducible rfl
   rotate_left
   ·simp only [SX]
    rfl
   refine pu 11 28 ?_ (ms 37 4095) rfl rfl HT_ (by kernel_rfl) (fun _ _ _ h => h) (by rfl) ?_ ?_ ?_ ?_
   rotate_left
   ·intro w'
    go_simp
    with_reducible rfl
   rotate_left
   ·simp only [SX]
    rfl
   refine one_ (i := 12) (N := some 29) (ms 37 8191) rfl rfl (one_of HT_.out (by kernel_rfl)) (by decide) (fun K hK => ?_)
   refine goes_ Try.func39 (by kernel_rfl) rfl #[.int .i64 ((rd_T30 l0_2 x3_1).f1), .int .i64 0, .int .i64 (wrap64 ((l0_1.length : Int) - 1))] (by rfl) rfl rfl (by (try simp only [List.map_toArray, List.map_cons, List.map_nil]); rfl) ?_
   with_reducible refine (spec_l1In.calls ((rd_T30 l0_2 x3_1).f1) 0 (wrap64 ((l0_1.length : Int) - 1)) true _ A7.out).mono ?_
   rintro e w' ⟨rfl, ⟨nd, rfl⟩⟩
   refine ⟨_, rfl, ?_⟩
   refine hK.out _ _ ⟨(blk_cell BK116.out 0).trans rfl, (blk_cell BK116.out 1).trans rfl, (blk_cell BK116.out 2).trans rfl, (blk_cell BK113.out 0).trans rfl, (blk_cell BK113.out 1).trans rfl, (blk_cell BK113.out 2).trans rfl⟩ (fun hHeld => ?_)
   clear hK K
   refine norm_ (a' := ?_) ?_ ?_
   rotate_left
   ·show Act.put _ (some 29) _ = _
    simp only [SX]
    rfl
   refine pu 13 30 ?_ (ms 37 16383) rfl rfl HT_ (by kernel_rfl) (fun _ _ _ h => h) (by rfl) ?_ ?_ ?_ ?_
   rotate_left
   ·intro w'
    go_simp
    with_reducible rfl
   rotate_left
   ·simp only [SX]
    rfl
   refine pu 14 31 ?_ (ms 37 32767) rfl rfl HT_ (by kernel_rfl) (fun _ _ _ h => h) (by rfl) ?_ ?_ ?_ ?_
   rotate_left
   ·intro w'
    go_simp
    with_reducible rfl
   rotate_left
   ·simp only [SX]
    rfl
   refine pu 15 32 ?_ (ms 37 65535) rfl rfl HT_ (by kernel_rfl) (fun _ _ _ h => h) (by rfl) ?_ ?_ ?_ ?_
   rotate_left
   ·intro w'
    go_simp
    with_reducible rfl
   rotate_left
   ·simp only [SX]
    rfl
   refine pu 16 33 ?_ (ms 37 131071) rfl rfl HT_ (by kernel_rfl) (fun _ _ _ h => h) (by rfl) ?_ ?_ ?_ ?_
   rotate_left
   ·intro w'
    go_simp
    with_reducible rfl
   rotate_left
   ·simp only [SX]
    rfl
   refine tk 17 34 ?_ (ms 37 262143) rfl rfl HT_ HW_ (by kernel_rfl) (fun _ _ _ h => h) (by rfl) ?_ hHeld ?_ ?_ ?_
   rotate_left
   ·rintro w' ⟨s0, s1, s2, s3, s4, s5⟩
    go_simp
    with_reducible rfl
   rotate_left
   ·simp only [SX]
    rfl
   refine one_ (i := 18) (N := some 35) (ms 37 524287) rfl rfl (one_of HT_.out (by kernel_rfl)) (by decide) (fun K hK => ?_)
   refine goes_ Try.func39 (by kernel_rfl) rfl #[.int .i64 ((rd_T30 l0_2 x3_1).f2), .int .i64 (-1), .int .i64 99] (by rfl) rfl rfl (by (try simp only [List.map_toArray, List.map_cons, List.map_nil]); rfl) ?_
   with_reducible refine (spec_l1In.calls ((rd_T30 l0_2 x3_1).f2) (-1) 99 true _ A9.out).mono ?_
   rintro e w' ⟨rfl, ⟨nd, rfl⟩⟩
   refine ⟨_, rfl, ?_⟩
   refine hK.out _ _ ⟨(blk_cell BK116.out 0).trans rfl, (blk_cell BK116.out 1).trans rfl, (blk_cell BK116.out 2).trans rfl, (blk_cell BK113.out 0).trans rfl, (blk_cell BK113.out 1).trans rfl, (blk_cell BK113.out 2).trans rfl⟩ (fun hHeld => ?_)
   clear hK K
   refine norm_ (a' := ?_) ?_ ?_
   rotate_left
   ·show Act.put _ (some 35) _ = _
    simp only [SX]
    rfl
   refine pu 19 36 ?_ (ms 37 1048575) rfl rfl HT_ (by kernel_rfl) (fun _ _ _ h => h) (by rfl) ?_ ?_ ?_ ?_
   rotate_left
   ·intro w'
    go_simp
    with_reducible rfl
   rotate_left
   ·simp only [SX]
    rfl
   refine pu 20 37 ?_ (ms 37 2097151) rfl rfl HT_ (by kernel_rfl) (fun _ _ _ h => h) (by rfl) ?_ ?_ ?_ ?_
   rotate_left
   ·intro w'
    go_simp
    with_reducible rfl
   rotate_left
   ·simp only [SX]
    rfl
   refine pu 21 38 ?_ (ms 37 4194303) rfl rfl HT_ (by kernel_rfl) (fun _ _ _ h => h) (by rfl) ?_ ?_ ?_ ?_
   rotate_left
   ·intro w'
    go_simp
    with_reducible rfl
   rotate_left
   ·simp only [SX]
    rfl
   refine pu 22 39 ?_ (ms 37 8388607) rfl rfl HT_ (by kernel_rfl) (fun _ _ _ h => h) (by rfl) ?_ ?_ ?_ ?_
   rotate_left
   ·intro w'
    go_simp
    with_reducible rfl
   rotate_left
   ·simp only [SX]
    rfl
   refine pu 23 40 ?_ (ms 37 16777215) rfl rfl HT_ (by kernel_rfl) (fun _ _ _ h => h) (by rfl) ?_ ?_ ?_ ?_
   rotate_left
   ·intro w'
    go_simp
    with_reducible rfl
   rotate_left
   ·simp only [SX]
    rfl
   refine pu 24 41 ?_ (ms 37 33554431) rfl rfl HT_ (by kernel_rfl) (fun _ _ _ h => h) (by rfl) ?_ ?_ ?_ ?_
   rotate_left
   ·intro w'
    go_simp
    with_reducible rfl
   rotate_left
   ·simp only [SX]
    rfl
   refine pure_ (i := 25) (N := some 42) (v := undef) (a' := ?_) (ms 37 67108863) rfl rfl (any_of HT_.out (by kernel_rfl)) (fun _ _ _ h => h) (Or.inr ⟨by rfl, rfl⟩) ?_ ?_
   rotate_left
   ·simp only [SX]
    rfl
   refine pure_ (i := 26) (N := some 43) (v := undef) (a' := ?_) (ms 37 134217727) rfl rfl (any_of HT_.out (by kernel_rfl)) (fun _ _ _ h => h) (Or.inr ⟨by rfl, rfl⟩) ?_ ?_
   rotate_left
   ·simp only [SX]
    rfl
   refine pure_ (i := 27) (N := some 44) (v := undef) (a' := ?_) (ms 37 268435455) rfl rfl (any_of HT_.out (by kernel_rfl)) (fun _ _ _ h => h) (Or.inr ⟨by rfl, rfl⟩) ?_ ?_
   rotate_left
   ·simp only [SX]
    rfl
   refine pure_ (i := 28) (N := some 45) (v := undef) (a' := ?_) (ms 37 536870911) rfl rfl (any_of HT_.out (by kernel_rfl)) (fun _ _ _ h => h) (Or.inr ⟨by rfl, rfl⟩) ?_ ?_
   rotate_left
   ·simp only [SX]
    rfl
   refine pure_ (i := 29) (N := some 46) (v := undef) (a' := ?_) (ms 37 1073741823) rfl rfl (any_of HT_.out (by kernel_rfl)) (fun _ _ _ h => h) (Or.inr ⟨by rfl, rfl⟩) ?_ ?_
   rotate_left
   ·simp only [SX]
    rfl
   refine pure_ (i := 30) (N := some 47) (v := undef) (a' := ?_) (ms 37 2147483647) rfl rfl (any_of HT_.out (by kernel_rfl)) (fun _ _ _ h => h) (Or.inr ⟨by rfl, rfl⟩) ?_ ?_
   rotate_left
   ·simp only [SX]
    rfl
   refine pure_ (i := 31) (N := some 48) (v := undef) (a' := ?_) (ms 37 4294967295) rfl rfl (any_of HT_.out (by kernel_rfl)) (fun _ _ _ h => h) (Or.inr ⟨by rfl, rfl⟩) ?_ ?_
   rotate_left
   ·simp only [SX]
    rfl
   refine pure_ (i := 32) (N := some 49) (v := undef) (a' := ?_) (ms 37 8589934591) rfl rfl (any_of HT_.out (by kernel_rfl)) (fun _ _ _ h => h) (Or.inr ⟨by rfl, rfl⟩) ?_ ?_
   rotate_left
   ·simp only [SX]
    rfl
   refine pure_ (i := 33) (N := some 50) (v := undef) (a' := ?_) (ms 37 17179869183) rfl rfl (any_of HT_.out (by kernel_rfl)) (fun _ _ _ h => h) (Or.inr ⟨by rfl, rfl⟩) ?_ ?_
   rotate_left
   ·simp only [SX]
    rfl
   refine pure_ (i := 34) (N := some 51) (v := undef) (a' := ?_) (ms 37 34359738367) rfl rfl (any_of HT_.out (by kernel_rfl)) (fun _ _ _ h => h) (Or.inr ⟨by rfl, rfl⟩) ?_ ?_
   rotate_left
   ·simp only [SX]
    rfl
   refine pu 35 52 ?_ (ms 37 68719476735) rfl rfl HT_ (by kernel_rfl) (fun _ _ _ h => h) (by rfl) ?_ ?_ ?_ ?_
   rotate_left
   ·intro w'
    go_simp
    with_reducible rfl
   rotate_left
   ·simp only [SX]
    rfl
   refine pu 36 53 ?_ (ms 37 137438953471) rfl rfl HT_ (by kernel_rfl) (fun _ _ _ h => h) (by rfl) ?_ ?_ ?_ ?_
   rotate_left
   ·intro w'
    go_simp
    with_reducible rfl
   rotate_left
   ·simp only [SX]
    rfl
   refine done_ (done_of HT_.out (by kernel_rfl)) ?_
   try go_wp2
   go_roundg k1
   case measure => have := HK1.out; omega
   case rel => exact ⟨(wrap64 (x3_1 + 1)), (by rfl), H', ⟨by have := HK1.out; omega⟩, ⟨bk BK113⟩, ⟨bl2 HB GE113 GE116⟩⟩
  rw [if_pos c11] at H
  have c11b0 : decide (0 < x3_1) = true := decide_eq_true c11
  clear c11
  obtain ⟨ji12, hji12⟩ : ∃ j_ : Int, (wrap64 (x3_1 - 1)) = j_ := ⟨_, rfl⟩
  replace H : (if 0 ≤ (ji12) then (if (ji12) < (l0_2.length : Int) then (if ((rd_T30 l0_2 x3_1).f0) ≤ ((rd_T30 l0_2 (ji12)).f0) then (some false) else (spec_l16Ok.l0 k1 (wrap64 (x3_1 + 1)) a0_0 l0_1 l0_2)) else (none)) else (none)) = some r := by (rw [hji12] at H; exact H)
  (try rw [hji12] at A5)
  (try rw [hji12] at A7)
  (try rw [hji12] at A9)
  have hji12w : (IntKind.i64.wrap (x3_1 - 1)) = ji12 := (i64_w _).trans hji12
  by_cases c13 : 0 ≤ (ji12)
  rotate_left
  ·rw [if_neg c13] at H
   exact absurd H (by simp)
  rw [if_pos c13] at H
  have c13b0 : decide (0 ≤ (ji12)) = true := decide_eq_true c13
  clear c13
  by_cases c14 : (ji12) < (l0_2.length : Int)
  rotate_left
  ·rw [if_neg c14] at H
   exact absurd H (by simp)
  rw [if_pos c14] at H
  have c14b0 : decide ((ji12) < (l0_2.length : Int)) = true := decide_eq_true c14
  clear c14
  by_cases c15 : ((rd_T30 l0_2 x3_1).f0) ≤ ((rd_T30 l0_2 (ji12)).f0)
  ·rw [if_pos c15] at H
   have c15b0 : decide (((rd_T30 l0_2 x3_1).f0) ≤ ((rd_T30 l0_2 (ji12)).f0)) = true := decide_eq_true c15
   clear c15
   obtain rfl := Option.some.inj H
   have hcz16_0 := bc wr BK113 0 (.int .i64 a0_0) rfl
   have hcz16_1 := bc wr BK113 1 (.slice A0_1 l0_1.length c0_1) rfl
   have hcz16_2 := bc wr BK113 2 (.slice A0_2 l0_2.length c0_2) rfl
   have hfz16_0 := fz BK113 0
   have hfz16_1 := fz BK113 1
   have hfz16_2 := fz BK113 2
   have p115 : 0 ≤ (x3_1 : Int) := oT (by (with_reducible assumption))
   have q115 : x3_1 < (l0_2.length : Int) := oT (by (with_reducible assumption))
   obtain ⟨ad115, e115, hx115_0, hx115_1, hx115_2⟩ := at_T30 HR0_2.out x3_1 p115 q115
   cases e115
   replace hx115_0 := hcb HB.out hx115_0
   replace hx115_1 := hcb HB.out hx115_1
   replace hx115_2 := hcb HB.out hx115_2
   replace p115 := eq_true p115
   replace q115 := eq_true q115
   try go_wp2_with (((with_reducible refine gate_dst (N := 4) rfl ?_); refine box_event ?hg (N := 4) ?hd (cs := #[.int .i64 0, .int .i64 0, .int .i64 0]) (t := 30) ?hr ?_; (case hd => rfl); (case hg => rfl); (case hr => (go_simp; done)); intro gb116 hg w17 hbox hb; have BK116 := ak (hbox); have GW116 := ak ((by rw [hg]; exact (below_size (bl1 HB GE113)) : w.heap.size ≤ gb116)); have GE116 := ak ((by rw [hg]; exact (below_size (bl1 HB GE113)) : w.heap.size ≤ gb116)); replace HB := ak (below_step (bl1 HB GE113) hb); have NB113_116 := ak ((by rw [hg]; exact Nat.ne_of_lt (blk_lt (bk BK113)) : gb113 ≠ gb116)); have NB116_113 := ak ((by rw [hg]; exact Nat.ne_of_gt (blk_lt (bk BK113)) : gb116 ≠ gb113)); replace BK113 := ak (blk_below (bk BK113) hb); clear hb hbox hg; have hnb18 := NB116_113.out; have hnc18 := NB113_116.out; have hcz19_0 := bc w17 BK116 0 (.int .i64 0) rfl; have hcz19_1 := bc w17 BK116 1 (.int .i64 0) rfl; have hcz19_2 := bc w17 BK116 2 (.int .i64 0) rfl; have hfz19_0 := fz BK116 0; have hfz19_1 := fz BK116 1; have hfz19_2 := fz BK116 2))
   have n0_ : Aside0 ((((w17.setCell ⟨gb116, 0, none⟩ (.int .i64 ((rd_T30 l0_2 x3_1).f0))).setCell ⟨gb116, 1, none⟩ (.int .i64 ((rd_T30 l0_2 x3_1).f1))).setCell ⟨gb116, 2, none⟩ (.int .i64 ((rd_T30 l0_2 x3_1).f2))).heap[gb113]? = some (.cells #[.int .i64 a0_0, .slice A0_1 l0_1.length c0_1, .slice (some ad115) l0_2.length c0_2] 28 (0, 0))) := ⟨by refine blk_far ?_ NB113_116.out _; refine blk_far ?_ NB113_116.out _; refine blk_far ?_ NB113_116.out _; exact BK113.out⟩
   have n1_ : Aside0 ((((w17.setCell ⟨gb116, 0, none⟩ (.int .i64 ((rd_T30 l0_2 x3_1).f0))).setCell ⟨gb116, 1, none⟩ (.int .i64 ((rd_T30 l0_2 x3_1).f1))).setCell ⟨gb116, 2, none⟩ (.int .i64 ((rd_T30 l0_2 x3_1).f2))).heap[gb116]? = some (.cells #[.int .i64 ((rd_T30 l0_2 x3_1).f0), .int .i64 ((rd_T30 l0_2 x3_1).f1), .int .i64 ((rd_T30 l0_2 x3_1).f2)] 30 (0, 0))) := ⟨by refine blk_put (cs := #[.int .i64 ((rd_T30 l0_2 x3_1).f0), .int .i64 ((rd_T30 l0_2 x3_1).f1), .int .i64 0]) ?_ 2 _ rfl; refine blk_put (cs := #[.int .i64 ((rd_T30 l0_2 x3_1).f0), .int .i64 0, .int .i64 0]) ?_ 1 _ rfl; refine blk_put (cs := #[.int .i64 0, .int .i64 0, .int .i64 0]) ?_ 0 _ rfl; exact BK116.out⟩
   have n2_ : Aside0 (Below w.heap.size w (((w17.setCell ⟨gb116, 0, none⟩ (.int .i64 ((rd_T30 l0_2 x3_1).f0))).setCell ⟨gb116, 1, none⟩ (.int .i64 ((rd_T30 l0_2 x3_1).f1))).setCell ⟨gb116, 2, none⟩ (.int .i64 ((rd_T30 l0_2 x3_1).f2)))) := ⟨bl2 HB GE113 GE116⟩
   (try clear BK113)
   (try clear BK116)
   (try clear HB)
   generalize (((w17.setCell ⟨gb116, 0, none⟩ (.int .i64 ((rd_T30 l0_2 x3_1).f0))).setCell ⟨gb116, 1, none⟩ (.int .i64 ((rd_T30 l0_2 x3_1).f1))).setCell ⟨gb116, 2, none⟩ (.int .i64 ((rd_T30 l0_2 x3_1).f2))) = w20 at n0_ n1_ n2_ ⊢
   have BK113 := n0_
   have BK116 := n1_
   have HB := n2_
   clear n0_ n1_ n2_
   replace BK113 := ak (blk_drew BK113.out)
   replace BK116 := ak (blk_drew BK116.out)
   replace HB := ak (below_drew1 HB.out)
   have p120 : 0 ≤ ((ji12) : Int) := oT (by (with_reducible assumption))
   have q120 : (ji12) < (l0_2.length : Int) := oT (by (with_reducible assumption))
   obtain ⟨ad120, e120, hx120_0, hx120_1, hx120_2⟩ := at_T30 HR0_2.out (ji12) p120 q120
   have hw120_2 := hx120_2
   have hw120_1 := hx120_1
   have hw120_0 := hx120_0
   obtain rfl : ad115 = ad120 := (by injection e120)
   replace hx120_0 := hcb HB.out hx120_0
   replace hx120_1 := hcb HB.out hx120_1
   replace hx120_2 := hcb HB.out hx120_2
   replace p120 := eq_true p120
   replace q120 := eq_true q120
   refine start_ (n := 37) (S := fun w' => w'.cell? ⟨gb116, 0, none⟩ = some (.int .i64 ((rd_T30 l0_2 x3_1).f0)) ∧ w'.cell? ⟨gb116, 1, none⟩ = some (.int .i64 ((rd_T30 l0_2 x3_1).f1)) ∧ w'.cell? ⟨gb116, 2, none⟩ = some (.int .i64 ((rd_T30 l0_2 x3_1).f2)) ∧ w'.cell? ⟨gb113, 0, none⟩ = some (.int .i64 a0_0) ∧ w'.cell? ⟨gb113, 1, none⟩ = some (.slice A0_1 l0_1.length c0_1) ∧ w'.cell? ⟨gb113, 2, none⟩ = some (.slice (some ad115) l0_2.length c0_2) ∧ w'.cell? (ad115.add (((ji12)).toNat * 3)) = some (.int .i64 ((rd_T30 l0_2 (ji12)).f0)) ∧ w'.cell? ⟨(ad115.add (((ji12)).toNat * 3)).block, (ad115.add (((ji12)).toNat * 3)).off + 1, none⟩ = some (.int .i64 ((rd_T30 l0_2 (ji12)).f1)) ∧ w'.cell? ⟨(ad115.add (((ji12)).toNat * 3)).block, (ad115.add (((ji12)).toNat * 3)).off + 2, none⟩ = some (.int .i64 ((rd_T30 l0_2 (ji12)).f2))) (ds := []) (ms 37 0) (by kernel_rfl) rfl (by kernel_rfl) ⟨(blk_cell BK116.out 0).trans rfl, (blk_cell BK116.out 1).trans rfl, (blk_cell BK116.out 2).trans rfl, (blk_cell BK113.out 0).trans rfl, (blk_cell BK113.out 1).trans rfl, (blk_cell BK113.out 2).trans rfl, ((HB.out.cell (World.block_lt_of_cell? w _ hw120_0)).trans hw120_0), ((HB.out.cell (World.block_lt_of_cell? w _ hw120_1)).trans hw120_1), ((HB.out.cell (World.block_lt_of_cell? w _ hw120_2)).trans hw120_2)⟩ (fun hHeld => ?_); refine with_tabW spec_l16Ok.tab5 spec_l16Ok.bits5 (fun HT_ HW_ => ?_)
   generalize w20.drew = w21 at BK113 BK116 HB hx120_0 hx120_1 hx120_2 hHeld ⊢
   refine pu 0 17 ?_ (ms 37 1) rfl rfl HT_ (by kernel_rfl) (fun _ _ _ h => h) (by rfl) ?_ ?_ ?_ ?_
   rotate_left
   ·intro w'
    go_simp
    with_reducible rfl
   rotate_left
   ·simp only [SX]
    rfl
   refine tk 1 18 ?_ (ms 37 3) rfl rfl HT_ HW_ (by kernel_rfl) (fun _ _ _ h => h) (by rfl) ?_ hHeld ?_ ?_ ?_
   rotate_left
   ·rintro w' ⟨s0, s1, s2, s3, s4, s5, s6, s7, s8⟩
    go_simp
    with_reducible rfl
   rotate_left
   ·simp only [SX]
    rfl
   refine one_ (i := 2) (N := some 19) (ms 37 7) rfl rfl (one_of HT_.out (by kernel_rfl)) (by decide) (fun K hK => ?_)
   refine goes_ Try.func39 (by kernel_rfl) rfl #[.int .i64 ((rd_T30 l0_2 x3_1).f0), .int .i64 1, .int .i64 999] (by rfl) rfl rfl (by (try simp only [List.map_toArray, List.map_cons, List.map_nil]); rfl) ?_
   with_reducible refine (spec_l1In.calls ((rd_T30 l0_2 x3_1).f0) 1 999 true _ A5.out).mono ?_
   rintro e w' ⟨rfl, ⟨nd, rfl⟩⟩
   refine ⟨_, rfl, ?_⟩
   refine hK.out _ _ ⟨(blk_cell BK116.out 0).trans rfl, (blk_cell BK116.out 1).trans rfl, (blk_cell BK116.out 2).trans rfl, (blk_cell BK113.out 0).trans rfl, (blk_cell BK113.out 1).trans rfl, (blk_cell BK113.out 2).trans rfl, ((HB.out.cell (World.block_lt_of_cell? w _ hw120_0)).trans hw120_0), ((HB.out.cell (World.block_lt_of_cell? w _ hw120_1)).trans hw120_1), ((HB.out.cell (World.block_lt_of_cell? w _ hw120_2)).trans hw120_2)⟩ (fun hHeld => ?_)
   clear hK K
   refine norm_ (a' := ?_) ?_ ?_
   rotate_left
   ·show Act.put _ (some 19) _ = _
    simp only [SX]
    rfl
   refine pu 3 20 ?_ (ms 37 15) rfl rfl HT_ (by kernel_rfl) (fun _ _ _ h => h) (by rfl) ?_ ?_ ?_ ?_
   rotate_left
   ·intro w'
    go_simp
    with_reducible rfl
   rotate_left
   ·simp only [SX]
    rfl
   refine pu 4 21 ?_ (ms 37 31) rfl rfl HT_ (by kernel_rfl) (fun _ _ _ h => h) (by rfl) ?_ ?_ ?_ ?_
   rotate_left
   ·intro w'
    go_simp
    with_reducible rfl
   rotate_left
   ·simp only [SX]
    rfl
   refine pu 5 22 ?_ (ms 37 63) rfl rfl HT_ (by kernel_rfl) (fun _ _ _ h => h) (by rfl) ?_ ?_ ?_ ?_
   rotate_left
   ·intro w'
    go_simp
    with_reducible rfl
   rotate_left
   ·simp only [SX]
    rfl
   refine pu 7 24 ?_ (ms 37 191) rfl rfl HT_ (by kernel_rfl) (fun _ _ _ h => h) (by rfl) ?_ ?_ ?_ ?_
   rotate_left
   ·intro w'
    go_simp
    with_reducible rfl
   rotate_left
   ·simp only [SX]
    rfl
   refine pu 8 25 ?_ (ms 37 447) rfl rfl HT_ (by kernel_rfl) (fun _ _ _ h => h) (by rfl) ?_ ?_ ?_ ?_
   rotate_left
   ·intro w'
    go_simp
    with_reducible rfl
   rotate_left
   ·simp only [SX]
    rfl
   refine tk 6 23 ?_ (ms 37 511) rfl rfl HT_ HW_ (by kernel_rfl) (fun _ _ _ h => h) (by rfl) ?_ hHeld ?_ ?_ ?_
   rotate_left
   ·rintro w' ⟨s0, s1, s2, s3, s4, s5, s6, s7, s8⟩
    go_simp
    with_reducible rfl
   rotate_left
   ·simp only [SX]
    rfl
   refine tk 9 26 ?_ (ms 37 1023) rfl rfl HT_ HW_ (by kernel_rfl) (fun _ _ _ h => h) (by rfl) ?_ hHeld ?_ ?_ ?_
   rotate_left
   ·rintro w' ⟨s0, s1, s2, s3, s4, s5, s6, s7, s8⟩
    go_simp
    with_reducible rfl
   rotate_left
   ·simp only [SX]
    rfl
   refine pu 10 27 ?_ (ms 37 2047) rfl rfl HT_ (by kernel_rfl) (fun _ _ _ h => h) (by rfl) ?_ ?_ ?_ ?_
   rotate_left
   ·intro w'
    go_simp
    with_reducible rfl
   rotate_left
   ·simp only [SX]
    rfl
   refine pu 11 28 ?_ (ms 37 4095) rfl rfl HT_ (by kernel_rfl) (fun _ _ _ h => h) (by rfl) ?_ ?_ ?_ ?_
   rotate_left
   ·intro w'
    go_simp
    with_reducible rfl
   rotate_left
   ·simp only [SX]
    rfl
   refine one_ (i := 12) (N := some 29) (ms 37 8191) rfl rfl (one_of HT_.out (by kernel_rfl)) (by decide) (fun K hK => ?_)
   refine goes_ Try.func39 (by kernel_rfl) rfl #[.int .i64 ((rd_T30 l0_2 x3_1).f1), .int .i64 0, .int .i64 (wrap64 ((l0_1.length : Int) - 1))] (by rfl) rfl rfl (by (try simp only [List.map_toArray, List.map_cons, List.map_nil]); rfl) ?_
   with_reducible refine (spec_l1In.calls ((rd_T30 l0_2 x3_1).f1) 0 (wrap64 ((l0_1.length : Int) - 1)) true _ A7.out).mono ?_
   rintro e w' ⟨rfl, ⟨nd, rfl⟩⟩
   refine ⟨_, rfl, ?_⟩
   refine hK.out _ _ ⟨(blk_cell BK116.out 0).trans rfl, (blk_cell BK116.out 1).trans rfl, (blk_cell BK116.out 2).trans rfl, (blk_cell BK113.out 0).trans rfl, (blk_cell BK113.out 1).trans rfl, (blk_cell BK113.out 2).trans rfl, ((HB.out.cell (World.block_lt_of_cell? w _ hw120_0)).trans hw120_0), ((HB.out.cell (World.block_lt_of_cell? w _ hw120_1)).trans hw120_1), ((HB.out.cell (World.block_lt_of_cell? w _ hw120_2)).trans hw120_2)⟩ (fun hHeld => ?_)
   clear hK K
   refine norm_ (a' := ?_) ?_ ?_
   rotate_left
   ·show Act.put _ (some 29) _ = _
    simp only [SX]
    rfl
   refine pu 13 30 ?_ (ms 37 16383) rfl rfl HT_ (by kernel_rfl) (fun _ _ _ h => h) (by rfl) ?_ ?_ ?_ ?_
   rotate_left
   ·intro w'
    go_simp
    with_reducible rfl
   rotate_left
   ·simp only [SX]
    rfl
   refine pu 14 31 ?_ (ms 37 32767) rfl rfl HT_ (by kernel_rfl) (fun _ _ _ h => h) (by rfl) ?_ ?_ ?_ ?_
   rotate_left
   ·intro w'
    go_simp
    with_reducible rfl
   rotate_left
   ·simp only [SX]
    rfl
   refine pu 15 32 ?_ (ms 37 65535) rfl rfl HT_ (by kernel_rfl) (fun _ _ _ h => h) (by rfl) ?_ ?_ ?_ ?_
   rotate_left
   ·intro w'
    go_simp
    with_reducible rfl
   rotate_left
   ·simp only [SX]
    rfl
   refine pu 16 33 ?_ (ms 37 131071) rfl rfl HT_ (by kernel_rfl) (fun _ _ _ h => h) (by rfl) ?_ ?_ ?_ ?_
   rotate_left
   ·intro w'
    go_simp
    with_reducible rfl
   rotate_left
   ·simp only [SX]
    rfl
   refine tk 17 34 ?_ (ms 37 262143) rfl rfl HT_ HW_ (by kernel_rfl) (fun _ _ _ h => h) (by rfl) ?_ hHeld ?_ ?_ ?_
   rotate_left
   ·rintro w' ⟨s0, s1, s2, s3, s4, s5, s6, s7, s8⟩
    go_simp
    with_reducible rfl
   rotate_left
   ·simp only [SX]
    rfl
   refine one_ (i := 18) (N := some 35) (ms 37 524287) rfl rfl (one_of HT_.out (by kernel_rfl)) (by decide) (fun K hK => ?_)
   refine goes_ Try.func39 (by kernel_rfl) rfl #[.int .i64 ((rd_T30 l0_2 x3_1).f2), .int .i64 (-1), .int .i64 99] (by rfl) rfl rfl (by (try simp only [List.map_toArray, List.map_cons, List.map_nil]); rfl) ?_
   with_reducible refine (spec_l1In.calls ((rd_T30 l0_2 x3_1).f2) (-1) 99 true _ A9.out).mono ?_
   rintro e w' ⟨rfl, ⟨nd, rfl⟩⟩
   refine ⟨_, rfl, ?_⟩
   refine hK.out _ _ ⟨(blk_cell BK116.out 0).trans rfl, (blk_cell BK116.out 1).trans rfl, (blk_cell BK116.out 2).trans rfl, (blk_cell BK113.out 0).trans rfl, (blk_cell BK113.out 1).trans rfl, (blk_cell BK113.out 2).trans rfl, ((HB.out.cell (World.block_lt_of_cell? w _ hw120_0)).trans hw120_0), ((HB.out.cell (World.block_lt_of_cell? w _ hw120_1)).trans hw120_1), ((HB.out.cell (World.block_lt_of_cell? w _ hw120_2)).trans hw120_2)⟩ (fun hHeld => ?_)
   clear hK K
   refine norm_ (a' := ?_) ?_ ?_
   rotate_left
   ·show Act.put _ (some 35) _ = _
    simp only [SX]
    rfl
   refine pu 19 36 ?_ (ms 37 1048575) rfl rfl HT_ (by kernel_rfl) (fun _ _ _ h => h) (by rfl) ?_ ?_ ?_ ?_
   rotate_left
   ·intro w'
    go_simp
    with_reducible rfl
   rotate_left
   ·simp only [SX]
    rfl
   refine pu 20 37 ?_ (ms 37 2097151) rfl rfl HT_ (by kernel_rfl) (fun _ _ _ h => h) (by rfl) ?_ ?_ ?_ ?_
   rotate_left
   ·intro w'
    go_simp
    with_reducible rfl
   rotate_left
   ·simp only [SX]
    rfl
   refine pu 21 38 ?_ (ms 37 4194303) rfl rfl HT_ (by kernel_rfl) (fun _ _ _ h => h) (by rfl) ?_ ?_ ?_ ?_
   rotate_left
   ·intro w'
    go_simp
    with_reducible rfl
   rotate_left
   ·simp only [SX]
    rfl
   refine pu 22 39 ?_ (ms 37 8388607) rfl rfl HT_ (by kernel_rfl) (fun _ _ _ h => h) (by rfl) ?_ ?_ ?_ ?_
   rotate_left
   ·intro w'
    go_simp
    with_reducible rfl
   rotate_left
   ·simp only [SX]
    rfl
   refine pu 23 40 ?_ (ms 37 16777215) rfl rfl HT_ (by kernel_rfl) (fun _ _ _ h => h) (by rfl) ?_ ?_ ?_ ?_
   rotate_left
   ·intro w'
    go_simp
    with_reducible rfl
   rotate_left
   ·simp only [SX]
    rfl
   refine pu 24 41 ?_ (ms 37 33554431) rfl rfl HT_ (by kernel_rfl) (fun _ _ _ h => h) (by rfl) ?_ ?_ ?_ ?_
   rotate_left
   ·intro w'
    go_simp
    with_reducible rfl
   rotate_left
   ·simp only [SX]
    rfl
   refine pu 25 42 ?_ (ms 37 67108863) rfl rfl HT_ (by kernel_rfl) (fun _ _ _ h => h) (by rfl) ?_ ?_ ?_ ?_
   rotate_left
   ·intro w'
    go_simp
    with_reducible rfl
   rotate_left
   ·simp only [SX]
    rfl
   refine pu 27 44 ?_ (ms 37 201326591) rfl rfl HT_ (by kernel_rfl) (fun _ _ _ h => h) (by rfl) ?_ ?_ ?_ ?_
   rotate_left
   ·intro w'
    go_simp
    with_reducible rfl
   rotate_left
   ·simp only [SX]
    rfl
   refine pu 29 46 ?_ (ms 37 738197503) rfl rfl HT_ (by kernel_rfl) (fun _ _ _ h => h) (by rfl) ?_ ?_ ?_ ?_
   rotate_left
   ·intro w'
    go_simp
    with_reducible rfl
   rotate_left
   ·simp only [SX]
    rfl
   refine pu 30 47 ?_ (ms 37 1811939327) rfl rfl HT_ (by kernel_rfl) (fun _ _ _ h => h) (by rfl) ?_ ?_ ?_ ?_
   rotate_left
   ·intro w'
    go_simp
    with_reducible rfl
   rotate_left
   ·simp only [SX]
    rfl
   refine tk 26 43 ?_ (ms 37 1879048191) rfl rfl HT_ HW_ (by kernel_rfl) (fun _ _ _ h => h) (by rfl) ?_ hHeld ?_ ?_ ?_
   rotate_left
   ·rintro w' ⟨s0, s1, s2, s3, s4, s5, s6, s7, s8⟩
    go_simp
    with_reducible rfl
   rotate_left
   ·simp only [SX]
    rfl
   refine tk 28 45 ?_ (ms 37 2147483647) rfl rfl HT_ HW_ (by kernel_rfl) (fun _ _ _ h => h) (by rfl) ?_ hHeld ?_ ?_ ?_
   rotate_left
   ·rintro w' ⟨s0, s1, s2, s3, s4, s5, s6, s7, s8⟩
    go_simp
    with_reducible rfl
   rotate_left
   ·simp only [SX]
    rfl
   refine pu 31 48 ?_ (ms 37 4294967295) rfl rfl HT_ (by kernel_rfl) (fun _ _ _ h => h) (by rfl) ?_ ?_ ?_ ?_
   rotate_left
   ·intro w'
    go_simp
    with_reducible rfl
   rotate_left
   ·simp only [SX]
    rfl
   refine pu 32 49 ?_ (ms 37 8589934591) rfl rfl HT_ (by kernel_rfl) (fun _ _ _ h => h) (by rfl) ?_ ?_ ?_ ?_
   rotate_left
   ·intro w'
    go_simp
    with_reducible rfl
   rotate_left
   ·simp only [SX]
    rfl
   refine tk 33 50 ?_ (ms 37 17179869183) rfl rfl HT_ HW_ (by kernel_rfl) (fun _ _ _ h => h) (by rfl) ?_ hHeld ?_ ?_ ?_
   rotate_left
   ·rintro w' ⟨s0, s1, s2, s3, s4, s5, s6, s7, s8⟩
    go_simp
    with_reducible rfl
   rotate_left
   ·simp only [SX]
    rfl
   refine pu 34 51 ?_ (ms 37 34359738367) rfl rfl HT_ (by kernel_rfl) (fun _ _ _ h => h) (by rfl) ?_ ?_ ?_ ?_
   rotate_left
   ·intro w'
    go_simp
    with_reducible rfl
   rotate_left
   ·simp only [SX]
    rfl
   refine pu 35 52 ?_ (ms 37 68719476735) rfl rfl HT_ (by kernel_rfl) (fun _ _ _ h => h) (by rfl) ?_ ?_ ?_ ?_
   rotate_left
   ·intro w'
    go_simp
    with_reducible rfl
   rotate_left
   ·simp only [SX]
    rfl
   refine pu 36 53 ?_ (ms 37 137438953471) rfl rfl HT_ (by kernel_rfl) (fun _ _ _ h => h) (by rfl) ?_ ?_ ?_ ?_
   rotate_left
   ·intro w'
    go_simp
    with_reducible rfl
   rotate_left
   ·simp only [SX]
    rfl
   refine done_ (done_of HT_.out (by kernel_rfl)) ?_
   try go_wp2
   go_ret
   exact ⟨by rfl, bl2 HB GE113 GE116⟩
  rw [if_neg c15] at H
  have c15b0 : decide (((rd_T30 l0_2 x3_1).f0) ≤ ((rd_T30 l0_2 (ji12)).f0)) = false := decide_eq_false c15
  clear c15
  have H' := ak H
  clear H
  have hcz22_0 := bc wr BK113 0 (.int .i64 a0_0) rfl
  have hcz22_1 := bc wr BK113 1 (.slice A0_1 l0_1.length c0_1) rfl
  have hcz22_2 := bc wr BK113 2 (.slice A0_2 l0_2.length c0_2) rfl
  have hfz22_0 := fz BK113 0
  have hfz22_1 := fz BK113 1
  have hfz22_2 := fz BK113 2
  have p115 : 0 ≤ (x3_1 : Int) := oT (by (with_reducible assumption))
  have q115 : x3_1 < (l0_2.length : Int) := oT (by (with_reducible assumption))
  obtain ⟨ad115, e115, hx115_0, hx115_1, hx115_2⟩ := at_T30 HR0_2.out x3_1 p115 q115
  cases e115
  replace hx115_0 := hcb HB.out hx115_0
  replace hx115_1 := hcb HB.out hx115_1
  replace hx115_2 := hcb HB.out hx115_2
  replace p115 := eq_true p115
  replace q115 := eq_true q115
  try go_wp2_with (((with_reducible refine gate_dst (N := 4) rfl ?_); refine box_event ?hg (N := 4) ?hd (cs := #[.int .i64 0, .int .i64 0, .int .i64 0]) (t := 30) ?hr ?_; (case hd => rfl); (case hg => rfl); (case hr => (go_simp; done)); intro gb116 hg w23 hbox hb; have BK116 := ak (hbox); have GW116 := ak ((by rw [hg]; exact (below_size (bl1 HB GE113)) : w.heap.size ≤ gb116)); have GE116 := ak ((by rw [hg]; exact (below_size (bl1 HB GE113)) : w.heap.size ≤ gb116)); replace HB := ak (below_step (bl1 HB GE113) hb); have NB113_116 := ak ((by rw [hg]; exact Nat.ne_of_lt (blk_lt (bk BK113)) : gb113 ≠ gb116)); have NB116_113 := ak ((by rw [hg]; exact Nat.ne_of_gt (blk_lt (bk BK113)) : gb116 ≠ gb113)); replace BK113 := ak (blk_below (bk BK113) hb); clear hb hbox hg; have hnb24 := NB116_113.out; have hnc24 := NB113_116.out; have hcz25_0 := bc w23 BK116 0 (.int .i64 0) rfl; have hcz25_1 := bc w23 BK116 1 (.int .i64 0) rfl; have hcz25_2 := bc w23 BK116 2 (.int .i64 0) rfl; have hfz25_0 := fz BK116 0; have hfz25_1 := fz BK116 1; have hfz25_2 := fz BK116 2))
  have n0_ : Aside0 ((((w23.setCell ⟨gb116, 0, none⟩ (.int .i64 ((rd_T30 l0_2 x3_1).f0))).setCell ⟨gb116, 1, none⟩ (.int .i64 ((rd_T30 l0_2 x3_1).f1))).setCell ⟨gb116, 2, none⟩ (.int .i64 ((rd_T30 l0_2 x3_1).f2))).heap[gb113]? = some (.cells #[.int .i64 a0_0, .slice A0_1 l0_1.length c0_1, .slice (some ad115) l0_2.length c0_2] 28 (0, 0))) := ⟨by refine blk_far ?_ NB113_116.out _; refine blk_far ?_ NB113_116.out _; refine blk_far ?_ NB113_116.out _; exact BK113.out⟩
  have n1_ : Aside0 ((((w23.setCell ⟨gb116, 0, none⟩ (.int .i64 ((rd_T30 l0_2 x3_1).f0))).setCell ⟨gb116, 1, none⟩ (.int .i64 ((rd_T30 l0_2 x3_1).f1))).setCell ⟨gb116, 2, none⟩ (.int .i64 ((rd_T30 l0_2 x3_1).f2))).heap[gb116]? = some (.cells #[.int .i64 ((rd_T30 l0_2 x3_1).f0), .int .i64 ((rd_T30 l0_2 x3_1).f1), .int .i64 ((rd_T30 l0_2 x3_1).f2)] 30 (0, 0))) := ⟨by refine blk_put (cs := #[.int .i64 ((rd_T30 l0_2 x3_1).f0), .int .i64 ((rd_T30 l0_2 x3_1).f1), .int .i64 0]) ?_ 2 _ rfl; refine blk_put (cs := #[.int .i64 ((rd_T30 l0_2 x3_1).f0), .int .i64 0, .int .i64 0]) ?_ 1 _ rfl; refine blk_put (cs := #[.int .i64 0, .int .i64 0, .int .i64 0]) ?_ 0 _ rfl; exact BK116.out⟩
  have n2_ : Aside0 (Below w.heap.size w (((w23.setCell ⟨gb116, 0, none⟩ (.int .i64 ((rd_T30 l0_2 x3_1).f0))).setCell ⟨gb116, 1, none⟩ (.int .i64 ((rd_T30 l0_2 x3_1).f1))).setCell ⟨gb116, 2, none⟩ (.int .i64 ((rd_T30 l0_2 x3_1).f2)))) := ⟨bl2 HB GE113 GE116⟩
  (try clear BK113)
  (try clear BK116)
  (try clear HB)
  generalize (((w23.setCell ⟨gb116, 0, none⟩ (.int .i64 ((rd_T30 l0_2 x3_1).f0))).setCell ⟨gb116, 1, none⟩ (.int .i64 ((rd_T30 l0_2 x3_1).f1))).setCell ⟨gb116, 2, none⟩ (.int .i64 ((rd_T30 l0_2 x3_1).f2))) = w26 at n0_ n1_ n2_ ⊢
  have BK113 := n0_
  have BK116 := n1_
  have HB := n2_
  clear n0_ n1_ n2_
  replace BK113 := ak (blk_drew BK113.out)
  replace BK116 := ak (blk_drew BK116.out)
  replace HB := ak (below_drew1 HB.out)
  have p120 : 0 ≤ ((ji12) : Int) := oT (by (with_reducible assumption))
  have q120 : (ji12) < (l0_2.length : Int) := oT (by (with_reducible assumption))
  obtain ⟨ad120, e120, hx120_0, hx120_1, hx120_2⟩ := at_T30 HR0_2.out (ji12) p120 q120
  have hw120_2 := hx120_2
  have hw120_1 := hx120_1
  have hw120_0 := hx120_0
  obtain rfl : ad115 = ad120 := (by injection e120)
  replace hx120_0 := hcb HB.out hx120_0
  replace hx120_1 := hcb HB.out hx120_1
  replace hx120_2 := hcb HB.out hx120_2
  replace p120 := eq_true p120
  replace q120 := eq_true q120
  refine start_ (n := 37) (S := fun w' => w'.cell? ⟨gb116, 0, none⟩ = some (.int .i64 ((rd_T30 l0_2 x3_1).f0)) ∧ w'.cell? ⟨gb116, 1, none⟩ = some (.int .i64 ((rd_T30 l0_2 x3_1).f1)) ∧ w'.cell? ⟨gb116, 2, none⟩ = some (.int .i64 ((rd_T30 l0_2 x3_1).f2)) ∧ w'.cell? ⟨gb113, 0, none⟩ = some (.int .i64 a0_0) ∧ w'.cell? ⟨gb113, 1, none⟩ = some (.slice A0_1 l0_1.length c0_1) ∧ w'.cell? ⟨gb113, 2, none⟩ = some (.slice (some ad115) l0_2.length c0_2) ∧ w'.cell? (ad115.add (((ji12)).toNat * 3)) = some (.int .i64 ((rd_T30 l0_2 (ji12)).f0)) ∧ w'.cell? ⟨(ad115.add (((ji12)).toNat * 3)).block, (ad115.add (((ji12)).toNat * 3)).off + 1, none⟩ = some (.int .i64 ((rd_T30 l0_2 (ji12)).f1)) ∧ w'.cell? ⟨(ad115.add (((ji12)).toNat * 3)).block, (ad115.add (((ji12)).toNat * 3)).off + 2, none⟩ = some (.int .i64 ((rd_T30 l0_2 (ji12)).f2))) (ds := []) (ms 37 0) (by kernel_rfl) rfl (by kernel_rfl) ⟨(blk_cell BK116.out 0).trans rfl, (blk_cell BK116.out 1).trans rfl, (blk_cell BK116.out 2).trans rfl, (blk_cell BK113.out 0).trans rfl, (blk_cell BK113.out 1).trans rfl, (blk_cell BK113.out 2).trans rfl, ((HB.out.cell (World.block_lt_of_cell? w _ hw120_0)).trans hw120_0), ((HB.out.cell (World.block_lt_of_cell? w _ hw120_1)).trans hw120_1), ((HB.out.cell (World.block_lt_of_cell? w _ hw120_2)).trans hw120_2)⟩ (fun hHeld => ?_); refine with_tabW spec_l16Ok.tab5 spec_l16Ok.bits5 (fun HT_ HW_ => ?_)
  generalize w26.drew = w27 at BK113 BK116 HB hx120_0 hx120_1 hx120_2 hHeld ⊢
  refine pu 0 17 ?_ (ms 37 1) rfl rfl HT_ (by kernel_rfl) (fun _ _ _ h => h) (by rfl) ?_ ?_ ?_ ?_
  rotate_left
  ·intro w'
   go_simp
   with_reducible rfl
  rotate_left
  ·simp only [SX]
   rfl
  refine tk 1 18 ?_ (ms 37 3) rfl rfl HT_ HW_ (by kernel_rfl) (fun _ _ _ h => h) (by rfl) ?_ hHeld ?_ ?_ ?_
  rotate_left
  ·rintro w' ⟨s0, s1, s2, s3, s4, s5, s6, s7, s8⟩
   go_simp
   with_reducible rfl
  rotate_left
  ·simp only [SX]
   rfl
  refine one_ (i := 2) (N := some 19) (ms 37 7) rfl rfl (one_of HT_.out (by kernel_rfl)) (by decide) (fun K hK => ?_)
  refine goes_ Try.func39 (by kernel_rfl) rfl #[.int .i64 ((rd_T30 l0_2 x3_1).f0), .int .i64 1, .int .i64 999] (by rfl) rfl rfl (by (try simp only [List.map_toArray, List.map_cons, List.map_nil]); rfl) ?_
  with_reducible refine (spec_l1In.calls ((rd_T30 l0_2 x3_1).f0) 1 999 true _ A5.out).mono ?_
  rintro e w' ⟨rfl, ⟨nd, rfl⟩⟩
  refine ⟨_, rfl, ?_⟩
  refine hK.out _ _ ⟨(blk_cell BK116.out 0).trans rfl, (blk_cell BK116.out 1).trans rfl, (blk_cell BK116.out 2).trans rfl, (blk_cell BK113.out 0).trans rfl, (blk_cell BK113.out 1).trans rfl, (blk_cell BK113.out 2).trans rfl, ((HB.out.cell (World.block_lt_of_cell? w _ hw120_0)).trans hw120_0), ((HB.out.cell (World.block_lt_of_cell? w _ hw120_1)).trans hw120_1), ((HB.out.cell (World.block_lt_of_cell? w _ hw120_2)).trans hw120_2)⟩ (fun hHeld => ?_)
  clear hK K
  refine norm_ (a' := ?_) ?_ ?_
  rotate_left
  ·show Act.put _ (some 19) _ = _
   simp only [SX]
   rfl
  refine pu 3 20 ?_ (ms 37 15) rfl rfl HT_ (by kernel_rfl) (fun _ _ _ h => h) (by rfl) ?_ ?_ ?_ ?_
  rotate_left
  ·intro w'
   go_simp
   with_reducible rfl
  rotate_left
  ·simp only [SX]
   rfl
  refine pu 4 21 ?_ (ms 37 31) rfl rfl HT_ (by kernel_rfl) (fun _ _ _ h => h) (by rfl) ?_ ?_ ?_ ?_
  rotate_left
  ·intro w'
   go_simp
   with_reducible rfl
  rotate_left
  ·simp only [SX]
   rfl
  refine pu 5 22 ?_ (ms 37 63) rfl rfl HT_ (by kernel_rfl) (fun _ _ _ h => h) (by rfl) ?_ ?_ ?_ ?_
  rotate_left
  ·intro w'
   go_simp
   with_reducible rfl
  rotate_left
  ·simp only [SX]
   rfl
  refine pu 7 24 ?_ (ms 37 191) rfl rfl HT_ (by kernel_rfl) (fun _ _ _ h => h) (by rfl) ?_ ?_ ?_ ?_
  rotate_left
  ·intro w'
   go_simp
   with_reducible rfl
  rotate_left
  ·simp only [SX]
   rfl
  refine pu 8 25 ?_ (ms 37 447) rfl rfl HT_ (by kernel_rfl) (fun _ _ _ h => h) (by rfl) ?_ ?_ ?_ ?_
  rotate_left
  ·intro w'
   go_simp
   with_reducible rfl
  rotate_left
  ·simp only [SX]
   rfl
  refine tk 6 23 ?_ (ms 37 511) rfl rfl HT_ HW_ (by kernel_rfl) (fun _ _ _ h => h) (by rfl) ?_ hHeld ?_ ?_ ?_
  rotate_left
  ·rintro w' ⟨s0, s1, s2, s3, s4, s5, s6, s7, s8⟩
   go_simp
   with_reducible rfl
  rotate_left
  ·simp only [SX]
   rfl
  refine tk 9 26 ?_ (ms 37 1023) rfl rfl HT_ HW_ (by kernel_rfl) (fun _ _ _ h => h) (by rfl) ?_ hHeld ?_ ?_ ?_
  rotate_left
  ·rintro w' ⟨s0, s1, s2, s3, s4, s5, s6, s7, s8⟩
   go_simp
   with_reducible rfl
  rotate_left
  ·simp only [SX]
   rfl
  refine pu 10 27 ?_ (ms 37 2047) rfl rfl HT_ (by kernel_rfl) (fun _ _ _ h => h) (by rfl) ?_ ?_ ?_ ?_
  rotate_left
  ·intro w'
   go_simp
   with_reducible rfl
  rotate_left
  ·simp only [SX]
   rfl
  refine pu 11 28 ?_ (ms 37 4095) rfl rfl HT_ (by kernel_rfl) (fun _ _ _ h => h) (by rfl) ?_ ?_ ?_ ?_
  rotate_left
  ·intro w'
   go_simp
   with_reducible rfl
  rotate_left
  ·simp only [SX]
   rfl
  refine one_ (i := 12) (N := some 29) (ms 37 8191) rfl rfl (one_of HT_.out (by kernel_rfl)) (by decide) (fun K hK => ?_)
  refine goes_ Try.func39 (by kernel_rfl) rfl #[.int .i64 ((rd_T30 l0_2 x3_1).f1), .int .i64 0, .int .i64 (wrap64 ((l0_1.length : Int) - 1))] (by rfl) rfl rfl (by (try simp only [List.map_toArray, List.map_cons, List.map_nil]); rfl) ?_
  with_reducible refine (spec_l1In.calls ((rd_T30 l0_2 x3_1).f1) 0 (wrap64 ((l0_1.length : Int) - 1)) true _ A7.out).mono ?_
  rintro e w' ⟨rfl, ⟨nd, rfl⟩⟩
  refine ⟨_, rfl, ?_⟩
  refine hK.out _ _ ⟨(blk_cell BK116.out 0).trans rfl, (blk_cell BK116.out 1).trans rfl, (blk_cell BK116.out 2).trans rfl, (blk_cell BK113.out 0).trans rfl, (blk_cell BK113.out 1).trans rfl, (blk_cell BK113.out 2).trans rfl, ((HB.out.cell (World.block_lt_of_cell? w _ hw120_0)).trans hw120_0), ((HB.out.cell (World.block_lt_of_cell? w _ hw120_1)).trans hw120_1), ((HB.out.cell (World.block_lt_of_cell? w _ hw120_2)).trans hw120_2)⟩ (fun hHeld => ?_)
  clear hK K
  refine norm_ (a' := ?_) ?_ ?_
  rotate_left
  ·show Act.put _ (some 29) _ = _
   simp only [SX]
   rfl
  refine pu 13 30 ?_ (ms 37 16383) rfl rfl HT_ (by kernel_rfl) (fun _ _ _ h => h) (by rfl) ?_ ?_ ?_ ?_
  rotate_left
  ·intro w'
   go_simp
   with_reducible rfl
  rotate_left
  ·simp only [SX]
   rfl
  refine pu 14 31 ?_ (ms 37 32767) rfl rfl HT_ (by kernel_rfl) (fun _ _ _ h => h) (by rfl) ?_ ?_ ?_ ?_
  rotate_left
  ·intro w'
   go_simp
   with_reducible rfl
  rotate_left
  ·simp only [SX]
   rfl
  refine pu 15 32 ?_ (ms 37 65535) rfl rfl HT_ (by kernel_rfl) (fun _ _ _ h => h) (by rfl) ?_ ?_ ?_ ?_
  rotate_left
  ·intro w'
   go_simp
   with_reducible rfl
  rotate_left
  ·simp only [SX]
   rfl
  refine pu 16 33 ?_ (ms 37 131071) rfl rfl HT_ (by kernel_rfl) (fun _ _ _ h => h) (by rfl) ?_ ?_ ?_ ?_
  rotate_left
  ·intro w'
   go_simp
   with_reducible rfl
  rotate_left
  ·simp only [SX]
   rfl
  refine tk 17 34 ?_ (ms 37 262143) rfl rfl HT_ HW_ (by kernel_rfl) (fun _ _ _ h => h) (by rfl) ?_ hHeld ?_ ?_ ?_
  rotate_left
  ·rintro w' ⟨s0, s1, s2, s3, s4, s5, s6, s7, s8⟩
   go_simp
   with_reducible rfl
  rotate_left
  ·simp only [SX]
   rfl
  refine one_ (i := 18) (N := some 35) (ms 37 524287) rfl rfl (one_of HT_.out (by kernel_rfl)) (by decide) (fun K hK => ?_)
  refine goes_ Try.func39 (by kernel_rfl) rfl #[.int .i64 ((rd_T30 l0_2 x3_1).f2), .int .i64 (-1), .int .i64 99] (by rfl) rfl rfl (by (try simp only [List.map_toArray, List.map_cons, List.map_nil]); rfl) ?_
  with_reducible refine (spec_l1In.calls ((rd_T30 l0_2 x3_1).f2) (-1) 99 true _ A9.out).mono ?_
  rintro e w' ⟨rfl, ⟨nd, rfl⟩⟩
  refine ⟨_, rfl, ?_⟩
  refine hK.out _ _ ⟨(blk_cell BK116.out 0).trans rfl, (blk_cell BK116.out 1).trans rfl, (blk_cell BK116.out 2).trans rfl, (blk_cell BK113.out 0).trans rfl, (blk_cell BK113.out 1).trans rfl, (blk_cell BK113.out 2).trans rfl, ((HB.out.cell (World.block_lt_of_cell? w _ hw120_0)).trans hw120_0), ((HB.out.cell (World.block_lt_of_cell? w _ hw120_1)).trans hw120_1), ((HB.out.cell (World.block_lt_of_cell? w _ hw120_2)).trans hw120_2)⟩ (fun hHeld => ?_)
  clear hK K
  refine norm_ (a' := ?_) ?_ ?_
  rotate_left
  ·show Act.put _ (some 35) _ = _
   simp only [SX]
   rfl
  refine pu 19 36 ?_ (ms 37 1048575) rfl rfl HT_ (by kernel_rfl) (fun _ _ _ h => h) (by rfl) ?_ ?_ ?_ ?_
  rotate_left
  ·intro w'
   go_simp
   with_reducible rfl
  rotate_left
  ·simp only [SX]
   rfl
  refine pu 20 37 ?_ (ms 37 2097151) rfl rfl HT_ (by kernel_rfl) (fun _ _ _ h => h) (by rfl) ?_ ?_ ?_ ?_
  rotate_left
  ·intro w'
   go_simp
   with_reducible rfl
  rotate_left
  ·simp only [SX]
   rfl
  refine pu 21 38 ?_ (ms 37 4194303) rfl rfl HT_ (by kernel_rfl) (fun _ _ _ h => h) (by rfl) ?_ ?_ ?_ ?_
  rotate_left
  ·intro w'
   go_simp
   with_reducible rfl
  rotate_left
  ·simp only [SX]
   rfl
  refine pu 22 39 ?_ (ms 37 8388607) rfl rfl HT_ (by kernel_rfl) (fun _ _ _ h => h) (by rfl) ?_ ?_ ?_ ?_
  rotate_left
  ·intro w'
   go_simp
   with_reducible rfl
  rotate_left
  ·simp only [SX]
   rfl
  refine pu 23 40 ?_ (ms 37 16777215) rfl rfl HT_ (by kernel_rfl) (fun _ _ _ h => h) (by rfl) ?_ ?_ ?_ ?_
  rotate_left
  ·intro w'
   go_simp
   with_reducible rfl
  rotate_left
  ·simp only [SX]
   rfl
  refine pu 24 41 ?_ (ms 37 33554431) rfl rfl HT_ (by kernel_rfl) (fun _ _ _ h => h) (by rfl) ?_ ?_ ?_ ?_
  rotate_left
  ·intro w'
   go_simp
   with_reducible rfl
  rotate_left
  ·simp only [SX]
   rfl
  refine pu 25 42 ?_ (ms 37 67108863) rfl rfl HT_ (by kernel_rfl) (fun _ _ _ h => h) (by rfl) ?_ ?_ ?_ ?_
  rotate_left
  ·intro w'
   go_simp
   with_reducible rfl
  rotate_left
  ·simp only [SX]
   rfl
  refine pu 27 44 ?_ (ms 37 201326591) rfl rfl HT_ (by kernel_rfl) (fun _ _ _ h => h) (by rfl) ?_ ?_ ?_ ?_
  rotate_left
  ·intro w'
   go_simp
   with_reducible rfl
  rotate_left
  ·simp only [SX]
   rfl
  refine pu 29 46 ?_ (ms 37 738197503) rfl rfl HT_ (by kernel_rfl) (fun _ _ _ h => h) (by rfl) ?_ ?_ ?_ ?_
  rotate_left
  ·intro w'
   go_simp
   with_reducible rfl
  rotate_left
  ·simp only [SX]
   rfl
  refine pu 30 47 ?_ (ms 37 1811939327) rfl rfl HT_ (by kernel_rfl) (fun _ _ _ h => h) (by rfl) ?_ ?_ ?_ ?_
  rotate_left
  ·intro w'
   go_simp
   with_reducible rfl
  rotate_left
  ·simp only [SX]
   rfl
  refine tk 26 43 ?_ (ms 37 1879048191) rfl rfl HT_ HW_ (by kernel_rfl) (fun _ _ _ h => h) (by rfl) ?_ hHeld ?_ ?_ ?_
  rotate_left
  ·rintro w' ⟨s0, s1, s2, s3, s4, s5, s6, s7, s8⟩
   go_simp
   with_reducible rfl
  rotate_left
  ·simp only [SX]
   rfl
  refine tk 28 45 ?_ (ms 37 2147483647) rfl rfl HT_ HW_ (by kernel_rfl) (fun _ _ _ h => h) (by rfl) ?_ hHeld ?_ ?_ ?_
  rotate_left
  ·rintro w' ⟨s0, s1, s2, s3, s4, s5, s6, s7, s8⟩
   go_simp
   with_reducible rfl
  rotate_left
  ·simp only [SX]
   rfl
  refine pu 31 48 ?_ (ms 37 4294967295) rfl rfl HT_ (by kernel_rfl) (fun _ _ _ h => h) (by rfl) ?_ ?_ ?_ ?_
  rotate_left
  ·intro w'
   go_simp
   with_reducible rfl
  rotate_left
  ·simp only [SX]
   rfl
  refine pu 32 49 ?_ (ms 37 8589934591) rfl rfl HT_ (by kernel_rfl) (fun _ _ _ h => h) (by rfl) ?_ ?_ ?_ ?_
  rotate_left
  ·intro w'
   go_simp
   with_reducible rfl
  rotate_left
  ·simp only [SX]
   rfl
  refine tk 33 50 ?_ (ms 37 17179869183) rfl rfl HT_ HW_ (by kernel_rfl) (fun _ _ _ h => h) (by rfl) ?_ hHeld ?_ ?_ ?_
  rotate_left
  ·rintro w' ⟨s0, s1, s2, s3, s4, s5, s6, s7, s8⟩
   go_simp
   with_reducible rfl
  rotate_left
  ·simp only [SX]
   rfl
  refine pu 34 51 ?_ (ms 37 34359738367) rfl rfl HT_ (by kernel_rfl) (fun _ _ _ h => h) (by rfl) ?_ ?_ ?_ ?_
  rotate_left
  ·intro w'
   go_simp
   with_reducible rfl
  rotate_left
  ·simp only [SX]
   rfl
  refine pu 35 52 ?_ (ms 37 68719476735) rfl rfl HT_ (by kernel_rfl) (fun _ _ _ h => h) (by rfl) ?_ ?_ ?_ ?_
  rotate_left
  ·intro w'
   go_simp
   with_reducible rfl
  rotate_left
  ·simp only [SX]
   rfl
  refine pu 36 53 ?_ (ms 37 137438953471) rfl rfl HT_ (by kernel_rfl) (fun _ _ _ h => h) (by rfl) ?_ ?_ ?_ ?_
  rotate_left
  ·intro w'
   go_simp
   with_reducible rfl
  rotate_left
  ·simp only [SX]
   rfl
  refine done_ (done_of HT_.out (by kernel_rfl)) ?_
  try go_wp2
  go_roundg k1
  case measure => have := HK1.out; omega
  case rel => exact ⟨(wrap64 (x3_1 + 1)), (by rfl), H', ⟨by have := HK1.out; omega⟩, ⟨bk BK113⟩, ⟨bl2 HB GE113 GE116⟩⟩

end Go.Proofs.Ytbcedkcjodokkaa.F
