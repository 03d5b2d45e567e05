-- Printed by wip/px/px.py of this claim's repository (the kit's printer, extended there). Lean checks it.
import Derived.Test.YtlgolgfcolnddaaFKinds
import Derived.Test.YtlgolgfcolnddaaFspecl1In
namespace Go.Proofs.Ytlgolgfcolnddaa.F
open Go.RowKit Go.Proofs.YtlgolgfcolnddaaW.PrintWords Go.Proofs.YtlgolgfcolnddaaW.PrintLast Go.Proofs.YtlgolgfcolnddaaW.PrintMore
attribute [local go_sem] max2_int min2_int max_two min_two max_three min_three max_four min_four   -- for this text's walks alone
set_option linter.unusedVariables false
set_option linter.unusedSimpArgs false

/-! ### spec_l2Ok: function 73 -/
def spec_l2Ok.l0 : Nat → List Int → Int → Int → List (S58) → Option (Bool)
 | 0, _, _, _, _ => none
 | k + 1, x1, x5, x589000, x589001 => if x5 < (x1.length : Int) then (if 0 ≤ x5 then ((spec_l1In.f (rd x1 x5) 0 (wrap64 ((x589001.length : Int) - 1))).bind fun t590 => (if t590 = true then (if x5 > 0 then (if 0 ≤ (rd x1 x5) then (if (rd x1 x5) < (x589001.length : Int) then (if 0 ≤ (wrap64 (x5 - 1)) then (if (wrap64 (x5 - 1)) < (x1.length : Int) then (if 0 ≤ (rd x1 (wrap64 (x5 - 1))) then (if (rd x1 (wrap64 (x5 - 1))) < (x589001.length : Int) then (if ((rd_T58 x589001 (rd x1 x5)).f0) = ((rd_T58 x589001 (rd x1 (wrap64 (x5 - 1)))).f1) then (spec_l2Ok.l0 k x1 (wrap64 (x5 + 1)) x589000 x589001) else (some false)) else (none)) else (none)) else (none)) else (none)) else (none)) else (none)) else (spec_l2Ok.l0 k x1 (wrap64 (x5 + 1)) x589000 x589001)) else (some false))) else (none)) else (some (decide ((x1.length : Int) ≤ 20)))
def spec_l2Ok.f (k : Nat) (a0_0 : Int) (l0_1 : List (S58)) (l1 : List Int) : Option (Bool) := spec_l2Ok.l0 k l1 0 a0_0 l0_1
theorem spec_l2Ok.mono_l : ∀ k, (∀ y0 y1 y2 y3, LeO (spec_l2Ok.l0 k y0 y1 y2 y3) (spec_l2Ok.l0 (k + 1) y0 y1 y2 y3))
 | 0 => fun _ _ _ _ r h => by simp [spec_l2Ok.l0] at h
 | k + 1 => by
  have ih0 := spec_l2Ok.mono_l k
  ·intro y0 y1 y2 y3
   unfold spec_l2Ok.l0
   repeat' first
   | (with_reducible exact ih0 _ _ _ _)
   | (with_reducible exact LeO.refl _)
   | (with_reducible exact LeO.none _)
   | (with_reducible refine LeO.ite ?_ ?_)
   | (with_reducible refine LeO.bind ?_ (fun _ => ?_))
   | exact ih0 _ _ _ _
   | exact LeO.none _
   | refine LeO.ite ?_ ?_
   | refine LeO.bind ?_ (fun _ => ?_)
theorem spec_l2Ok.mono : ∀ a0 a1 a2 k, LeO (spec_l2Ok.f k a0 a1 a2) (spec_l2Ok.f (k + 1) a0 a1 a2) := by
 intro a0 a1 a2 k
 have ih0 := spec_l2Ok.mono_l k
 unfold spec_l2Ok.f
 repeat' first
   | (with_reducible exact ih0 _ _ _ _)
   | (with_reducible exact LeO.refl _)
   | (with_reducible exact LeO.none _)
   | (with_reducible refine LeO.ite ?_ ?_)
   | (with_reducible refine LeO.bind ?_ (fun _ => ?_))
   | exact ih0 _ _ _ _
   | exact LeO.none _
   | refine LeO.ite ?_ ?_
   | refine LeO.bind ?_ (fun _ => ?_)
def spec_l2Ok.T4 : Bool × List (List Nat × List Nat) := (true, [([], []), ([], []), ([0, 1], [0, 1]), ([2], [2]), ([], []), ([4], [4]), ([5], [5]), ([6], [6]), ([3, 7], [3, 7]), ([8], [8]), ([9, 8], [9]), ([10], [10]), ([11, 10], [10, 11]), ([12, 10, 10], [10, 12]), ([13], [13]), ([14, 13], [13, 14]), ([13], [13]), ([13], [13]), ([16, 17, 13], [13, 16, 17]), ([18, 13], [13, 18]), ([15, 19, 13], [13, 15, 19]), ([20, 13], [13, 20]), ([21, 13], [13, 21]), ([13], [13]), ([23, 13], [13, 23]), ([13], [13]), ([13], [13]), ([26, 13], [13, 26]), ([25, 27, 13], [13, 25, 27]), ([28, 13], [13, 28]), ([24, 29, 13], [13, 24, 29]), ([30, 13], [13, 30]), ([31, 13], [13, 31]), ([22, 32, 13], [13, 22, 32]), ([13, 33, 10], [10, 13, 33]), ([10, 34], [10, 34])])
def spec_l2Ok.B4 : List Nat := [0, 0, 3, 7, 0, 16, 48, 112, 255, 511, 1023, 2047, 4095, 8191, 16383, 32767, 16383, 16383, 212991, 475135, 1048575, 2097151, 4194303, 16383, 8404991, 16383, 16383, 67125247, 234897407, 503332863, 1065369599, 2139111423, 4286595071, 8589934591, 17179869183, 34359738367]
theorem spec_l2Ok.tab4 : rtab .any (opsOf Try.f73 4) = spec_l2Ok.T4 := by kernel_rfl
theorem spec_l2Ok.bits4 : waitsOk spec_l2Ok.T4.2 spec_l2Ok.B4 = true := by kernel_rfl
set_option maxHeartbeats 8000000 in
set_option maxRecDepth 100000 in
theorem spec_l2Ok.calls (k : Nat) (a0_0 : Int) (A0_1 : Option Addr) (c0_1 : Nat) (l0_1 : List (S58)) (A1 : Option Addr) (c1 : Nat) (l1 : List Int) (r : Bool) (w : World) (hr0_1 : Kd.C k58 w A0_1 l0_1.length l0_1) (hc0_1 : l0_1.length ≤ c0_1) (hr1 : Kd.C (Kd.int .i64) w A1 l1.length l1) (hc1 : l1.length ≤ c1) (h : spec_l2Ok.f k a0_0 l0_1 l1 = some r) :
  Calls Try.prog 73 #[.agg #[.int .i64 a0_0, .slice A0_1 l0_1.length c0_1], .slice A1 l1.length c1] w fun e w' => e = .returned (.bool r) ∧ Below w.heap.size w w' := by
 have hu25 := Try.underlying25
 have HR0_1 := ak hr0_1
 have HC0_1 := ak hc0_1
 clear hr0_1 hc0_1
 have HR1 := ak hr1
 have HC1 := ak hc1
 clear hr1 hc1
 have HB := ak (Below.refl w.heap.size w)
 have H : (spec_l2Ok.l0 k l1 0 a0_0 l0_1) = some r := h
 clear h
 have H' := ak H
 clear H
 go_enter Try.func73, Try.ntmps73
 go_wp2_with (first | ((with_reducible refine gate_dst (N := 2) rfl ?_); refine box_event ?hg (N := 2) ?hd (cs := #[.int .i64 a0_0, .slice A0_1 l0_1.length c0_1]) (t := 25) ?hr ?_; (case hd => rfl); (case hg => rfl); (case hr => first | (go_simp; done) | (go_simp; rfl)); intro gb588 hg w3 hbox hb; have BK588 := ak (hbox); have GW588 := ak ((by rw [hg]; exact (below_size (bl HB)) : w.heap.size ≤ gb588)); have GE588 := ak ((by rw [hg]; exact (below_size (bl HB)) : w.heap.size ≤ gb588)); replace HB := ak (below_step (bl HB) hb); clear hb hbox hg))
 go_loopg [5] k (fun kq v5 w' => ∃ (x5_1 : Int), v5 = .int .i64 x5_1 ∧ Aside0 (spec_l2Ok.l0 kq l1 x5_1 a0_0 l0_1 = some r) ∧ Aside0 (kq ≤ k) ∧ Aside0 (w'.heap[gb588]? = some (.cells #[.int .i64 a0_0, (.slice A0_1 l0_1.length c0_1)] 25 (0, 0))) ∧ Aside0 (Below w.heap.size w w'))
 case atStart => exact ⟨(0), (by first | rfl | (simp; done) | (simp [*]; done)), H', ⟨Nat.le_refl _⟩, ⟨bk BK588⟩, ⟨bl1 HB GE588⟩⟩
 clear H'
 try clear c1
 try clear p2
 obtain ⟨x5_1, rfl, HA, HK1, BK588, HB⟩ := hrel
 cases gk with
 | zero => exact absurd HA.out (by simp [spec_l2Ok.l0])
 | succ k1 =>
  have H := HA.out
  clear HA
  simp only [spec_l2Ok.l0] at H
  by_cases c4 : x5_1 < (l1.length : Int)
  rotate_left
  ·rw [if_neg c4] at H
   have c4b0 : decide (x5_1 < (l1.length : Int)) = false := decide_eq_false c4
   clear c4
   obtain rfl := Option.some.inj H
   go_wp2
   go_ret
   exact ⟨by first | rfl | (simp [errW_none, errW_some] <;> rfl) | (simp [*, errW_none, errW_some] <;> rfl), bl1 HB GE588⟩
  rw [if_pos c4] at H
  have c4b0 : decide (x5_1 < (l1.length : Int)) = true := decide_eq_true c4
  clear c4
  by_cases c5 : 0 ≤ x5_1
  rotate_left
  ·rw [if_neg c5] at H
   exact absurd H (by simp)
  rw [if_pos c5] at H
  have c5b0 : decide (0 ≤ x5_1) = true := decide_eq_true c5
  clear c5
  replace H := Option.bind_eq_some_iff.mp H
  obtain ⟨t590, A60, H⟩ := H
  have A6 := ak A60
  clear A60
  by_cases c7 : t590 = true
  rotate_left
  ·replace c7 := Bool.eq_false_iff.mpr c7
   subst c7
   rw [if_neg (show ¬ (false = true) by decide)] at H
   obtain rfl := Option.some.inj H
   try go_wp2
   replace BK588 := ak (blk_drew BK588.out)
   replace HB := ak (below_drew1 HB.out)
   have p589 : 0 ≤ (x5_1 : Int) := oT (by first | (with_reducible assumption) | assumption)
   have q589 : x5_1 < (l1.length : Int) := oT (by first | (with_reducible assumption) | assumption)
   obtain ⟨ad589, e589, hx589_0⟩ := Kd.at_int HR1.out x5_1 p589 q589
   have hw589_0 := hx589_0
   cases e589
   replace hx589_0 := hcb HB.out hx589_0
   replace p589 := eq_true p589
   replace q589 := eq_true q589
   refine start_ (n := 36) (S := fun w' => w'.cell? ⟨gb588, 0, none⟩ = some (.int .i64 a0_0) ∧ w'.cell? ⟨gb588, 1, none⟩ = some (.slice A0_1 l0_1.length c0_1) ∧ w'.cell? (ad589.add (x5_1).toNat) = some (.int .i64 (rd l1 x5_1))) (ds := []) (ms 36 0) (by kernel_rfl) rfl (by kernel_rfl) ⟨(blk_cell BK588.out 0).trans rfl, (blk_cell BK588.out 1).trans rfl, ((HB.out.cell (World.block_lt_of_cell? w _ hw589_0)).trans hw589_0)⟩ (fun hHeld => ?_); refine with_tabW spec_l2Ok.tab4 spec_l2Ok.bits4 (fun HT_ HW_ => ?_)
   generalize wr.drew = w20 at BK588 HB hx589_0 hHeld ⊢
   refine pu 0 12 ?_ (ms 36 1) rfl rfl HT_ (by kernel_rfl) (fun _ _ _ h => h) (by rfl) ?_ ?_ ?_ ?_
   rotate_left
   ·intro w'
    go_simp
    with_reducible rfl
   rotate_left
   ·simp only [SX]
    rfl
   refine pu 1 13 ?_ (ms 36 3) rfl rfl HT_ (by kernel_rfl) (fun _ _ _ h => h) (by rfl) ?_ ?_ ?_ ?_
   rotate_left
   ·intro w'
    go_simp
    with_reducible rfl
   rotate_left
   ·simp only [SX]
    rfl
   refine pu 2 14 ?_ (ms 36 7) rfl rfl HT_ (by kernel_rfl) (fun _ _ _ h => h) (by rfl) ?_ ?_ ?_ ?_
   rotate_left
   ·intro w'
    go_simp
    with_reducible rfl
   rotate_left
   ·simp only [SX]
    rfl
   refine pu 4 16 ?_ (ms 36 23) rfl rfl HT_ (by kernel_rfl) (fun _ _ _ h => h) (by rfl) ?_ ?_ ?_ ?_
   rotate_left
   ·intro w'
    go_simp
    with_reducible rfl
   rotate_left
   ·simp only [SX]
    rfl
   refine tk 3 15 ?_ (ms 36 31) rfl rfl HT_ HW_ (by kernel_rfl) (fun _ _ _ h => h) (by rfl) ?_ hHeld ?_ ?_ ?_
   rotate_left
   ·rintro w' ⟨s0, s1, s2⟩
    go_simp
    with_reducible rfl
   rotate_left
   ·simp only [SX]
    rfl
   refine tk 5 17 ?_ (ms 36 63) rfl rfl HT_ HW_ (by kernel_rfl) (fun _ _ _ h => h) (by rfl) ?_ hHeld ?_ ?_ ?_
   rotate_left
   ·rintro w' ⟨s0, s1, s2⟩
    go_simp
    with_reducible rfl
   rotate_left
   ·simp only [SX]
    rfl
   refine pu 6 18 ?_ (ms 36 127) rfl rfl HT_ (by kernel_rfl) (fun _ _ _ h => h) (by rfl) ?_ ?_ ?_ ?_
   rotate_left
   ·intro w'
    go_simp
    with_reducible rfl
   rotate_left
   ·simp only [SX]
    rfl
   refine pu 7 19 ?_ (ms 36 255) rfl rfl HT_ (by kernel_rfl) (fun _ _ _ h => h) (by rfl) ?_ ?_ ?_ ?_
   rotate_left
   ·intro w'
    go_simp
    with_reducible rfl
   rotate_left
   ·simp only [SX]
    rfl
   refine one_ (i := 8) (N := some 20) (ms 36 511) rfl rfl (one_of HT_.out (by kernel_rfl)) (by decide) (fun K hK => ?_)
   refine goes_ Try.func54 (by kernel_rfl) rfl #[.int .i64 (rd l1 x5_1), .int .i64 0, .int .i64 (wrap64 ((l0_1.length : Int) - 1))] (by rfl) rfl rfl (by (try simp only [List.map_toArray, List.map_cons, List.map_nil]); first | done | rfl | (simp only [List.length_drop, List.length_take]; rfl)) ?_
   with_reducible refine (spec_l1In.calls (rd l1 x5_1) 0 (wrap64 ((l0_1.length : Int) - 1)) false _ A6.out).mono ?_
   rintro e w' ⟨rfl, ⟨nd, rfl⟩⟩
   refine ⟨_, rfl, ?_⟩
   refine hK.out _ _ ⟨(blk_cell BK588.out 0).trans rfl, (blk_cell BK588.out 1).trans rfl, ((HB.out.cell (World.block_lt_of_cell? w _ hw589_0)).trans hw589_0)⟩ (fun hHeld => ?_)
   clear hK K
   refine norm_ (a' := ?_) ?_ ?_
   rotate_left
   ·show Act.put _ (some 20) _ = _
    simp only [SX]
    rfl
   refine pu 9 21 ?_ (ms 36 1023) rfl rfl HT_ (by kernel_rfl) (fun _ _ _ h => h) (by rfl) ?_ ?_ ?_ ?_
   rotate_left
   ·intro w'
    go_simp
    with_reducible rfl
   rotate_left
   ·simp only [SX]
    rfl
   refine pu 10 22 ?_ (ms 36 2047) rfl rfl HT_ (by kernel_rfl) (fun _ _ _ h => h) (by rfl) ?_ ?_ ?_ ?_
   rotate_left
   ·intro w'
    go_simp
    with_reducible rfl
   rotate_left
   ·simp only [SX]
    rfl
   refine pure_ (i := 11) (N := some 23) (v := undef) (a' := ?_) (ms 36 4095) rfl rfl (any_of HT_.out (by kernel_rfl)) (fun _ _ _ h => h) (Or.inr ⟨by rfl, rfl⟩) ?_ ?_
   rotate_left
   ·simp only [SX]
    rfl
   refine pure_ (i := 12) (N := some 24) (v := undef) (a' := ?_) (ms 36 8191) rfl rfl (any_of HT_.out (by kernel_rfl)) (fun _ _ _ h => h) (Or.inr ⟨by rfl, rfl⟩) ?_ ?_
   rotate_left
   ·simp only [SX]
    rfl
   refine pure_ (i := 13) (N := some 25) (v := undef) (a' := ?_) (ms 36 16383) rfl rfl (any_of HT_.out (by kernel_rfl)) (fun _ _ _ h => h) (Or.inr ⟨by rfl, rfl⟩) ?_ ?_
   rotate_left
   ·simp only [SX]
    rfl
   refine pure_ (i := 14) (N := some 26) (v := undef) (a' := ?_) (ms 36 32767) rfl rfl (any_of HT_.out (by kernel_rfl)) (fun _ _ _ h => h) (Or.inr ⟨by rfl, rfl⟩) ?_ ?_
   rotate_left
   ·simp only [SX]
    rfl
   refine pure_ (i := 15) (N := some 27) (v := undef) (a' := ?_) (ms 36 65535) rfl rfl (any_of HT_.out (by kernel_rfl)) (fun _ _ _ h => h) (Or.inr ⟨by rfl, rfl⟩) ?_ ?_
   rotate_left
   ·simp only [SX]
    rfl
   refine pure_ (i := 16) (N := some 28) (v := undef) (a' := ?_) (ms 36 131071) rfl rfl (any_of HT_.out (by kernel_rfl)) (fun _ _ _ h => h) (Or.inr ⟨by rfl, rfl⟩) ?_ ?_
   rotate_left
   ·simp only [SX]
    rfl
   refine pure_ (i := 17) (N := some 29) (v := undef) (a' := ?_) (ms 36 262143) rfl rfl (any_of HT_.out (by kernel_rfl)) (fun _ _ _ h => h) (Or.inr ⟨by rfl, rfl⟩) ?_ ?_
   rotate_left
   ·simp only [SX]
    rfl
   refine pure_ (i := 18) (N := some 30) (v := undef) (a' := ?_) (ms 36 524287) rfl rfl (any_of HT_.out (by kernel_rfl)) (fun _ _ _ h => h) (Or.inr ⟨by rfl, rfl⟩) ?_ ?_
   rotate_left
   ·simp only [SX]
    rfl
   refine pure_ (i := 19) (N := some 31) (v := undef) (a' := ?_) (ms 36 1048575) rfl rfl (any_of HT_.out (by kernel_rfl)) (fun _ _ _ h => h) (Or.inr ⟨by rfl, rfl⟩) ?_ ?_
   rotate_left
   ·simp only [SX]
    rfl
   refine pure_ (i := 20) (N := some 32) (v := undef) (a' := ?_) (ms 36 2097151) rfl rfl (any_of HT_.out (by kernel_rfl)) (fun _ _ _ h => h) (Or.inr ⟨by rfl, rfl⟩) ?_ ?_
   rotate_left
   ·simp only [SX]
    rfl
   refine pure_ (i := 21) (N := some 33) (v := undef) (a' := ?_) (ms 36 4194303) rfl rfl (any_of HT_.out (by kernel_rfl)) (fun _ _ _ h => h) (Or.inr ⟨by rfl, rfl⟩) ?_ ?_
   rotate_left
   ·simp only [SX]
    rfl
   refine pure_ (i := 22) (N := some 34) (v := undef) (a' := ?_) (ms 36 8388607) rfl rfl (any_of HT_.out (by kernel_rfl)) (fun _ _ _ h => h) (Or.inr ⟨by rfl, rfl⟩) ?_ ?_
   rotate_left
   ·simp only [SX]
    rfl
   refine pure_ (i := 23) (N := some 35) (v := undef) (a' := ?_) (ms 36 16777215) rfl rfl (any_of HT_.out (by kernel_rfl)) (fun _ _ _ h => h) (Or.inr ⟨by rfl, rfl⟩) ?_ ?_
   rotate_left
   ·simp only [SX]
    rfl
   refine pure_ (i := 24) (N := some 36) (v := undef) (a' := ?_) (ms 36 33554431) rfl rfl (any_of HT_.out (by kernel_rfl)) (fun _ _ _ h => h) (Or.inr ⟨by rfl, rfl⟩) ?_ ?_
   rotate_left
   ·simp only [SX]
    rfl
   refine pure_ (i := 25) (N := some 37) (v := undef) (a' := ?_) (ms 36 67108863) rfl rfl (any_of HT_.out (by kernel_rfl)) (fun _ _ _ h => h) (Or.inr ⟨by rfl, rfl⟩) ?_ ?_
   rotate_left
   ·simp only [SX]
    rfl
   refine pure_ (i := 26) (N := some 38) (v := undef) (a' := ?_) (ms 36 134217727) rfl rfl (any_of HT_.out (by kernel_rfl)) (fun _ _ _ h => h) (Or.inr ⟨by rfl, rfl⟩) ?_ ?_
   rotate_left
   ·simp only [SX]
    rfl
   refine pure_ (i := 27) (N := some 39) (v := undef) (a' := ?_) (ms 36 268435455) rfl rfl (any_of HT_.out (by kernel_rfl)) (fun _ _ _ h => h) (Or.inr ⟨by rfl, rfl⟩) ?_ ?_
   rotate_left
   ·simp only [SX]
    rfl
   refine pure_ (i := 28) (N := some 40) (v := undef) (a' := ?_) (ms 36 536870911) rfl rfl (any_of HT_.out (by kernel_rfl)) (fun _ _ _ h => h) (Or.inr ⟨by rfl, rfl⟩) ?_ ?_
   rotate_left
   ·simp only [SX]
    rfl
   refine pure_ (i := 29) (N := some 41) (v := undef) (a' := ?_) (ms 36 1073741823) rfl rfl (any_of HT_.out (by kernel_rfl)) (fun _ _ _ h => h) (Or.inr ⟨by rfl, rfl⟩) ?_ ?_
   rotate_left
   ·simp only [SX]
    rfl
   refine pure_ (i := 30) (N := some 42) (v := undef) (a' := ?_) (ms 36 2147483647) rfl rfl (any_of HT_.out (by kernel_rfl)) (fun _ _ _ h => h) (Or.inr ⟨by rfl, rfl⟩) ?_ ?_
   rotate_left
   ·simp only [SX]
    rfl
   refine pure_ (i := 31) (N := some 43) (v := undef) (a' := ?_) (ms 36 4294967295) rfl rfl (any_of HT_.out (by kernel_rfl)) (fun _ _ _ h => h) (Or.inr ⟨by rfl, rfl⟩) ?_ ?_
   rotate_left
   ·simp only [SX]
    rfl
   refine pure_ (i := 32) (N := some 44) (v := undef) (a' := ?_) (ms 36 8589934591) rfl rfl (any_of HT_.out (by kernel_rfl)) (fun _ _ _ h => h) (Or.inr ⟨by rfl, rfl⟩) ?_ ?_
   rotate_left
   ·simp only [SX]
    rfl
   refine pure_ (i := 33) (N := some 45) (v := undef) (a' := ?_) (ms 36 17179869183) rfl rfl (any_of HT_.out (by kernel_rfl)) (fun _ _ _ h => h) (Or.inr ⟨by rfl, rfl⟩) ?_ ?_
   rotate_left
   ·simp only [SX]
    rfl
   refine pure_ (i := 34) (N := some 46) (v := undef) (a' := ?_) (ms 36 34359738367) rfl rfl (any_of HT_.out (by kernel_rfl)) (fun _ _ _ h => h) (Or.inr ⟨by rfl, rfl⟩) ?_ ?_
   rotate_left
   ·simp only [SX]
    rfl
   refine pu 35 47 ?_ (ms 36 68719476735) rfl rfl HT_ (by kernel_rfl) (fun _ _ _ h => h) (by rfl) ?_ ?_ ?_ ?_
   rotate_left
   ·intro w'
    go_simp
    with_reducible rfl
   rotate_left
   ·simp only [SX]
    rfl
   refine done_ (done_of HT_.out (by kernel_rfl)) ?_
   try go_wp2
   go_ret
   exact ⟨by first | rfl | (simp [errW_none, errW_some] <;> rfl) | (simp [*, errW_none, errW_some] <;> rfl), bl1 HB GE588⟩
  subst c7
  rw [if_pos rfl] at H
  by_cases c8 : x5_1 > 0
  rotate_left
  ·rw [if_neg c8] at H
   have c8b0 : decide (0 < x5_1) = false := decide_eq_false c8
   clear c8
   have H' := ak H
   clear H
   try go_wp2
   replace BK588 := ak (blk_drew BK588.out)
   replace HB := ak (below_drew1 HB.out)
   have p589 : 0 ≤ (x5_1 : Int) := oT (by first | (with_reducible assumption) | assumption)
   have q589 : x5_1 < (l1.length : Int) := oT (by first | (with_reducible assumption) | assumption)
   obtain ⟨ad589, e589, hx589_0⟩ := Kd.at_int HR1.out x5_1 p589 q589
   have hw589_0 := hx589_0
   cases e589
   replace hx589_0 := hcb HB.out hx589_0
   replace p589 := eq_true p589
   replace q589 := eq_true q589
   refine start_ (n := 36) (S := fun w' => w'.cell? ⟨gb588, 0, none⟩ = some (.int .i64 a0_0) ∧ w'.cell? ⟨gb588, 1, none⟩ = some (.slice A0_1 l0_1.length c0_1) ∧ w'.cell? (ad589.add (x5_1).toNat) = some (.int .i64 (rd l1 x5_1))) (ds := []) (ms 36 0) (by kernel_rfl) rfl (by kernel_rfl) ⟨(blk_cell BK588.out 0).trans rfl, (blk_cell BK588.out 1).trans rfl, ((HB.out.cell (World.block_lt_of_cell? w _ hw589_0)).trans hw589_0)⟩ (fun hHeld => ?_); refine with_tabW spec_l2Ok.tab4 spec_l2Ok.bits4 (fun HT_ HW_ => ?_)
   generalize wr.drew = w19 at BK588 HB hx589_0 hHeld ⊢
   refine pu 0 12 ?_ (ms 36 1) rfl rfl HT_ (by kernel_rfl) (fun _ _ _ h => h) (by rfl) ?_ ?_ ?_ ?_
   rotate_left
   ·intro w'
    go_simp
    with_reducible rfl
   rotate_left
   ·simp only [SX]
    rfl
   refine pu 1 13 ?_ (ms 36 3) rfl rfl HT_ (by kernel_rfl) (fun _ _ _ h => h) (by rfl) ?_ ?_ ?_ ?_
   rotate_left
   ·intro w'
    go_simp
    with_reducible rfl
   rotate_left
   ·simp only [SX]
    rfl
   refine pu 2 14 ?_ (ms 36 7) rfl rfl HT_ (by kernel_rfl) (fun _ _ _ h => h) (by rfl) ?_ ?_ ?_ ?_
   rotate_left
   ·intro w'
    go_simp
    with_reducible rfl
   rotate_left
   ·simp only [SX]
    rfl
   refine pu 4 16 ?_ (ms 36 23) rfl rfl HT_ (by kernel_rfl) (fun _ _ _ h => h) (by rfl) ?_ ?_ ?_ ?_
   rotate_left
   ·intro w'
    go_simp
    with_reducible rfl
   rotate_left
   ·simp only [SX]
    rfl
   refine tk 3 15 ?_ (ms 36 31) rfl rfl HT_ HW_ (by kernel_rfl) (fun _ _ _ h => h) (by rfl) ?_ hHeld ?_ ?_ ?_
   rotate_left
   ·rintro w' ⟨s0, s1, s2⟩
    go_simp
    with_reducible rfl
   rotate_left
   ·simp only [SX]
    rfl
   refine tk 5 17 ?_ (ms 36 63) rfl rfl HT_ HW_ (by kernel_rfl) (fun _ _ _ h => h) (by rfl) ?_ hHeld ?_ ?_ ?_
   rotate_left
   ·rintro w' ⟨s0, s1, s2⟩
    go_simp
    with_reducible rfl
   rotate_left
   ·simp only [SX]
    rfl
   refine pu 6 18 ?_ (ms 36 127) rfl rfl HT_ (by kernel_rfl) (fun _ _ _ h => h) (by rfl) ?_ ?_ ?_ ?_
   rotate_left
   ·intro w'
    go_simp
    with_reducible rfl
   rotate_left
   ·simp only [SX]
    rfl
   refine pu 7 19 ?_ (ms 36 255) rfl rfl HT_ (by kernel_rfl) (fun _ _ _ h => h) (by rfl) ?_ ?_ ?_ ?_
   rotate_left
   ·intro w'
    go_simp
    with_reducible rfl
   rotate_left
   ·simp only [SX]
    rfl
   refine one_ (i := 8) (N := some 20) (ms 36 511) rfl rfl (one_of HT_.out (by kernel_rfl)) (by decide) (fun K hK => ?_)
   refine goes_ Try.func54 (by kernel_rfl) rfl #[.int .i64 (rd l1 x5_1), .int .i64 0, .int .i64 (wrap64 ((l0_1.length : Int) - 1))] (by rfl) rfl rfl (by (try simp only [List.map_toArray, List.map_cons, List.map_nil]); first | done | rfl | (simp only [List.length_drop, List.length_take]; rfl)) ?_
   with_reducible refine (spec_l1In.calls (rd l1 x5_1) 0 (wrap64 ((l0_1.length : Int) - 1)) true _ A6.out).mono ?_
   rintro e w' ⟨rfl, ⟨nd, rfl⟩⟩
   refine ⟨_, rfl, ?_⟩
   refine hK.out _ _ ⟨(blk_cell BK588.out 0).trans rfl, (blk_cell BK588.out 1).trans rfl, ((HB.out.cell (World.block_lt_of_cell? w _ hw589_0)).trans hw589_0)⟩ (fun hHeld => ?_)
   clear hK K
   refine norm_ (a' := ?_) ?_ ?_
   rotate_left
   ·show Act.put _ (some 20) _ = _
    simp only [SX]
    rfl
   refine pu 9 21 ?_ (ms 36 1023) rfl rfl HT_ (by kernel_rfl) (fun _ _ _ h => h) (by rfl) ?_ ?_ ?_ ?_
   rotate_left
   ·intro w'
    go_simp
    with_reducible rfl
   rotate_left
   ·simp only [SX]
    rfl
   refine pu 10 22 ?_ (ms 36 2047) rfl rfl HT_ (by kernel_rfl) (fun _ _ _ h => h) (by rfl) ?_ ?_ ?_ ?_
   rotate_left
   ·intro w'
    go_simp
    with_reducible rfl
   rotate_left
   ·simp only [SX]
    rfl
   refine pu 11 23 ?_ (ms 36 4095) rfl rfl HT_ (by kernel_rfl) (fun _ _ _ h => h) (by rfl) ?_ ?_ ?_ ?_
   rotate_left
   ·intro w'
    go_simp
    with_reducible rfl
   rotate_left
   ·simp only [SX]
    rfl
   refine pu 12 24 ?_ (ms 36 8191) rfl rfl HT_ (by kernel_rfl) (fun _ _ _ h => h) (by rfl) ?_ ?_ ?_ ?_
   rotate_left
   ·intro w'
    go_simp
    with_reducible rfl
   rotate_left
   ·simp only [SX]
    rfl
   refine pu 13 25 ?_ (ms 36 16383) rfl rfl HT_ (by kernel_rfl) (fun _ _ _ h => h) (by rfl) ?_ ?_ ?_ ?_
   rotate_left
   ·intro w'
    go_simp
    with_reducible rfl
   rotate_left
   ·simp only [SX]
    rfl
   refine pure_ (i := 14) (N := some 26) (v := undef) (a' := ?_) (ms 36 32767) rfl rfl (any_of HT_.out (by kernel_rfl)) (fun _ _ _ h => h) (Or.inr ⟨by rfl, rfl⟩) ?_ ?_
   rotate_left
   ·simp only [SX]
    rfl
   refine pure_ (i := 15) (N := some 27) (v := undef) (a' := ?_) (ms 36 65535) rfl rfl (any_of HT_.out (by kernel_rfl)) (fun _ _ _ h => h) (Or.inr ⟨by rfl, rfl⟩) ?_ ?_
   rotate_left
   ·simp only [SX]
    rfl
   refine pure_ (i := 16) (N := some 28) (v := undef) (a' := ?_) (ms 36 131071) rfl rfl (any_of HT_.out (by kernel_rfl)) (fun _ _ _ h => h) (Or.inr ⟨by rfl, rfl⟩) ?_ ?_
   rotate_left
   ·simp only [SX]
    rfl
   refine pure_ (i := 17) (N := some 29) (v := undef) (a' := ?_) (ms 36 262143) rfl rfl (any_of HT_.out (by kernel_rfl)) (fun _ _ _ h => h) (Or.inr ⟨by rfl, rfl⟩) ?_ ?_
   rotate_left
   ·simp only [SX]
    rfl
   refine pure_ (i := 18) (N := some 30) (v := undef) (a' := ?_) (ms 36 524287) rfl rfl (any_of HT_.out (by kernel_rfl)) (fun _ _ _ h => h) (Or.inr ⟨by rfl, rfl⟩) ?_ ?_
   rotate_left
   ·simp only [SX]
    rfl
   refine pure_ (i := 19) (N := some 31) (v := undef) (a' := ?_) (ms 36 1048575) rfl rfl (any_of HT_.out (by kernel_rfl)) (fun _ _ _ h => h) (Or.inr ⟨by rfl, rfl⟩) ?_ ?_
   rotate_left
   ·simp only [SX]
    rfl
   refine pure_ (i := 20) (N := some 32) (v := undef) (a' := ?_) (ms 36 2097151) rfl rfl (any_of HT_.out (by kernel_rfl)) (fun _ _ _ h => h) (Or.inr ⟨by rfl, rfl⟩) ?_ ?_
   rotate_left
   ·simp only [SX]
    rfl
   refine pure_ (i := 21) (N := some 33) (v := undef) (a' := ?_) (ms 36 4194303) rfl rfl (any_of HT_.out (by kernel_rfl)) (fun _ _ _ h => h) (Or.inr ⟨by rfl, rfl⟩) ?_ ?_
   rotate_left
   ·simp only [SX]
    rfl
   refine pure_ (i := 22) (N := some 34) (v := undef) (a' := ?_) (ms 36 8388607) rfl rfl (any_of HT_.out (by kernel_rfl)) (fun _ _ _ h => h) (Or.inr ⟨by rfl, rfl⟩) ?_ ?_
   rotate_left
   ·simp only [SX]
    rfl
   refine pure_ (i := 23) (N := some 35) (v := undef) (a' := ?_) (ms 36 16777215) rfl rfl (any_of HT_.out (by kernel_rfl)) (fun _ _ _ h => h) (Or.inr ⟨by rfl, rfl⟩) ?_ ?_
   rotate_left
   ·simp only [SX]
    rfl
   refine pure_ (i := 24) (N := some 36) (v := undef) (a' := ?_) (ms 36 33554431) rfl rfl (any_of HT_.out (by kernel_rfl)) (fun _ _ _ h => h) (Or.inr ⟨by rfl, rfl⟩) ?_ ?_
   rotate_left
   ·simp only [SX]
    rfl
   refine pure_ (i := 25) (N := some 37) (v := undef) (a' := ?_) (ms 36 67108863) rfl rfl (any_of HT_.out (by kernel_rfl)) (fun _ _ _ h => h) (Or.inr ⟨by rfl, rfl⟩) ?_ ?_
   rotate_left
   ·simp only [SX]
    rfl
   refine pure_ (i := 26) (N := some 38) (v := undef) (a' := ?_) (ms 36 134217727) rfl rfl (any_of HT_.out (by kernel_rfl)) (fun _ _ _ h => h) (Or.inr ⟨by rfl, rfl⟩) ?_ ?_
   rotate_left
   ·simp only [SX]
    rfl
   refine pure_ (i := 27) (N := some 39) (v := undef) (a' := ?_) (ms 36 268435455) rfl rfl (any_of HT_.out (by kernel_rfl)) (fun _ _ _ h => h) (Or.inr ⟨by rfl, rfl⟩) ?_ ?_
   rotate_left
   ·simp only [SX]
    rfl
   refine pure_ (i := 28) (N := some 40) (v := undef) (a' := ?_) (ms 36 536870911) rfl rfl (any_of HT_.out (by kernel_rfl)) (fun _ _ _ h => h) (Or.inr ⟨by rfl, rfl⟩) ?_ ?_
   rotate_left
   ·simp only [SX]
    rfl
   refine pure_ (i := 29) (N := some 41) (v := undef) (a' := ?_) (ms 36 1073741823) rfl rfl (any_of HT_.out (by kernel_rfl)) (fun _ _ _ h => h) (Or.inr ⟨by rfl, rfl⟩) ?_ ?_
   rotate_left
   ·simp only [SX]
    rfl
   refine pure_ (i := 30) (N := some 42) (v := undef) (a' := ?_) (ms 36 2147483647) rfl rfl (any_of HT_.out (by kernel_rfl)) (fun _ _ _ h => h) (Or.inr ⟨by rfl, rfl⟩) ?_ ?_
   rotate_left
   ·simp only [SX]
    rfl
   refine pure_ (i := 31) (N := some 43) (v := undef) (a' := ?_) (ms 36 4294967295) rfl rfl (any_of HT_.out (by kernel_rfl)) (fun _ _ _ h => h) (Or.inr ⟨by rfl, rfl⟩) ?_ ?_
   rotate_left
   ·simp only [SX]
    rfl
   refine pure_ (i := 32) (N := some 44) (v := undef) (a' := ?_) (ms 36 8589934591) rfl rfl (any_of HT_.out (by kernel_rfl)) (fun _ _ _ h => h) (Or.inr ⟨by rfl, rfl⟩) ?_ ?_
   rotate_left
   ·simp only [SX]
    rfl
   refine pure_ (i := 33) (N := some 45) (v := undef) (a' := ?_) (ms 36 17179869183) rfl rfl (any_of HT_.out (by kernel_rfl)) (fun _ _ _ h => h) (Or.inr ⟨by rfl, rfl⟩) ?_ ?_
   rotate_left
   ·simp only [SX]
    rfl
   refine pu 34 46 ?_ (ms 36 34359738367) rfl rfl HT_ (by kernel_rfl) (fun _ _ _ h => h) (by rfl) ?_ ?_ ?_ ?_
   rotate_left
   ·intro w'
    go_simp
    with_reducible rfl
   rotate_left
   ·simp only [SX]
    rfl
   refine pu 35 47 ?_ (ms 36 68719476735) rfl rfl HT_ (by kernel_rfl) (fun _ _ _ h => h) (by rfl) ?_ ?_ ?_ ?_
   rotate_left
   ·intro w'
    go_simp
    with_reducible rfl
   rotate_left
   ·simp only [SX]
    rfl
   refine done_ (done_of HT_.out (by kernel_rfl)) ?_
   try go_wp2
   go_roundg k1
   case measure => have := HK1.out; omega
   case rel => exact ⟨(wrap64 (x5_1 + 1)), (by first | rfl | (simp; done) | (simp [*]; done)), H', ⟨by have := HK1.out; omega⟩, ⟨bk BK588⟩, ⟨bl1 HB GE588⟩⟩
  rw [if_pos c8] at H
  have c8b0 : decide (0 < x5_1) = true := decide_eq_true c8
  clear c8
  by_cases c9 : 0 ≤ (rd l1 x5_1)
  rotate_left
  ·rw [if_neg c9] at H
   exact absurd H (by simp)
  rw [if_pos c9] at H
  have c9b0 : decide (0 ≤ (rd l1 x5_1)) = true := decide_eq_true c9
  clear c9
  by_cases c10 : (rd l1 x5_1) < (l0_1.length : Int)
  rotate_left
  ·rw [if_neg c10] at H
   exact absurd H (by simp)
  rw [if_pos c10] at H
  have c10b0 : decide ((rd l1 x5_1) < (l0_1.length : Int)) = true := decide_eq_true c10
  clear c10
  obtain ⟨ji11, hji11⟩ : ∃ j_ : Int, (wrap64 (x5_1 - 1)) = j_ := ⟨_, rfl⟩
  replace H : (if 0 ≤ (ji11) then (if (ji11) < (l1.length : Int) then (if 0 ≤ (rd l1 (ji11)) then (if (rd l1 (ji11)) < (l0_1.length : Int) then (if ((rd_T58 l0_1 (rd l1 x5_1)).f0) = ((rd_T58 l0_1 (rd l1 (ji11))).f1) then (spec_l2Ok.l0 k1 l1 (wrap64 (x5_1 + 1)) a0_0 l0_1) else (some false)) else (none)) else (none)) else (none)) else (none)) = some r := by first | (rw [hji11] at H; exact H) | (simp only [hji11] at H ⊢; exact H)
  (try rw [hji11] at A6)
  have hji11w : (IntKind.i64.wrap (x5_1 - 1)) = ji11 := (i64_w _).trans hji11
  by_cases c12 : 0 ≤ (ji11)
  rotate_left
  ·rw [if_neg c12] at H
   exact absurd H (by simp)
  rw [if_pos c12] at H
  have c12b0 : decide (0 ≤ (ji11)) = true := decide_eq_true c12
  clear c12
  by_cases c13 : (ji11) < (l1.length : Int)
  rotate_left
  ·rw [if_neg c13] at H
   exact absurd H (by simp)
  rw [if_pos c13] at H
  have c13b0 : decide ((ji11) < (l1.length : Int)) = true := decide_eq_true c13
  clear c13
  by_cases c14 : 0 ≤ (rd l1 (ji11))
  rotate_left
  ·rw [if_neg c14] at H
   exact absurd H (by simp)
  rw [if_pos c14] at H
  have c14b0 : decide (0 ≤ (rd l1 (ji11))) = true := decide_eq_true c14
  clear c14
  by_cases c15 : (rd l1 (ji11)) < (l0_1.length : Int)
  rotate_left
  ·rw [if_neg c15] at H
   exact absurd H (by simp)
  rw [if_pos c15] at H
  have c15b0 : decide ((rd l1 (ji11)) < (l0_1.length : Int)) = true := decide_eq_true c15
  clear c15
  by_cases c16 : ((rd_T58 l0_1 (rd l1 x5_1)).f0) = ((rd_T58 l0_1 (rd l1 (ji11))).f1)
  rotate_left
  ·rw [if_neg c16] at H
   have c16b0 : (((rd_T58 l0_1 (rd l1 x5_1)).f0) == ((rd_T58 l0_1 (rd l1 (ji11))).f1)) = false := beq_eq_false_iff_ne.mpr c16
   have c16b1 : (((rd_T58 l0_1 (rd l1 x5_1)).f0) != ((rd_T58 l0_1 (rd l1 (ji11))).f1)) = true := bne_iff_ne.mpr c16
   obtain rfl := Option.some.inj H
   try go_wp2
   replace BK588 := ak (blk_drew BK588.out)
   replace HB := ak (below_drew1 HB.out)
   have p589 : 0 ≤ (x5_1 : Int) := oT (by first | (with_reducible assumption) | assumption)
   have q589 : x5_1 < (l1.length : Int) := oT (by first | (with_reducible assumption) | assumption)
   obtain ⟨ad589, e589, hx589_0⟩ := Kd.at_int HR1.out x5_1 p589 q589
   have hw589_0 := hx589_0
   cases e589
   replace hx589_0 := hcb HB.out hx589_0
   replace p589 := eq_true p589
   replace q589 := eq_true q589
   have p591 : 0 ≤ (x5_1 : Int) := oT (by first | (with_reducible assumption) | assumption)
   have q591 : x5_1 < (l1.length : Int) := oT (by first | (with_reducible assumption) | assumption)
   obtain ⟨ad591, e591, hx591_0⟩ := Kd.at_int HR1.out x5_1 p591 q591
   have hw591_0 := hx591_0
   obtain rfl : ad589 = ad591 := (by injection e591)
   replace hx591_0 := hcb HB.out hx591_0
   replace p591 := eq_true p591
   replace q591 := eq_true q591
   have p592 : 0 ≤ ((rd l1 x5_1) : Int) := oT (by first | (with_reducible assumption) | assumption)
   have q592 : (rd l1 x5_1) < (l0_1.length : Int) := oT (by first | (with_reducible assumption) | assumption)
   obtain ⟨ad592, e592, hx592_0, hx592_1, hx592_2, hx592_3, hx592_4⟩ := at_T58 HR0_1.out (rd l1 x5_1) p592 q592
   have hw592_4 := hx592_4
   have hw592_3 := hx592_3
   have hw592_2 := hx592_2
   have hw592_1 := hx592_1
   have hw592_0 := hx592_0
   cases e592
   replace hx592_0 := hcb HB.out hx592_0
   replace hx592_1 := hcb HB.out hx592_1
   replace hx592_2 := hcb HB.out hx592_2
   replace hx592_3 := hcb HB.out hx592_3
   replace hx592_4 := hcb HB.out hx592_4
   replace p592 := eq_true p592
   replace q592 := eq_true q592
   have p593 : 0 ≤ ((ji11) : Int) := oT (by first | (with_reducible assumption) | assumption)
   have q593 : (ji11) < (l1.length : Int) := oT (by first | (with_reducible assumption) | assumption)
   obtain ⟨ad593, e593, hx593_0⟩ := Kd.at_int HR1.out (ji11) p593 q593
   have hw593_0 := hx593_0
   obtain rfl : ad589 = ad593 := (by injection e593)
   replace hx593_0 := hcb HB.out hx593_0
   replace p593 := eq_true p593
   replace q593 := eq_true q593
   have p594 : 0 ≤ ((rd l1 (ji11)) : Int) := oT (by first | (with_reducible assumption) | assumption)
   have q594 : (rd l1 (ji11)) < (l0_1.length : Int) := oT (by first | (with_reducible assumption) | assumption)
   obtain ⟨ad594, e594, hx594_0, hx594_1, hx594_2, hx594_3, hx594_4⟩ := at_T58 HR0_1.out (rd l1 (ji11)) p594 q594
   have hw594_4 := hx594_4
   have hw594_3 := hx594_3
   have hw594_2 := hx594_2
   have hw594_1 := hx594_1
   have hw594_0 := hx594_0
   obtain rfl : ad592 = ad594 := (by injection e594)
   replace hx594_0 := hcb HB.out hx594_0
   replace hx594_1 := hcb HB.out hx594_1
   replace hx594_2 := hcb HB.out hx594_2
   replace hx594_3 := hcb HB.out hx594_3
   replace hx594_4 := hcb HB.out hx594_4
   replace p594 := eq_true p594
   replace q594 := eq_true q594
   refine start_ (n := 36) (S := fun w' => w'.cell? ⟨gb588, 0, none⟩ = some (.int .i64 a0_0) ∧ w'.cell? ⟨gb588, 1, none⟩ = some (.slice (some ad592) l0_1.length c0_1) ∧ w'.cell? (ad589.add (x5_1).toNat) = some (.int .i64 (rd l1 x5_1)) ∧ w'.cell? (ad589.add (x5_1).toNat) = some (.int .i64 (rd l1 x5_1)) ∧ w'.cell? (ad592.add (((rd l1 x5_1)).toNat * 5)) = some (.int .i64 ((rd_T58 l0_1 (rd l1 x5_1)).f0)) ∧ w'.cell? ⟨(ad592.add (((rd l1 x5_1)).toNat * 5)).block, (ad592.add (((rd l1 x5_1)).toNat * 5)).off + 1, none⟩ = some (.int .i64 ((rd_T58 l0_1 (rd l1 x5_1)).f1)) ∧ w'.cell? ⟨(ad592.add (((rd l1 x5_1)).toNat * 5)).block, (ad592.add (((rd l1 x5_1)).toNat * 5)).off + 2, none⟩ = some (.int .i64 ((rd_T58 l0_1 (rd l1 x5_1)).f2)) ∧ w'.cell? ⟨(ad592.add (((rd l1 x5_1)).toNat * 5)).block, (ad592.add (((rd l1 x5_1)).toNat * 5)).off + 3, none⟩ = some (.int .i64 ((rd_T58 l0_1 (rd l1 x5_1)).f3)) ∧ w'.cell? ⟨(ad592.add (((rd l1 x5_1)).toNat * 5)).block, (ad592.add (((rd l1 x5_1)).toNat * 5)).off + 4, none⟩ = some (.int .i64 ((rd_T58 l0_1 (rd l1 x5_1)).f4)) ∧ w'.cell? (ad589.add ((ji11)).toNat) = some (.int .i64 (rd l1 (ji11))) ∧ w'.cell? (ad592.add (((rd l1 (ji11))).toNat * 5)) = some (.int .i64 ((rd_T58 l0_1 (rd l1 (ji11))).f0)) ∧ w'.cell? ⟨(ad592.add (((rd l1 (ji11))).toNat * 5)).block, (ad592.add (((rd l1 (ji11))).toNat * 5)).off + 1, none⟩ = some (.int .i64 ((rd_T58 l0_1 (rd l1 (ji11))).f1)) ∧ w'.cell? ⟨(ad592.add (((rd l1 (ji11))).toNat * 5)).block, (ad592.add (((rd l1 (ji11))).toNat * 5)).off + 2, none⟩ = some (.int .i64 ((rd_T58 l0_1 (rd l1 (ji11))).f2)) ∧ w'.cell? ⟨(ad592.add (((rd l1 (ji11))).toNat * 5)).block, (ad592.add (((rd l1 (ji11))).toNat * 5)).off + 3, none⟩ = some (.int .i64 ((rd_T58 l0_1 (rd l1 (ji11))).f3)) ∧ w'.cell? ⟨(ad592.add (((rd l1 (ji11))).toNat * 5)).block, (ad592.add (((rd l1 (ji11))).toNat * 5)).off + 4, none⟩ = some (.int .i64 ((rd_T58 l0_1 (rd l1 (ji11))).f4))) (ds := []) (ms 36 0) (by kernel_rfl) rfl (by kernel_rfl) ⟨(blk_cell BK588.out 0).trans rfl, (blk_cell BK588.out 1).trans rfl, ((HB.out.cell (World.block_lt_of_cell? w _ hw589_0)).trans hw589_0), ((HB.out.cell (World.block_lt_of_cell? w _ hw591_0)).trans hw591_0), ((HB.out.cell (World.block_lt_of_cell? w _ hw592_0)).trans hw592_0), ((HB.out.cell (World.block_lt_of_cell? w _ hw592_1)).trans hw592_1), ((HB.out.cell (World.block_lt_of_cell? w _ hw592_2)).trans hw592_2), ((HB.out.cell (World.block_lt_of_cell? w _ hw592_3)).trans hw592_3), ((HB.out.cell (World.block_lt_of_cell? w _ hw592_4)).trans hw592_4), ((HB.out.cell (World.block_lt_of_cell? w _ hw593_0)).trans hw593_0), ((HB.out.cell (World.block_lt_of_cell? w _ hw594_0)).trans hw594_0), ((HB.out.cell (World.block_lt_of_cell? w _ hw594_1)).trans hw594_1), ((HB.out.cell (World.block_lt_of_cell? w _ hw594_2)).trans hw594_2), ((HB.out.cell (World.block_lt_of_cell? w _ hw594_3)).trans hw594_3), ((HB.out.cell (World.block_lt_of_cell? w _ hw594_4)).trans hw594_4)⟩ (fun hHeld => ?_); refine with_tabW spec_l2Ok.tab4 spec_l2Ok.bits4 (fun HT_ HW_ => ?_)
   generalize wr.drew = w18 at BK588 HB hx589_0 hx591_0 hx592_0 hx592_1 hx592_2 hx592_3 hx592_4 hx593_0 hx594_0 hx594_1 hx594_2 hx594_3 hx594_4 hHeld ⊢
   refine pu 0 12 ?_ (ms 36 1) rfl rfl HT_ (by kernel_rfl) (fun _ _ _ h => h) (by rfl) ?_ ?_ ?_ ?_
   rotate_left
   ·intro w'
    go_simp
    with_reducible rfl
   rotate_left
   ·simp only [SX]
    rfl
   refine pu 1 13 ?_ (ms 36 3) rfl rfl HT_ (by kernel_rfl) (fun _ _ _ h => h) (by rfl) ?_ ?_ ?_ ?_
   rotate_left
   ·intro w'
    go_simp
    with_reducible rfl
   rotate_left
   ·simp only [SX]
    rfl
   refine pu 2 14 ?_ (ms 36 7) rfl rfl HT_ (by kernel_rfl) (fun _ _ _ h => h) (by rfl) ?_ ?_ ?_ ?_
   rotate_left
   ·intro w'
    go_simp
    with_reducible rfl
   rotate_left
   ·simp only [SX]
    rfl
   refine pu 4 16 ?_ (ms 36 23) rfl rfl HT_ (by kernel_rfl) (fun _ _ _ h => h) (by rfl) ?_ ?_ ?_ ?_
   rotate_left
   ·intro w'
    go_simp
    with_reducible rfl
   rotate_left
   ·simp only [SX]
    rfl
   refine tk 3 15 ?_ (ms 36 31) rfl rfl HT_ HW_ (by kernel_rfl) (fun _ _ _ h => h) (by rfl) ?_ hHeld ?_ ?_ ?_
   rotate_left
   ·rintro w' ⟨s0, s1, s2, s3, s4, s5, s6, s7, s8, s9, s10, s11, s12, s13, s14⟩
    go_simp
    with_reducible rfl
   rotate_left
   ·simp only [SX]
    rfl
   refine tk 5 17 ?_ (ms 36 63) rfl rfl HT_ HW_ (by kernel_rfl) (fun _ _ _ h => h) (by rfl) ?_ hHeld ?_ ?_ ?_
   rotate_left
   ·rintro w' ⟨s0, s1, s2, s3, s4, s5, s6, s7, s8, s9, s10, s11, s12, s13, s14⟩
    go_simp
    with_reducible rfl
   rotate_left
   ·simp only [SX]
    rfl
   refine pu 6 18 ?_ (ms 36 127) rfl rfl HT_ (by kernel_rfl) (fun _ _ _ h => h) (by rfl) ?_ ?_ ?_ ?_
   rotate_left
   ·intro w'
    go_simp
    with_reducible rfl
   rotate_left
   ·simp only [SX]
    rfl
   refine pu 7 19 ?_ (ms 36 255) rfl rfl HT_ (by kernel_rfl) (fun _ _ _ h => h) (by rfl) ?_ ?_ ?_ ?_
   rotate_left
   ·intro w'
    go_simp
    with_reducible rfl
   rotate_left
   ·simp only [SX]
    rfl
   refine one_ (i := 8) (N := some 20) (ms 36 511) rfl rfl (one_of HT_.out (by kernel_rfl)) (by decide) (fun K hK => ?_)
   refine goes_ Try.func54 (by kernel_rfl) rfl #[.int .i64 (rd l1 x5_1), .int .i64 0, .int .i64 (wrap64 ((l0_1.length : Int) - 1))] (by rfl) rfl rfl (by (try simp only [List.map_toArray, List.map_cons, List.map_nil]); first | done | rfl | (simp only [List.length_drop, List.length_take]; rfl)) ?_
   with_reducible refine (spec_l1In.calls (rd l1 x5_1) 0 (wrap64 ((l0_1.length : Int) - 1)) true _ A6.out).mono ?_
   rintro e w' ⟨rfl, ⟨nd, rfl⟩⟩
   refine ⟨_, rfl, ?_⟩
   refine hK.out _ _ ⟨(blk_cell BK588.out 0).trans rfl, (blk_cell BK588.out 1).trans rfl, ((HB.out.cell (World.block_lt_of_cell? w _ hw589_0)).trans hw589_0), ((HB.out.cell (World.block_lt_of_cell? w _ hw591_0)).trans hw591_0), ((HB.out.cell (World.block_lt_of_cell? w _ hw592_0)).trans hw592_0), ((HB.out.cell (World.block_lt_of_cell? w _ hw592_1)).trans hw592_1), ((HB.out.cell (World.block_lt_of_cell? w _ hw592_2)).trans hw592_2), ((HB.out.cell (World.block_lt_of_cell? w _ hw592_3)).trans hw592_3), ((HB.out.cell (World.block_lt_of_cell? w _ hw592_4)).trans hw592_4), ((HB.out.cell (World.block_lt_of_cell? w _ hw593_0)).trans hw593_0), ((HB.out.cell (World.block_lt_of_cell? w _ hw594_0)).trans hw594_0), ((HB.out.cell (World.block_lt_of_cell? w _ hw594_1)).trans hw594_1), ((HB.out.cell (World.block_lt_of_cell? w _ hw594_2)).trans hw594_2), ((HB.out.cell (World.block_lt_of_cell? w _ hw594_3)).trans hw594_3), ((HB.out.cell (World.block_lt_of_cell? w _ hw594_4)).trans hw594_4)⟩ (fun hHeld => ?_)
   clear hK K
   refine norm_ (a' := ?_) ?_ ?_
   rotate_left
   ·show Act.put _ (some 20) _ = _
    simp only [SX]
    rfl
   refine pu 9 21 ?_ (ms 36 1023) rfl rfl HT_ (by kernel_rfl) (fun _ _ _ h => h) (by rfl) ?_ ?_ ?_ ?_
   rotate_left
   ·intro w'
    go_simp
    with_reducible rfl
   rotate_left
   ·simp only [SX]
    rfl
   refine pu 10 22 ?_ (ms 36 2047) rfl rfl HT_ (by kernel_rfl) (fun _ _ _ h => h) (by rfl) ?_ ?_ ?_ ?_
   rotate_left
   ·intro w'
    go_simp
    with_reducible rfl
   rotate_left
   ·simp only [SX]
    rfl
   refine pu 11 23 ?_ (ms 36 4095) rfl rfl HT_ (by kernel_rfl) (fun _ _ _ h => h) (by rfl) ?_ ?_ ?_ ?_
   rotate_left
   ·intro w'
    go_simp
    with_reducible rfl
   rotate_left
   ·simp only [SX]
    rfl
   refine pu 12 24 ?_ (ms 36 8191) rfl rfl HT_ (by kernel_rfl) (fun _ _ _ h => h) (by rfl) ?_ ?_ ?_ ?_
   rotate_left
   ·intro w'
    go_simp
    with_reducible rfl
   rotate_left
   ·simp only [SX]
    rfl
   refine pu 13 25 ?_ (ms 36 16383) rfl rfl HT_ (by kernel_rfl) (fun _ _ _ h => h) (by rfl) ?_ ?_ ?_ ?_
   rotate_left
   ·intro w'
    go_simp
    with_reducible rfl
   rotate_left
   ·simp only [SX]
    rfl
   refine pu 14 26 ?_ (ms 36 32767) rfl rfl HT_ (by kernel_rfl) (fun _ _ _ h => h) (by rfl) ?_ ?_ ?_ ?_
   rotate_left
   ·intro w'
    go_simp
    with_reducible rfl
   rotate_left
   ·simp only [SX]
    rfl
   refine pu 16 28 ?_ (ms 36 98303) rfl rfl HT_ (by kernel_rfl) (fun _ _ _ h => h) (by rfl) ?_ ?_ ?_ ?_
   rotate_left
   ·intro w'
    go_simp
    with_reducible rfl
   rotate_left
   ·simp only [SX]
    rfl
   refine pu 17 29 ?_ (ms 36 229375) rfl rfl HT_ (by kernel_rfl) (fun _ _ _ h => h) (by rfl) ?_ ?_ ?_ ?_
   rotate_left
   ·intro w'
    go_simp
    with_reducible rfl
   rotate_left
   ·simp only [SX]
    rfl
   refine pu 18 30 ?_ (ms 36 491519) rfl rfl HT_ (by kernel_rfl) (fun _ _ _ h => h) (by rfl) ?_ ?_ ?_ ?_
   rotate_left
   ·intro w'
    go_simp
    with_reducible rfl
   rotate_left
   ·simp only [SX]
    rfl
   refine pu 23 35 ?_ (ms 36 8880127) rfl rfl HT_ (by kernel_rfl) (fun _ _ _ h => h) (by rfl) ?_ ?_ ?_ ?_
   rotate_left
   ·intro w'
    go_simp
    with_reducible rfl
   rotate_left
   ·simp only [SX]
    rfl
   refine pu 25 37 ?_ (ms 36 42434559) rfl rfl HT_ (by kernel_rfl) (fun _ _ _ h => h) (by rfl) ?_ ?_ ?_ ?_
   rotate_left
   ·intro w'
    go_simp
    with_reducible rfl
   rotate_left
   ·simp only [SX]
    rfl
   refine pu 26 38 ?_ (ms 36 109543423) rfl rfl HT_ (by kernel_rfl) (fun _ _ _ h => h) (by rfl) ?_ ?_ ?_ ?_
   rotate_left
   ·intro w'
    go_simp
    with_reducible rfl
   rotate_left
   ·simp only [SX]
    rfl
   refine pu 27 39 ?_ (ms 36 243761151) rfl rfl HT_ (by kernel_rfl) (fun _ _ _ h => h) (by rfl) ?_ ?_ ?_ ?_
   rotate_left
   ·intro w'
    go_simp
    with_reducible rfl
   rotate_left
   ·simp only [SX]
    rfl
   refine pu 28 40 ?_ (ms 36 512196607) rfl rfl HT_ (by kernel_rfl) (fun _ _ _ h => h) (by rfl) ?_ ?_ ?_ ?_
   rotate_left
   ·intro w'
    go_simp
    with_reducible rfl
   rotate_left
   ·simp only [SX]
    rfl
   refine tk 15 27 ?_ (ms 36 512229375) rfl rfl HT_ HW_ (by kernel_rfl) (fun _ _ _ h => h) (by rfl) ?_ hHeld ?_ ?_ ?_
   rotate_left
   ·rintro w' ⟨s0, s1, s2, s3, s4, s5, s6, s7, s8, s9, s10, s11, s12, s13, s14⟩
    go_simp
    with_reducible rfl
   rotate_left
   ·simp only [SX]
    rfl
   refine tk 19 31 ?_ (ms 36 512753663) rfl rfl HT_ HW_ (by kernel_rfl) (fun _ _ _ h => h) (by rfl) ?_ hHeld ?_ ?_ ?_
   rotate_left
   ·rintro w' ⟨s0, s1, s2, s3, s4, s5, s6, s7, s8, s9, s10, s11, s12, s13, s14⟩
    go_simp
    with_reducible rfl
   rotate_left
   ·simp only [SX]
    rfl
   refine pu 20 32 ?_ (ms 36 513802239) rfl rfl HT_ (by kernel_rfl) (fun _ _ _ h => h) (by rfl) ?_ ?_ ?_ ?_
   rotate_left
   ·intro w'
    go_simp
    with_reducible rfl
   rotate_left
   ·simp only [SX]
    rfl
   refine pu 21 33 ?_ (ms 36 515899391) rfl rfl HT_ (by kernel_rfl) (fun _ _ _ h => h) (by rfl) ?_ ?_ ?_ ?_
   rotate_left
   ·intro w'
    go_simp
    with_reducible rfl
   rotate_left
   ·simp only [SX]
    rfl
   refine tk 22 34 ?_ (ms 36 520093695) rfl rfl HT_ HW_ (by kernel_rfl) (fun _ _ _ h => h) (by rfl) ?_ hHeld ?_ ?_ ?_
   rotate_left
   ·rintro w' ⟨s0, s1, s2, s3, s4, s5, s6, s7, s8, s9, s10, s11, s12, s13, s14⟩
    go_simp
    with_reducible rfl
   rotate_left
   ·simp only [SX]
    rfl
   refine tk 24 36 ?_ (ms 36 536870911) rfl rfl HT_ HW_ (by kernel_rfl) (fun _ _ _ h => h) (by rfl) ?_ hHeld ?_ ?_ ?_
   rotate_left
   ·rintro w' ⟨s0, s1, s2, s3, s4, s5, s6, s7, s8, s9, s10, s11, s12, s13, s14⟩
    go_simp
    with_reducible rfl
   rotate_left
   ·simp only [SX]
    rfl
   refine tk 29 41 ?_ (ms 36 1073741823) rfl rfl HT_ HW_ (by kernel_rfl) (fun _ _ _ h => h) (by rfl) ?_ hHeld ?_ ?_ ?_
   rotate_left
   ·rintro w' ⟨s0, s1, s2, s3, s4, s5, s6, s7, s8, s9, s10, s11, s12, s13, s14⟩
    go_simp
    with_reducible rfl
   rotate_left
   ·simp only [SX]
    rfl
   refine pu 30 42 ?_ (ms 36 2147483647) rfl rfl HT_ (by kernel_rfl) (fun _ _ _ h => h) (by rfl) ?_ ?_ ?_ ?_
   rotate_left
   ·intro w'
    go_simp
    with_reducible rfl
   rotate_left
   ·simp only [SX]
    rfl
   refine pu 31 43 ?_ (ms 36 4294967295) rfl rfl HT_ (by kernel_rfl) (fun _ _ _ h => h) (by rfl) ?_ ?_ ?_ ?_
   rotate_left
   ·intro w'
    go_simp
    with_reducible rfl
   rotate_left
   ·simp only [SX]
    rfl
   refine tk 32 44 ?_ (ms 36 8589934591) rfl rfl HT_ HW_ (by kernel_rfl) (fun _ _ _ h => h) (by rfl) ?_ hHeld ?_ ?_ ?_
   rotate_left
   ·rintro w' ⟨s0, s1, s2, s3, s4, s5, s6, s7, s8, s9, s10, s11, s12, s13, s14⟩
    go_simp
    with_reducible rfl
   rotate_left
   ·simp only [SX]
    rfl
   refine pu 33 45 ?_ (ms 36 17179869183) rfl rfl HT_ (by kernel_rfl) (fun _ _ _ h => h) (by rfl) ?_ ?_ ?_ ?_
   rotate_left
   ·intro w'
    go_simp
    with_reducible rfl
   rotate_left
   ·simp only [SX]
    rfl
   refine pu 34 46 ?_ (ms 36 34359738367) rfl rfl HT_ (by kernel_rfl) (fun _ _ _ h => h) (by rfl) ?_ ?_ ?_ ?_
   rotate_left
   ·intro w'
    go_simp
    with_reducible rfl
   rotate_left
   ·simp only [SX]
    rfl
   refine pu 35 47 ?_ (ms 36 68719476735) rfl rfl HT_ (by kernel_rfl) (fun _ _ _ h => h) (by rfl) ?_ ?_ ?_ ?_
   rotate_left
   ·intro w'
    go_simp
    with_reducible rfl
   rotate_left
   ·simp only [SX]
    rfl
   refine done_ (done_of HT_.out (by kernel_rfl)) ?_
   try go_wp2
   go_ret
   exact ⟨by first | rfl | (simp [errW_none, errW_some] <;> rfl) | (simp only [← hji11]; first | rfl | (simp [errW_none, errW_some] <;> rfl)) | (simp [*, errW_none, errW_some] <;> rfl), bl1 HB GE588⟩
  rw [if_pos c16] at H
  have c16b0 : (((rd_T58 l0_1 (rd l1 x5_1)).f0) == ((rd_T58 l0_1 (rd l1 (ji11))).f1)) = true := beq_iff_eq.mpr c16
  have c16b1 : (((rd_T58 l0_1 (rd l1 x5_1)).f0) != ((rd_T58 l0_1 (rd l1 (ji11))).f1)) = false := bne_eq_false_iff_eq.mpr c16
  clear c16
  have H' := ak H
  clear H
  try go_wp2
  replace BK588 := ak (blk_drew BK588.out)
  replace HB := ak (below_drew1 HB.out)
  have p589 : 0 ≤ (x5_1 : Int) := oT (by first | (with_reducible assumption) | assumption)
  have q589 : x5_1 < (l1.length : Int) := oT (by first | (with_reducible assumption) | assumption)
  obtain ⟨ad589, e589, hx589_0⟩ := Kd.at_int HR1.out x5_1 p589 q589
  have hw589_0 := hx589_0
  cases e589
  replace hx589_0 := hcb HB.out hx589_0
  replace p589 := eq_true p589
  replace q589 := eq_true q589
  have p591 : 0 ≤ (x5_1 : Int) := oT (by first | (with_reducible assumption) | assumption)
  have q591 : x5_1 < (l1.length : Int) := oT (by first | (with_reducible assumption) | assumption)
  obtain ⟨ad591, e591, hx591_0⟩ := Kd.at_int HR1.out x5_1 p591 q591
  have hw591_0 := hx591_0
  obtain rfl : ad589 = ad591 := (by injection e591)
  replace hx591_0 := hcb HB.out hx591_0
  replace p591 := eq_true p591
  replace q591 := eq_true q591
  have p592 : 0 ≤ ((rd l1 x5_1) : Int) := oT (by first | (with_reducible assumption) | assumption)
  have q592 : (rd l1 x5_1) < (l0_1.length : Int) := oT (by first | (with_reducible assumption) | assumption)
  obtain ⟨ad592, e592, hx592_0, hx592_1, hx592_2, hx592_3, hx592_4⟩ := at_T58 HR0_1.out (rd l1 x5_1) p592 q592
  have hw592_4 := hx592_4
  have hw592_3 := hx592_3
  have hw592_2 := hx592_2
  have hw592_1 := hx592_1
  have hw592_0 := hx592_0
  cases e592
  replace hx592_0 := hcb HB.out hx592_0
  replace hx592_1 := hcb HB.out hx592_1
  replace hx592_2 := hcb HB.out hx592_2
  replace hx592_3 := hcb HB.out hx592_3
  replace hx592_4 := hcb HB.out hx592_4
  replace p592 := eq_true p592
  replace q592 := eq_true q592
  have p593 : 0 ≤ ((ji11) : Int) := oT (by first | (with_reducible assumption) | assumption)
  have q593 : (ji11) < (l1.length : Int) := oT (by first | (with_reducible assumption) | assumption)
  obtain ⟨ad593, e593, hx593_0⟩ := Kd.at_int HR1.out (ji11) p593 q593
  have hw593_0 := hx593_0
  obtain rfl : ad589 = ad593 := (by injection e593)
  replace hx593_0 := hcb HB.out hx593_0
  replace p593 := eq_true p593
  replace q593 := eq_true q593
  have p594 : 0 ≤ ((rd l1 (ji11)) : Int) := oT (by first | (with_reducible assumption) | assumption)
  have q594 : (rd l1 (ji11)) < (l0_1.length : Int) := oT (by first | (with_reducible assumption) | assumption)
  obtain ⟨ad594, e594, hx594_0, hx594_1, hx594_2, hx594_3, hx594_4⟩ := at_T58 HR0_1.out (rd l1 (ji11)) p594 q594
  have hw594_4 := hx594_4
  have hw594_3 := hx594_3
  have hw594_2 := hx594_2
  have hw594_1 := hx594_1
  have hw594_0 := hx594_0
  obtain rfl : ad592 = ad594 := (by injection e594)
  replace hx594_0 := hcb HB.out hx594_0
  replace hx594_1 := hcb HB.out hx594_1
  replace hx594_2 := hcb HB.out hx594_2
  replace hx594_3 := hcb HB.out hx594_3
  replace hx594_4 := hcb HB.out hx594_4
  replace p594 := eq_true p594
  replace q594 := eq_true q594
  refine start_ (n := 36) (S := fun w' => w'.cell? ⟨gb588, 0, none⟩ = some (.int .i64 a0_0) ∧ w'.cell? ⟨gb588, 1, none⟩ = some (.slice (some ad592) l0_1.length c0_1) ∧ w'.cell? (ad589.add (x5_1).toNat) = some (.int .i64 (rd l1 x5_1)) ∧ w'.cell? (ad589.add (x5_1).toNat) = some (.int .i64 (rd l1 x5_1)) ∧ w'.cell? (ad592.add (((rd l1 x5_1)).toNat * 5)) = some (.int .i64 ((rd_T58 l0_1 (rd l1 x5_1)).f0)) ∧ w'.cell? ⟨(ad592.add (((rd l1 x5_1)).toNat * 5)).block, (ad592.add (((rd l1 x5_1)).toNat * 5)).off + 1, none⟩ = some (.int .i64 ((rd_T58 l0_1 (rd l1 x5_1)).f1)) ∧ w'.cell? ⟨(ad592.add (((rd l1 x5_1)).toNat * 5)).block, (ad592.add (((rd l1 x5_1)).toNat * 5)).off + 2, none⟩ = some (.int .i64 ((rd_T58 l0_1 (rd l1 x5_1)).f2)) ∧ w'.cell? ⟨(ad592.add (((rd l1 x5_1)).toNat * 5)).block, (ad592.add (((rd l1 x5_1)).toNat * 5)).off + 3, none⟩ = some (.int .i64 ((rd_T58 l0_1 (rd l1 x5_1)).f3)) ∧ w'.cell? ⟨(ad592.add (((rd l1 x5_1)).toNat * 5)).block, (ad592.add (((rd l1 x5_1)).toNat * 5)).off + 4, none⟩ = some (.int .i64 ((rd_T58 l0_1 (rd l1 x5_1)).f4)) ∧ w'.cell? (ad589.add ((ji11)).toNat) = some (.int .i64 (rd l1 (ji11))) ∧ w'.cell? (ad592.add (((rd l1 (ji11))).toNat * 5)) = some (.int .i64 ((rd_T58 l0_1 (rd l1 (ji11))).f0)) ∧ w'.cell? ⟨(ad592.add (((rd l1 (ji11))).toNat * 5)).block, (ad592.add (((rd l1 (ji11))).toNat * 5)).off + 1, none⟩ = some (.int .i64 ((rd_T58 l0_1 (rd l1 (ji11))).f1)) ∧ w'.cell? ⟨(ad592.add (((rd l1 (ji11))).toNat * 5)).block, (ad592.add (((rd l1 (ji11))).toNat * 5)).off + 2, none⟩ = some (.int .i64 ((rd_T58 l0_1 (rd l1 (ji11))).f2)) ∧ w'.cell? ⟨(ad592.add (((rd l1 (ji11))).toNat * 5)).block, (ad592.add (((rd l1 (ji11))).toNat * 5)).off + 3, none⟩ = some (.int .i64 ((rd_T58 l0_1 (rd l1 (ji11))).f3)) ∧ w'.cell? ⟨(ad592.add (((rd l1 (ji11))).toNat * 5)).block, (ad592.add (((rd l1 (ji11))).toNat * 5)).off + 4, none⟩ = some (.int .i64 ((rd_T58 l0_1 (rd l1 (ji11))).f4))) (ds := []) (ms 36 0) (by kernel_rfl) rfl (by kernel_rfl) ⟨(blk_cell BK588.out 0).trans rfl, (blk_cell BK588.out 1).trans rfl, ((HB.out.cell (World.block_lt_of_cell? w _ hw589_0)).trans hw589_0), ((HB.out.cell (World.block_lt_of_cell? w _ hw591_0)).trans hw591_0), ((HB.out.cell (World.block_lt_of_cell? w _ hw592_0)).trans hw592_0), ((HB.out.cell (World.block_lt_of_cell? w _ hw592_1)).trans hw592_1), ((HB.out.cell (World.block_lt_of_cell? w _ hw592_2)).trans hw592_2), ((HB.out.cell (World.block_lt_of_cell? w _ hw592_3)).trans hw592_3), ((HB.out.cell (World.block_lt_of_cell? w _ hw592_4)).trans hw592_4), ((HB.out.cell (World.block_lt_of_cell? w _ hw593_0)).trans hw593_0), ((HB.out.cell (World.block_lt_of_cell? w _ hw594_0)).trans hw594_0), ((HB.out.cell (World.block_lt_of_cell? w _ hw594_1)).trans hw594_1), ((HB.out.cell (World.block_lt_of_cell? w _ hw594_2)).trans hw594_2), ((HB.out.cell (World.block_lt_of_cell? w _ hw594_3)).trans hw594_3), ((HB.out.cell (World.block_lt_of_cell? w _ hw594_4)).trans hw594_4)⟩ (fun hHeld => ?_); refine with_tabW spec_l2Ok.tab4 spec_l2Ok.bits4 (fun HT_ HW_ => ?_)
  generalize wr.drew = w17 at BK588 HB hx589_0 hx591_0 hx592_0 hx592_1 hx592_2 hx592_3 hx592_4 hx593_0 hx594_0 hx594_1 hx594_2 hx594_3 hx594_4 hHeld ⊢
  refine pu 0 12 ?_ (ms 36 1) rfl rfl HT_ (by kernel_rfl) (fun _ _ _ h => h) (by rfl) ?_ ?_ ?_ ?_
  rotate_left
  ·intro w'
   go_simp
   with_reducible rfl
  rotate_left
  ·simp only [SX]
   rfl
  refine pu 1 13 ?_ (ms 36 3) rfl rfl HT_ (by kernel_rfl) (fun _ _ _ h => h) (by rfl) ?_ ?_ ?_ ?_
  rotate_left
  ·intro w'
   go_simp
   with_reducible rfl
  rotate_left
  ·simp only [SX]
   rfl
  refine pu 2 14 ?_ (ms 36 7) rfl rfl HT_ (by kernel_rfl) (fun _ _ _ h => h) (by rfl) ?_ ?_ ?_ ?_
  rotate_left
  ·intro w'
   go_simp
   with_reducible rfl
  rotate_left
  ·simp only [SX]
   rfl
  refine pu 4 16 ?_ (ms 36 23) rfl rfl HT_ (by kernel_rfl) (fun _ _ _ h => h) (by rfl) ?_ ?_ ?_ ?_
  rotate_left
  ·intro w'
   go_simp
   with_reducible rfl
  rotate_left
  ·simp only [SX]
   rfl
  refine tk 3 15 ?_ (ms 36 31) rfl rfl HT_ HW_ (by kernel_rfl) (fun _ _ _ h => h) (by rfl) ?_ hHeld ?_ ?_ ?_
  rotate_left
  ·rintro w' ⟨s0, s1, s2, s3, s4, s5, s6, s7, s8, s9, s10, s11, s12, s13, s14⟩
   go_simp
   with_reducible rfl
  rotate_left
  ·simp only [SX]
   rfl
  refine tk 5 17 ?_ (ms 36 63) rfl rfl HT_ HW_ (by kernel_rfl) (fun _ _ _ h => h) (by rfl) ?_ hHeld ?_ ?_ ?_
  rotate_left
  ·rintro w' ⟨s0, s1, s2, s3, s4, s5, s6, s7, s8, s9, s10, s11, s12, s13, s14⟩
   go_simp
   with_reducible rfl
  rotate_left
  ·simp only [SX]
   rfl
  refine pu 6 18 ?_ (ms 36 127) rfl rfl HT_ (by kernel_rfl) (fun _ _ _ h => h) (by rfl) ?_ ?_ ?_ ?_
  rotate_left
  ·intro w'
   go_simp
   with_reducible rfl
  rotate_left
  ·simp only [SX]
   rfl
  refine pu 7 19 ?_ (ms 36 255) rfl rfl HT_ (by kernel_rfl) (fun _ _ _ h => h) (by rfl) ?_ ?_ ?_ ?_
  rotate_left
  ·intro w'
   go_simp
   with_reducible rfl
  rotate_left
  ·simp only [SX]
   rfl
  refine one_ (i := 8) (N := some 20) (ms 36 511) rfl rfl (one_of HT_.out (by kernel_rfl)) (by decide) (fun K hK => ?_)
  refine goes_ Try.func54 (by kernel_rfl) rfl #[.int .i64 (rd l1 x5_1), .int .i64 0, .int .i64 (wrap64 ((l0_1.length : Int) - 1))] (by rfl) rfl rfl (by (try simp only [List.map_toArray, List.map_cons, List.map_nil]); first | done | rfl | (simp only [List.length_drop, List.length_take]; rfl)) ?_
  with_reducible refine (spec_l1In.calls (rd l1 x5_1) 0 (wrap64 ((l0_1.length : Int) - 1)) true _ A6.out).mono ?_
  rintro e w' ⟨rfl, ⟨nd, rfl⟩⟩
  refine ⟨_, rfl, ?_⟩
  refine hK.out _ _ ⟨(blk_cell BK588.out 0).trans rfl, (blk_cell BK588.out 1).trans rfl, ((HB.out.cell (World.block_lt_of_cell? w _ hw589_0)).trans hw589_0), ((HB.out.cell (World.block_lt_of_cell? w _ hw591_0)).trans hw591_0), ((HB.out.cell (World.block_lt_of_cell? w _ hw592_0)).trans hw592_0), ((HB.out.cell (World.block_lt_of_cell? w _ hw592_1)).trans hw592_1), ((HB.out.cell (World.block_lt_of_cell? w _ hw592_2)).trans hw592_2), ((HB.out.cell (World.block_lt_of_cell? w _ hw592_3)).trans hw592_3), ((HB.out.cell (World.block_lt_of_cell? w _ hw592_4)).trans hw592_4), ((HB.out.cell (World.block_lt_of_cell? w _ hw593_0)).trans hw593_0), ((HB.out.cell (World.block_lt_of_cell? w _ hw594_0)).trans hw594_0), ((HB.out.cell (World.block_lt_of_cell? w _ hw594_1)).trans hw594_1), ((HB.out.cell (World.block_lt_of_cell? w _ hw594_2)).trans hw594_2), ((HB.out.cell (World.block_lt_of_cell? w _ hw594_3)).trans hw594_3), ((HB.out.cell (World.block_lt_of_cell? w _ hw594_4)).trans hw594_4)⟩ (fun hHeld => ?_)
  clear hK K
  refine norm_ (a' := ?_) ?_ ?_
  rotate_left
  ·show Act.put _ (some 20) _ = _
   simp only [SX]
   rfl
  refine pu 9 21 ?_ (ms 36 1023) rfl rfl HT_ (by kernel_rfl) (fun _ _ _ h => h) (by rfl) ?_ ?_ ?_ ?_
  rotate_left
  ·intro w'
   go_simp
   with_reducible rfl
  rotate_left
  ·simp only [SX]
   rfl
  refine pu 10 22 ?_ (ms 36 2047) rfl rfl HT_ (by kernel_rfl) (fun _ _ _ h => h) (by rfl) ?_ ?_ ?_ ?_
  rotate_left
  ·intro w'
   go_simp
   with_reducible rfl
  rotate_left
  ·simp only [SX]
   rfl
  refine pu 11 23 ?_ (ms 36 4095) rfl rfl HT_ (by kernel_rfl) (fun _ _ _ h => h) (by rfl) ?_ ?_ ?_ ?_
  rotate_left
  ·intro w'
   go_simp
   with_reducible rfl
  rotate_left
  ·simp only [SX]
   rfl
  refine pu 12 24 ?_ (ms 36 8191) rfl rfl HT_ (by kernel_rfl) (fun _ _ _ h => h) (by rfl) ?_ ?_ ?_ ?_
  rotate_left
  ·intro w'
   go_simp
   with_reducible rfl
  rotate_left
  ·simp only [SX]
   rfl
  refine pu 13 25 ?_ (ms 36 16383) rfl rfl HT_ (by kernel_rfl) (fun _ _ _ h => h) (by rfl) ?_ ?_ ?_ ?_
  rotate_left
  ·intro w'
   go_simp
   with_reducible rfl
  rotate_left
  ·simp only [SX]
   rfl
  refine pu 14 26 ?_ (ms 36 32767) rfl rfl HT_ (by kernel_rfl) (fun _ _ _ h => h) (by rfl) ?_ ?_ ?_ ?_
  rotate_left
  ·intro w'
   go_simp
   with_reducible rfl
  rotate_left
  ·simp only [SX]
   rfl
  refine pu 16 28 ?_ (ms 36 98303) rfl rfl HT_ (by kernel_rfl) (fun _ _ _ h => h) (by rfl) ?_ ?_ ?_ ?_
  rotate_left
  ·intro w'
   go_simp
   with_reducible rfl
  rotate_left
  ·simp only [SX]
   rfl
  refine pu 17 29 ?_ (ms 36 229375) rfl rfl HT_ (by kernel_rfl) (fun _ _ _ h => h) (by rfl) ?_ ?_ ?_ ?_
  rotate_left
  ·intro w'
   go_simp
   with_reducible rfl
  rotate_left
  ·simp only [SX]
   rfl
  refine pu 18 30 ?_ (ms 36 491519) rfl rfl HT_ (by kernel_rfl) (fun _ _ _ h => h) (by rfl) ?_ ?_ ?_ ?_
  rotate_left
  ·intro w'
   go_simp
   with_reducible rfl
  rotate_left
  ·simp only [SX]
   rfl
  refine pu 23 35 ?_ (ms 36 8880127) rfl rfl HT_ (by kernel_rfl) (fun _ _ _ h => h) (by rfl) ?_ ?_ ?_ ?_
  rotate_left
  ·intro w'
   go_simp
   with_reducible rfl
  rotate_left
  ·simp only [SX]
   rfl
  refine pu 25 37 ?_ (ms 36 42434559) rfl rfl HT_ (by kernel_rfl) (fun _ _ _ h => h) (by rfl) ?_ ?_ ?_ ?_
  rotate_left
  ·intro w'
   go_simp
   with_reducible rfl
  rotate_left
  ·simp only [SX]
   rfl
  refine pu 26 38 ?_ (ms 36 109543423) rfl rfl HT_ (by kernel_rfl) (fun _ _ _ h => h) (by rfl) ?_ ?_ ?_ ?_
  rotate_left
  ·intro w'
   go_simp
   with_reducible rfl
  rotate_left
  ·simp only [SX]
   rfl
  refine pu 27 39 ?_ (ms 36 243761151) rfl rfl HT_ (by kernel_rfl) (fun _ _ _ h => h) (by rfl) ?_ ?_ ?_ ?_
  rotate_left
  ·intro w'
   go_simp
   with_reducible rfl
  rotate_left
  ·simp only [SX]
   rfl
  refine pu 28 40 ?_ (ms 36 512196607) rfl rfl HT_ (by kernel_rfl) (fun _ _ _ h => h) (by rfl) ?_ ?_ ?_ ?_
  rotate_left
  ·intro w'
   go_simp
   with_reducible rfl
  rotate_left
  ·simp only [SX]
   rfl
  refine tk 15 27 ?_ (ms 36 512229375) rfl rfl HT_ HW_ (by kernel_rfl) (fun _ _ _ h => h) (by rfl) ?_ hHeld ?_ ?_ ?_
  rotate_left
  ·rintro w' ⟨s0, s1, s2, s3, s4, s5, s6, s7, s8, s9, s10, s11, s12, s13, s14⟩
   go_simp
   with_reducible rfl
  rotate_left
  ·simp only [SX]
   rfl
  refine tk 19 31 ?_ (ms 36 512753663) rfl rfl HT_ HW_ (by kernel_rfl) (fun _ _ _ h => h) (by rfl) ?_ hHeld ?_ ?_ ?_
  rotate_left
  ·rintro w' ⟨s0, s1, s2, s3, s4, s5, s6, s7, s8, s9, s10, s11, s12, s13, s14⟩
   go_simp
   with_reducible rfl
  rotate_left
  ·simp only [SX]
   rfl
  refine pu 20 32 ?_ (ms 36 513802239) rfl rfl HT_ (by kernel_rfl) (fun _ _ _ h => h) (by rfl) ?_ ?_ ?_ ?_
  rotate_left
  ·intro w'
   go_simp
   with_reducible rfl
  rotate_left
  ·simp only [SX]
   rfl
  refine pu 21 33 ?_ (ms 36 515899391) rfl rfl HT_ (by kernel_rfl) (fun _ _ _ h => h) (by rfl) ?_ ?_ ?_ ?_
  rotate_left
  ·intro w'
   go_simp
   with_reducible rfl
  rotate_left
  ·simp only [SX]
   rfl
  refine tk 22 34 ?_ (ms 36 520093695) rfl rfl HT_ HW_ (by kernel_rfl) (fun _ _ _ h => h) (by rfl) ?_ hHeld ?_ ?_ ?_
  rotate_left
  ·rintro w' ⟨s0, s1, s2, s3, s4, s5, s6, s7, s8, s9, s10, s11, s12, s13, s14⟩
   go_simp
   with_reducible rfl
  rotate_left
  ·simp only [SX]
   rfl
  refine tk 24 36 ?_ (ms 36 536870911) rfl rfl HT_ HW_ (by kernel_rfl) (fun _ _ _ h => h) (by rfl) ?_ hHeld ?_ ?_ ?_
  rotate_left
  ·rintro w' ⟨s0, s1, s2, s3, s4, s5, s6, s7, s8, s9, s10, s11, s12, s13, s14⟩
   go_simp
   with_reducible rfl
  rotate_left
  ·simp only [SX]
   rfl
  refine tk 29 41 ?_ (ms 36 1073741823) rfl rfl HT_ HW_ (by kernel_rfl) (fun _ _ _ h => h) (by rfl) ?_ hHeld ?_ ?_ ?_
  rotate_left
  ·rintro w' ⟨s0, s1, s2, s3, s4, s5, s6, s7, s8, s9, s10, s11, s12, s13, s14⟩
   go_simp
   with_reducible rfl
  rotate_left
  ·simp only [SX]
   rfl
  refine pu 30 42 ?_ (ms 36 2147483647) rfl rfl HT_ (by kernel_rfl) (fun _ _ _ h => h) (by rfl) ?_ ?_ ?_ ?_
  rotate_left
  ·intro w'
   go_simp
   with_reducible rfl
  rotate_left
  ·simp only [SX]
   rfl
  refine pu 31 43 ?_ (ms 36 4294967295) rfl rfl HT_ (by kernel_rfl) (fun _ _ _ h => h) (by rfl) ?_ ?_ ?_ ?_
  rotate_left
  ·intro w'
   go_simp
   with_reducible rfl
  rotate_left
  ·simp only [SX]
   rfl
  refine tk 32 44 ?_ (ms 36 8589934591) rfl rfl HT_ HW_ (by kernel_rfl) (fun _ _ _ h => h) (by rfl) ?_ hHeld ?_ ?_ ?_
  rotate_left
  ·rintro w' ⟨s0, s1, s2, s3, s4, s5, s6, s7, s8, s9, s10, s11, s12, s13, s14⟩
   go_simp
   with_reducible rfl
  rotate_left
  ·simp only [SX]
   rfl
  refine pu 33 45 ?_ (ms 36 17179869183) rfl rfl HT_ (by kernel_rfl) (fun _ _ _ h => h) (by rfl) ?_ ?_ ?_ ?_
  rotate_left
  ·intro w'
   go_simp
   with_reducible rfl
  rotate_left
  ·simp only [SX]
   rfl
  refine pu 34 46 ?_ (ms 36 34359738367) rfl rfl HT_ (by kernel_rfl) (fun _ _ _ h => h) (by rfl) ?_ ?_ ?_ ?_
  rotate_left
  ·intro w'
   go_simp
   with_reducible rfl
  rotate_left
  ·simp only [SX]
   rfl
  refine pu 35 47 ?_ (ms 36 68719476735) rfl rfl HT_ (by kernel_rfl) (fun _ _ _ h => h) (by rfl) ?_ ?_ ?_ ?_
  rotate_left
  ·intro w'
   go_simp
   with_reducible rfl
  rotate_left
  ·simp only [SX]
   rfl
  refine done_ (done_of HT_.out (by kernel_rfl)) ?_
  try go_wp2
  go_roundg k1
  case measure => have := HK1.out; omega
  case rel => exact ⟨(wrap64 (x5_1 + 1)), (by first | rfl | (simp; done) | (simp [*]; done)), H', ⟨by have := HK1.out; omega⟩, ⟨bk BK588⟩, ⟨bl1 HB GE588⟩⟩

end Go.Proofs.Ytlgolgfcolnddaa.F
