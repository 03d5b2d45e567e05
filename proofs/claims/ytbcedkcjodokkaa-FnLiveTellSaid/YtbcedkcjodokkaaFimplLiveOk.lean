-- Printed by wip/px/px.py of this claim's repository (the kit's printer, extended there). Lean checks it.
import Derived.Test.YtbcedkcjodokkaaFKinds
import Derived.Test.YtbcedkcjodokkaaFimplnewsOk
import Derived.Test.YtbcedkcjodokkaaFimplNetOk
namespace Go.Proofs.Ytbcedkcjodokkaa.F
open Go.RowKit Go.Proofs.YtbcedkcjodokkaaW.PrintWords Go.Proofs.YtbcedkcjodokkaaW.PrintLast Go.Proofs.YtbcedkcjodokkaaW.PrintMore
attribute [local go_sem] max2_int min2_int max_two min_two max_three min_three max_four min_four   -- for this text's walks alone
set_option linter.unusedVariables false
set_option linter.unusedSimpArgs false

/-! ### impl_LiveOk: function 10 -/
def impl_LiveOk.l0 : Nat → List (S30) → Int → Int → Int → List (S65) → List (S30) → Option (Bool)
 | 0, _, _, _, _, _, _ => none
 | k + 1, x6, x7, x8, x318000, x318001, x318002 => if x8 < x7 then (if 0 ≤ x8 then (if x8 < (x6.length : Int) then ((impl_newsOk.f ((rd_T30 x6 x8).f0) ((rd_T30 x6 x8).f1) ((rd_T30 x6 x8).f2) (x318001.length : Int)).bind fun t320 => (if t320 = true then (if x8 > 0 then (if 0 ≤ (wrap64 (x8 - 1)) then (if (wrap64 (x8 - 1)) < (x318002.length : Int) then (if ((rd_T30 x318002 (wrap64 (x8 - 1))).f0) ≥ ((rd_T30 x6 x8).f0) then (some false) else (impl_LiveOk.l0 k x6 x7 (wrap64 (x8 + 1)) x318000 x318001 x318002)) else (none)) else (none)) else (impl_LiveOk.l0 k x6 x7 (wrap64 (x8 + 1)) x318000 x318001 x318002)) else (some false))) else (none)) else (none)) else ((impl_NetOk.f x318000 x318001).bind fun t322 => (if t322 = true then (some (decide ((x318002.length : Int) ≤ 6))) else (some false)))
def impl_LiveOk.f (k : Nat) (a0_0 : Int) (l0_1 : List (S65)) (l0_2 : List (S30)) : Option (Bool) := impl_LiveOk.l0 k l0_2 (l0_2.length : Int) 0 a0_0 l0_1 l0_2
theorem impl_LiveOk.mono_l : ∀ k, (∀ y0 y1 y2 y3 y4 y5, LeO (impl_LiveOk.l0 k y0 y1 y2 y3 y4 y5) (impl_LiveOk.l0 (k + 1) y0 y1 y2 y3 y4 y5))
 | 0 => fun _ _ _ _ _ _ r h => by simp [impl_LiveOk.l0] at h
 | k + 1 => by
  have ih0 := impl_LiveOk.mono_l k
  ·intro y0 y1 y2 y3 y4 y5
   unfold impl_LiveOk.l0
   repeat' first | (with_reducible exact ih0 _ _ _ _ _ _) | (with_reducible exact LeO.refl _) | (with_reducible refine LeO.ite ?_ ?_) | (with_reducible refine LeO.bind ?_ (fun _ => ?_))
theorem impl_LiveOk.mono : ∀ a0 a1 a2 k, LeO (impl_LiveOk.f k a0 a1 a2) (impl_LiveOk.f (k + 1) a0 a1 a2) := by
 intro a0 a1 a2 k
 have ih0 := impl_LiveOk.mono_l k
 unfold impl_LiveOk.f
 repeat' (with_reducible exact ih0 _ _ _ _ _ _)
def impl_LiveOk.T4 : Bool × List (List Nat × List Nat) := (true, [([], []), ([], []), ([1], [1]), ([2], [2]), ([3], [3]), ([0, 4], [0, 4]), ([5], [5]), ([6, 5], [6]), ([7], [7]), ([8, 7], [7, 8]), ([9, 7, 7], [7, 9]), ([10], [10]), ([11, 10], [10, 11]), ([10], [10]), ([13, 10], [10, 13]), ([12, 14, 10], [10, 12, 14]), ([15, 10], [10, 15]), ([16, 10], [10, 16]), ([10], [10]), ([18, 10], [10, 18]), ([17, 19, 10], [10, 17, 19]), ([10, 20, 7], [7, 10, 20]), ([7, 21], [7, 21])])
def impl_LiveOk.B4 : List Nat := [0, 0, 2, 6, 14, 31, 63, 127, 255, 511, 1023, 2047, 4095, 2047, 10239, 32767, 65535, 131071, 2047, 264191, 1048575, 2097151, 4194303]
theorem impl_LiveOk.tab4 : rtab .any (opsOf Try.f10 4) = impl_LiveOk.T4 := by kernel_rfl
theorem impl_LiveOk.bits4 : waitsOk impl_LiveOk.T4.2 impl_LiveOk.B4 = true := by kernel_rfl
set_option maxHeartbeats 8000000 in
set_option maxRecDepth 100000 in
theorem impl_LiveOk.calls (k : Nat) (a0_0 : Int) (A0_1 : Option Addr) (c0_1 : Nat) (l0_1 : List (S65)) (A0_2 : Option Addr) (c0_2 : Nat) (l0_2 : List (S30)) (r : Bool) (w : World) (hr0_1 : Kd.C k65 w A0_1 l0_1.length l0_1) (hc0_1 : l0_1.length ≤ c0_1) (hr0_2 : Kd.C k30 w A0_2 l0_2.length l0_2) (hc0_2 : l0_2.length ≤ c0_2) (h : impl_LiveOk.f k a0_0 l0_1 l0_2 = some r) :
  Calls Try.prog 10 #[.agg #[.int .i64 a0_0, .slice A0_1 l0_1.length c0_1, .slice A0_2 l0_2.length c0_2]] w fun e w' => e = .returned (.bool r) ∧ Below w.heap.size w w' := by
 have hu28 := Try.underlying28
 have hu30 := Try.underlying30
 have hu25 := Try.underlying25
 have HR0_1 := ak hr0_1
 have HC0_1 := ak hc0_1
 clear hr0_1 hc0_1
 have HR0_2 := ak hr0_2
 have HC0_2 := ak hc0_2
 clear hr0_2 hc0_2
 have HB := ak (Below.refl w.heap.size w)
 have H : (impl_LiveOk.l0 k l0_2 (l0_2.length : Int) 0 a0_0 l0_1 l0_2) = some r := h
 clear h
 have H' := ak H
 clear H
 go_enter Try.func10, Try.ntmps10
 go_wp2_with (((with_reducible refine gate_dst (N := 1) rfl ?_); refine box_event ?hg (N := 1) ?hd (cs := #[.int .i64 a0_0, .slice A0_1 l0_1.length c0_1, .slice A0_2 l0_2.length c0_2]) (t := 28) ?hr ?_; (case hd => rfl); (case hg => rfl); (case hr => (go_simp; done)); intro gb317 hg w2 hbox hb; have BK317 := ak (hbox); have GW317 := ak ((by rw [hg]; exact (below_size (bl HB)) : w.heap.size ≤ gb317)); have GE317 := ak ((by rw [hg]; exact (below_size (bl HB)) : w.heap.size ≤ gb317)); replace HB := ak (below_step (bl HB) hb); clear hb hbox hg; have hcz3_0 := bc w2 BK317 0 (.int .i64 a0_0) rfl; have hcz3_1 := bc w2 BK317 1 (.slice A0_1 l0_1.length c0_1) rfl; have hcz3_2 := bc w2 BK317 2 (.slice A0_2 l0_2.length c0_2) rfl; have hfz3_0 := fz BK317 0; have hfz3_1 := fz BK317 1; have hfz3_2 := fz BK317 2))
 go_loopg [8] k (fun kq v8 w' => ∃ (x8_1 : Int), v8 = .int .i64 x8_1 ∧ Aside0 (impl_LiveOk.l0 kq l0_2 (l0_2.length : Int) x8_1 a0_0 l0_1 l0_2 = some r) ∧ Aside0 (kq ≤ k) ∧ Aside0 (w'.heap[gb317]? = some (.cells #[.int .i64 a0_0, (.slice A0_1 l0_1.length c0_1), (.slice A0_2 l0_2.length c0_2)] 28 (0, 0))) ∧ Aside0 (Below w.heap.size w w'))
 case atStart => exact ⟨(0), (by rfl), H', ⟨Nat.le_refl _⟩, ⟨bk BK317⟩, ⟨bl1 HB GE317⟩⟩
 clear H'
 try clear c1
 try clear p2
 try clear hcz3_0
 try clear hcz3_1
 try clear hcz3_2
 try clear hfz3_0
 try clear hfz3_1
 try clear hfz3_2
 obtain ⟨x8_1, rfl, HA, HK1, BK317, HB⟩ := hrel
 cases gk with
 | zero => exact absurd HA.out (by simp [impl_LiveOk.l0])
 | succ k1 =>
  have H := HA.out
  clear HA
  simp only [impl_LiveOk.l0] at H
  by_cases c4 : x8_1 < (l0_2.length : Int)
  rotate_left
  ·rw [if_neg c4] at H
   have c4b0 : decide (x8_1 < (l0_2.length : Int)) = false := decide_eq_false c4
   clear c4
   replace H := Option.bind_eq_some_iff.mp H
   obtain ⟨t322, A380, H⟩ := H
   have A38 := ak A380
   clear A380
   by_cases c39 : t322 = true
   rotate_left
   ·replace c39 := Bool.eq_false_iff.mpr c39
    subst c39
    rw [if_neg (show ¬ (false = true) by decide)] at H
    obtain rfl := Option.some.inj H
    have hcz43_0 := bc wr BK317 0 (.int .i64 a0_0) rfl
    have hcz43_1 := bc wr BK317 1 (.slice A0_1 l0_1.length c0_1) rfl
    have hcz43_2 := bc wr BK317 2 (.slice A0_2 l0_2.length c0_2) rfl
    have hfz43_0 := fz BK317 0
    have hfz43_1 := fz BK317 1
    have hfz43_2 := fz BK317 2
    go_wp2_with (((with_reducible refine gate_callee (f := 26) rfl ?_); refine goesL_ (some 39) rfl rfl Try.func26 (by kernel_rfl) rfl #[.agg #[.int .i64 a0_0, .slice A0_1 l0_1.length c0_1]] rfl (by (try simp only [List.map_toArray, List.map_cons, List.map_nil]); rfl) ?_; (with_reducible refine (impl_NetOk.calls a0_0 _ _ l0_1 false _ ?side1 ?side2 A38.out).mono ?_); (case side1 => repeat (exact (Kd.C_below HR0_1.out HB.out))); (case side2 => exact HC0_1.out); rintro e w44 ⟨rfl, hb⟩; refine ⟨_, rfl, ?_⟩; replace BK317 := ak (blk_below (bk BK317) hb); replace HB := ak (below_step (bl1 HB GE317) hb); (try clear hb); (try clear hb2); (try clear hk); (try clear hi)))
    go_ret
    exact ⟨by rfl, bl1 HB GE317⟩
   subst c39
   rw [if_pos rfl] at H
   obtain rfl := Option.some.inj H
   have hcz40_0 := bc wr BK317 0 (.int .i64 a0_0) rfl
   have hcz40_1 := bc wr BK317 1 (.slice A0_1 l0_1.length c0_1) rfl
   have hcz40_2 := bc wr BK317 2 (.slice A0_2 l0_2.length c0_2) rfl
   have hfz40_0 := fz BK317 0
   have hfz40_1 := fz BK317 1
   have hfz40_2 := fz BK317 2
   go_wp2_with (((with_reducible refine gate_callee (f := 26) rfl ?_); refine goesL_ (some 39) rfl rfl Try.func26 (by kernel_rfl) rfl #[.agg #[.int .i64 a0_0, .slice A0_1 l0_1.length c0_1]] rfl (by (try simp only [List.map_toArray, List.map_cons, List.map_nil]); rfl) ?_; (with_reducible refine (impl_NetOk.calls a0_0 _ _ l0_1 true _ ?side1 ?side2 A38.out).mono ?_); (case side1 => repeat (exact (Kd.C_below HR0_1.out HB.out))); (case side2 => exact HC0_1.out); rintro e w41 ⟨rfl, hb⟩; refine ⟨_, rfl, ?_⟩; replace BK317 := ak (blk_below (bk BK317) hb); replace HB := ak (below_step (bl1 HB GE317) hb); (try clear hb); (try clear hb2); (try clear hk); (try clear hi); have hcz42_0 := bc w41 BK317 0 (.int .i64 a0_0) rfl; have hcz42_1 := bc w41 BK317 1 (.slice A0_1 l0_1.length c0_1) rfl; have hcz42_2 := bc w41 BK317 2 (.slice A0_2 l0_2.length c0_2) rfl; have hfz42_0 := fz BK317 0; have hfz42_1 := fz BK317 1; have hfz42_2 := fz BK317 2))
   go_ret
   exact ⟨by rfl, bl1 HB GE317⟩
  rw [if_pos c4] at H
  have c4b0 : decide (x8_1 < (l0_2.length : Int)) = true := decide_eq_true c4
  clear c4
  by_cases c5 : 0 ≤ x8_1
  rotate_left
  ·rw [if_neg c5] at H
   exact absurd H (by simp)
  rw [if_pos c5] at H
  have c5b0 : decide (0 ≤ x8_1) = true := decide_eq_true c5
  clear c5
  by_cases c6 : x8_1 < (l0_2.length : Int)
  rotate_left
  ·rw [if_neg c6] at H
   exact absurd H (by simp)
  rw [if_pos c6] at H
  have c6b0 : decide (x8_1 < (l0_2.length : Int)) = true := decide_eq_true c6
  clear c6
  replace H := Option.bind_eq_some_iff.mp H
  obtain ⟨t320, A70, H⟩ := H
  have A7 := ak A70
  clear A70
  by_cases c8 : t320 = true
  rotate_left
  ·replace c8 := Bool.eq_false_iff.mpr c8
   subst c8
   rw [if_neg (show ¬ (false = true) by decide)] at H
   obtain rfl := Option.some.inj H
   have p318 : 0 ≤ (x8_1 : Int) := oT (by (with_reducible assumption))
   have q318 : x8_1 < (l0_2.length : Int) := oT (by (with_reducible assumption))
   obtain ⟨ad318, e318, hx318_0, hx318_1, hx318_2⟩ := at_T30 HR0_2.out x8_1 p318 q318
   cases e318
   replace hx318_0 := hcb HB.out hx318_0
   replace hx318_1 := hcb HB.out hx318_1
   replace hx318_2 := hcb HB.out hx318_2
   replace p318 := eq_true p318
   replace q318 := eq_true q318
   try go_wp2_with (((with_reducible refine gate_dst (N := 4) rfl ?_); refine box_event ?hg (N := 4) ?hd (cs := #[.int .i64 0, .int .i64 0, .int .i64 0]) (t := 30) ?hr ?_; (case hd => rfl); (case hg => rfl); (case hr => (go_simp; done)); intro gb319 hg w32 hbox hb; have BK319 := ak (hbox); have GW319 := ak ((by rw [hg]; exact (below_size (bl1 HB GE317)) : w.heap.size ≤ gb319)); have GE319 := ak ((by rw [hg]; exact (below_size (bl1 HB GE317)) : w.heap.size ≤ gb319)); replace HB := ak (below_step (bl1 HB GE317) hb); have NB317_319 := ak ((by rw [hg]; exact Nat.ne_of_lt (blk_lt (bk BK317)) : gb317 ≠ gb319)); have NB319_317 := ak ((by rw [hg]; exact Nat.ne_of_gt (blk_lt (bk BK317)) : gb319 ≠ gb317)); replace BK317 := ak (blk_below (bk BK317) hb); clear hb hbox hg; have hnb33 := NB319_317.out; have hnc33 := NB317_319.out; have hcz34_0 := bc w32 BK319 0 (.int .i64 0) rfl; have hcz34_1 := bc w32 BK319 1 (.int .i64 0) rfl; have hcz34_2 := bc w32 BK319 2 (.int .i64 0) rfl; have hfz34_0 := fz BK319 0; have hfz34_1 := fz BK319 1; have hfz34_2 := fz BK319 2))
   have n0_ : Aside0 ((((w32.setCell ⟨gb319, 0, none⟩ (.int .i64 ((rd_T30 l0_2 x8_1).f0))).setCell ⟨gb319, 1, none⟩ (.int .i64 ((rd_T30 l0_2 x8_1).f1))).setCell ⟨gb319, 2, none⟩ (.int .i64 ((rd_T30 l0_2 x8_1).f2))).heap[gb317]? = some (.cells #[.int .i64 a0_0, .slice A0_1 l0_1.length c0_1, .slice (some ad318) l0_2.length c0_2] 28 (0, 0))) := ⟨by refine blk_far ?_ NB317_319.out _; refine blk_far ?_ NB317_319.out _; refine blk_far ?_ NB317_319.out _; exact BK317.out⟩
   have n1_ : Aside0 ((((w32.setCell ⟨gb319, 0, none⟩ (.int .i64 ((rd_T30 l0_2 x8_1).f0))).setCell ⟨gb319, 1, none⟩ (.int .i64 ((rd_T30 l0_2 x8_1).f1))).setCell ⟨gb319, 2, none⟩ (.int .i64 ((rd_T30 l0_2 x8_1).f2))).heap[gb319]? = some (.cells #[.int .i64 ((rd_T30 l0_2 x8_1).f0), .int .i64 ((rd_T30 l0_2 x8_1).f1), .int .i64 ((rd_T30 l0_2 x8_1).f2)] 30 (0, 0))) := ⟨by refine blk_put (cs := #[.int .i64 ((rd_T30 l0_2 x8_1).f0), .int .i64 ((rd_T30 l0_2 x8_1).f1), .int .i64 0]) ?_ 2 _ rfl; refine blk_put (cs := #[.int .i64 ((rd_T30 l0_2 x8_1).f0), .int .i64 0, .int .i64 0]) ?_ 1 _ rfl; refine blk_put (cs := #[.int .i64 0, .int .i64 0, .int .i64 0]) ?_ 0 _ rfl; exact BK319.out⟩
   have n2_ : Aside0 (Below w.heap.size w (((w32.setCell ⟨gb319, 0, none⟩ (.int .i64 ((rd_T30 l0_2 x8_1).f0))).setCell ⟨gb319, 1, none⟩ (.int .i64 ((rd_T30 l0_2 x8_1).f1))).setCell ⟨gb319, 2, none⟩ (.int .i64 ((rd_T30 l0_2 x8_1).f2)))) := ⟨bl2 HB GE317 GE319⟩
   (try clear BK317)
   (try clear BK319)
   (try clear HB)
   generalize (((w32.setCell ⟨gb319, 0, none⟩ (.int .i64 ((rd_T30 l0_2 x8_1).f0))).setCell ⟨gb319, 1, none⟩ (.int .i64 ((rd_T30 l0_2 x8_1).f1))).setCell ⟨gb319, 2, none⟩ (.int .i64 ((rd_T30 l0_2 x8_1).f2))) = w35 at n0_ n1_ n2_ ⊢
   have BK317 := n0_
   have BK319 := n1_
   have HB := n2_
   clear n0_ n1_ n2_
   replace BK317 := ak (blk_drew BK317.out)
   replace BK319 := ak (blk_drew BK319.out)
   replace HB := ak (below_drew1 HB.out)
   refine start_ (n := 23) (S := fun w' => w'.cell? ⟨gb319, 0, none⟩ = some (.int .i64 ((rd_T30 l0_2 x8_1).f0)) ∧ w'.cell? ⟨gb319, 1, none⟩ = some (.int .i64 ((rd_T30 l0_2 x8_1).f1)) ∧ w'.cell? ⟨gb319, 2, none⟩ = some (.int .i64 ((rd_T30 l0_2 x8_1).f2)) ∧ w'.cell? ⟨gb317, 0, none⟩ = some (.int .i64 a0_0) ∧ w'.cell? ⟨gb317, 1, none⟩ = some (.slice A0_1 l0_1.length c0_1) ∧ w'.cell? ⟨gb317, 2, none⟩ = some (.slice (some ad318) l0_2.length c0_2)) (ds := []) (ms 23 0) (by kernel_rfl) rfl (by kernel_rfl) ⟨(blk_cell BK319.out 0).trans rfl, (blk_cell BK319.out 1).trans rfl, (blk_cell BK319.out 2).trans rfl, (blk_cell BK317.out 0).trans rfl, (blk_cell BK317.out 1).trans rfl, (blk_cell BK317.out 2).trans rfl⟩ (fun hHeld => ?_); refine with_tabW impl_LiveOk.tab4 impl_LiveOk.bits4 (fun HT_ HW_ => ?_)
   generalize w35.drew = w36 at BK317 BK319 HB hHeld ⊢
   refine pu 1 14 ?_ (ms 23 2) rfl rfl HT_ (by kernel_rfl) (fun _ _ _ h => h) (by rfl) ?_ ?_ ?_ ?_
   rotate_left
   ·intro w'
    go_simp
    with_reducible rfl
   rotate_left
   ·simp only [SX]
    rfl
   refine pu 2 15 ?_ (ms 23 6) rfl rfl HT_ (by kernel_rfl) (fun _ _ _ h => h) (by rfl) ?_ ?_ ?_ ?_
   rotate_left
   ·intro w'
    go_simp
    with_reducible rfl
   rotate_left
   ·simp only [SX]
    rfl
   refine tk 0 13 ?_ (ms 23 7) rfl rfl HT_ HW_ (by kernel_rfl) (fun _ _ _ h => h) (by rfl) ?_ hHeld ?_ ?_ ?_
   rotate_left
   ·rintro w' ⟨s0, s1, s2, s3, s4, s5⟩
    go_simp
    with_reducible rfl
   rotate_left
   ·simp only [SX]
    rfl
   refine tk 3 16 ?_ (ms 23 15) rfl rfl HT_ HW_ (by kernel_rfl) (fun _ _ _ h => h) (by rfl) ?_ hHeld ?_ ?_ ?_
   rotate_left
   ·rintro w' ⟨s0, s1, s2, s3, s4, s5⟩
    go_simp
    with_reducible rfl
   rotate_left
   ·simp only [SX]
    rfl
   refine pu 4 17 ?_ (ms 23 31) rfl rfl HT_ (by kernel_rfl) (fun _ _ _ h => h) (by rfl) ?_ ?_ ?_ ?_
   rotate_left
   ·intro w'
    go_simp
    with_reducible rfl
   rotate_left
   ·simp only [SX]
    rfl
   refine one_ (i := 5) (N := some 18) (ms 23 63) rfl rfl (one_of HT_.out (by kernel_rfl)) (by decide) (fun K hK => ?_)
   refine goes_ Try.func25 (by kernel_rfl) rfl #[.agg #[.int .i64 ((rd_T30 l0_2 x8_1).f0), .int .i64 ((rd_T30 l0_2 x8_1).f1), .int .i64 ((rd_T30 l0_2 x8_1).f2)], .int .i64 (l0_1.length : Int)] (by rfl) rfl rfl (by (try simp only [List.map_toArray, List.map_cons, List.map_nil]); rfl) ?_
   with_reducible refine (impl_newsOk.calls ((rd_T30 l0_2 x8_1).f0) ((rd_T30 l0_2 x8_1).f1) ((rd_T30 l0_2 x8_1).f2) (l0_1.length : Int) false _ A7.out).mono ?_
   rintro e w37 ⟨rfl, hb⟩
   refine ⟨_, rfl, ?_⟩
   replace BK317 := ak (blk_below (bk BK317) hb)
   replace BK319 := ak (blk_below (bk BK319) hb)
   replace HB := ak (below_step (bl2 HB GE317 GE319) hb)
   (try clear hb)
   (try clear hb2)
   (try clear hk)
   (try clear hi)
   refine hK.out _ _ ⟨(blk_cell BK319.out 0).trans rfl, (blk_cell BK319.out 1).trans rfl, (blk_cell BK319.out 2).trans rfl, (blk_cell BK317.out 0).trans rfl, (blk_cell BK317.out 1).trans rfl, (blk_cell BK317.out 2).trans rfl⟩ (fun hHeld => ?_)
   clear hK K
   refine norm_ (a' := ?_) ?_ ?_
   rotate_left
   ·show Act.put _ (some 18) _ = _
    simp only [SX]
    rfl
   refine pu 6 19 ?_ (ms 23 127) rfl rfl HT_ (by kernel_rfl) (fun _ _ _ h => h) (by rfl) ?_ ?_ ?_ ?_
   rotate_left
   ·intro w'
    go_simp
    with_reducible rfl
   rotate_left
   ·simp only [SX]
    rfl
   refine pu 7 20 ?_ (ms 23 255) rfl rfl HT_ (by kernel_rfl) (fun _ _ _ h => h) (by rfl) ?_ ?_ ?_ ?_
   rotate_left
   ·intro w'
    go_simp
    with_reducible rfl
   rotate_left
   ·simp only [SX]
    rfl
   refine pure_ (i := 8) (N := some 21) (v := undef) (a' := ?_) (ms 23 511) rfl rfl (any_of HT_.out (by kernel_rfl)) (fun _ _ _ h => h) (Or.inr ⟨by rfl, rfl⟩) ?_ ?_
   rotate_left
   ·simp only [SX]
    rfl
   refine pure_ (i := 9) (N := some 22) (v := undef) (a' := ?_) (ms 23 1023) rfl rfl (any_of HT_.out (by kernel_rfl)) (fun _ _ _ h => h) (Or.inr ⟨by rfl, rfl⟩) ?_ ?_
   rotate_left
   ·simp only [SX]
    rfl
   refine pure_ (i := 10) (N := some 23) (v := undef) (a' := ?_) (ms 23 2047) rfl rfl (any_of HT_.out (by kernel_rfl)) (fun _ _ _ h => h) (Or.inr ⟨by rfl, rfl⟩) ?_ ?_
   rotate_left
   ·simp only [SX]
    rfl
   refine pure_ (i := 11) (N := some 24) (v := undef) (a' := ?_) (ms 23 4095) rfl rfl (any_of HT_.out (by kernel_rfl)) (fun _ _ _ h => h) (Or.inr ⟨by rfl, rfl⟩) ?_ ?_
   rotate_left
   ·simp only [SX]
    rfl
   refine pure_ (i := 12) (N := some 25) (v := undef) (a' := ?_) (ms 23 8191) rfl rfl (any_of HT_.out (by kernel_rfl)) (fun _ _ _ h => h) (Or.inr ⟨by rfl, rfl⟩) ?_ ?_
   rotate_left
   ·simp only [SX]
    rfl
   refine pure_ (i := 13) (N := some 26) (v := undef) (a' := ?_) (ms 23 16383) rfl rfl (any_of HT_.out (by kernel_rfl)) (fun _ _ _ h => h) (Or.inr ⟨by rfl, rfl⟩) ?_ ?_
   rotate_left
   ·simp only [SX]
    rfl
   refine pure_ (i := 14) (N := some 27) (v := undef) (a' := ?_) (ms 23 32767) rfl rfl (any_of HT_.out (by kernel_rfl)) (fun _ _ _ h => h) (Or.inr ⟨by rfl, rfl⟩) ?_ ?_
   rotate_left
   ·simp only [SX]
    rfl
   refine pure_ (i := 15) (N := some 28) (v := undef) (a' := ?_) (ms 23 65535) rfl rfl (any_of HT_.out (by kernel_rfl)) (fun _ _ _ h => h) (Or.inr ⟨by rfl, rfl⟩) ?_ ?_
   rotate_left
   ·simp only [SX]
    rfl
   refine pure_ (i := 16) (N := some 29) (v := undef) (a' := ?_) (ms 23 131071) rfl rfl (any_of HT_.out (by kernel_rfl)) (fun _ _ _ h => h) (Or.inr ⟨by rfl, rfl⟩) ?_ ?_
   rotate_left
   ·simp only [SX]
    rfl
   refine pure_ (i := 17) (N := some 30) (v := undef) (a' := ?_) (ms 23 262143) rfl rfl (any_of HT_.out (by kernel_rfl)) (fun _ _ _ h => h) (Or.inr ⟨by rfl, rfl⟩) ?_ ?_
   rotate_left
   ·simp only [SX]
    rfl
   refine pure_ (i := 18) (N := some 31) (v := undef) (a' := ?_) (ms 23 524287) rfl rfl (any_of HT_.out (by kernel_rfl)) (fun _ _ _ h => h) (Or.inr ⟨by rfl, rfl⟩) ?_ ?_
   rotate_left
   ·simp only [SX]
    rfl
   refine pure_ (i := 19) (N := some 32) (v := undef) (a' := ?_) (ms 23 1048575) rfl rfl (any_of HT_.out (by kernel_rfl)) (fun _ _ _ h => h) (Or.inr ⟨by rfl, rfl⟩) ?_ ?_
   rotate_left
   ·simp only [SX]
    rfl
   refine pure_ (i := 20) (N := some 33) (v := undef) (a' := ?_) (ms 23 2097151) rfl rfl (any_of HT_.out (by kernel_rfl)) (fun _ _ _ h => h) (Or.inr ⟨by rfl, rfl⟩) ?_ ?_
   rotate_left
   ·simp only [SX]
    rfl
   refine pure_ (i := 21) (N := some 34) (v := undef) (a' := ?_) (ms 23 4194303) rfl rfl (any_of HT_.out (by kernel_rfl)) (fun _ _ _ h => h) (Or.inr ⟨by rfl, rfl⟩) ?_ ?_
   rotate_left
   ·simp only [SX]
    rfl
   refine pu 22 35 ?_ (ms 23 8388607) rfl rfl HT_ (by kernel_rfl) (fun _ _ _ h => h) (by rfl) ?_ ?_ ?_ ?_
   rotate_left
   ·intro w'
    go_simp
    with_reducible rfl
   rotate_left
   ·simp only [SX]
    rfl
   refine done_ (done_of HT_.out (by kernel_rfl)) ?_
   try go_wp2
   go_ret
   exact ⟨by rfl, bl2 HB GE317 GE319⟩
  subst c8
  rw [if_pos rfl] at H
  by_cases c9 : x8_1 > 0
  rotate_left
  ·rw [if_neg c9] at H
   have c9b0 : decide (0 < x8_1) = false := decide_eq_false c9
   clear c9
   have H' := ak H
   clear H
   have p318 : 0 ≤ (x8_1 : Int) := oT (by (with_reducible assumption))
   have q318 : x8_1 < (l0_2.length : Int) := oT (by (with_reducible assumption))
   obtain ⟨ad318, e318, hx318_0, hx318_1, hx318_2⟩ := at_T30 HR0_2.out x8_1 p318 q318
   cases e318
   replace hx318_0 := hcb HB.out hx318_0
   replace hx318_1 := hcb HB.out hx318_1
   replace hx318_2 := hcb HB.out hx318_2
   replace p318 := eq_true p318
   replace q318 := eq_true q318
   try go_wp2_with (((with_reducible refine gate_dst (N := 4) rfl ?_); refine box_event ?hg (N := 4) ?hd (cs := #[.int .i64 0, .int .i64 0, .int .i64 0]) (t := 30) ?hr ?_; (case hd => rfl); (case hg => rfl); (case hr => (go_simp; done)); intro gb319 hg w26 hbox hb; have BK319 := ak (hbox); have GW319 := ak ((by rw [hg]; exact (below_size (bl1 HB GE317)) : w.heap.size ≤ gb319)); have GE319 := ak ((by rw [hg]; exact (below_size (bl1 HB GE317)) : w.heap.size ≤ gb319)); replace HB := ak (below_step (bl1 HB GE317) hb); have NB317_319 := ak ((by rw [hg]; exact Nat.ne_of_lt (blk_lt (bk BK317)) : gb317 ≠ gb319)); have NB319_317 := ak ((by rw [hg]; exact Nat.ne_of_gt (blk_lt (bk BK317)) : gb319 ≠ gb317)); replace BK317 := ak (blk_below (bk BK317) hb); clear hb hbox hg; have hnb27 := NB319_317.out; have hnc27 := NB317_319.out; have hcz28_0 := bc w26 BK319 0 (.int .i64 0) rfl; have hcz28_1 := bc w26 BK319 1 (.int .i64 0) rfl; have hcz28_2 := bc w26 BK319 2 (.int .i64 0) rfl; have hfz28_0 := fz BK319 0; have hfz28_1 := fz BK319 1; have hfz28_2 := fz BK319 2))
   have n0_ : Aside0 ((((w26.setCell ⟨gb319, 0, none⟩ (.int .i64 ((rd_T30 l0_2 x8_1).f0))).setCell ⟨gb319, 1, none⟩ (.int .i64 ((rd_T30 l0_2 x8_1).f1))).setCell ⟨gb319, 2, none⟩ (.int .i64 ((rd_T30 l0_2 x8_1).f2))).heap[gb317]? = some (.cells #[.int .i64 a0_0, .slice A0_1 l0_1.length c0_1, .slice (some ad318) l0_2.length c0_2] 28 (0, 0))) := ⟨by refine blk_far ?_ NB317_319.out _; refine blk_far ?_ NB317_319.out _; refine blk_far ?_ NB317_319.out _; exact BK317.out⟩
   have n1_ : Aside0 ((((w26.setCell ⟨gb319, 0, none⟩ (.int .i64 ((rd_T30 l0_2 x8_1).f0))).setCell ⟨gb319, 1, none⟩ (.int .i64 ((rd_T30 l0_2 x8_1).f1))).setCell ⟨gb319, 2, none⟩ (.int .i64 ((rd_T30 l0_2 x8_1).f2))).heap[gb319]? = some (.cells #[.int .i64 ((rd_T30 l0_2 x8_1).f0), .int .i64 ((rd_T30 l0_2 x8_1).f1), .int .i64 ((rd_T30 l0_2 x8_1).f2)] 30 (0, 0))) := ⟨by refine blk_put (cs := #[.int .i64 ((rd_T30 l0_2 x8_1).f0), .int .i64 ((rd_T30 l0_2 x8_1).f1), .int .i64 0]) ?_ 2 _ rfl; refine blk_put (cs := #[.int .i64 ((rd_T30 l0_2 x8_1).f0), .int .i64 0, .int .i64 0]) ?_ 1 _ rfl; refine blk_put (cs := #[.int .i64 0, .int .i64 0, .int .i64 0]) ?_ 0 _ rfl; exact BK319.out⟩
   have n2_ : Aside0 (Below w.heap.size w (((w26.setCell ⟨gb319, 0, none⟩ (.int .i64 ((rd_T30 l0_2 x8_1).f0))).setCell ⟨gb319, 1, none⟩ (.int .i64 ((rd_T30 l0_2 x8_1).f1))).setCell ⟨gb319, 2, none⟩ (.int .i64 ((rd_T30 l0_2 x8_1).f2)))) := ⟨bl2 HB GE317 GE319⟩
   (try clear BK317)
   (try clear BK319)
   (try clear HB)
   generalize (((w26.setCell ⟨gb319, 0, none⟩ (.int .i64 ((rd_T30 l0_2 x8_1).f0))).setCell ⟨gb319, 1, none⟩ (.int .i64 ((rd_T30 l0_2 x8_1).f1))).setCell ⟨gb319, 2, none⟩ (.int .i64 ((rd_T30 l0_2 x8_1).f2))) = w29 at n0_ n1_ n2_ ⊢
   have BK317 := n0_
   have BK319 := n1_
   have HB := n2_
   clear n0_ n1_ n2_
   replace BK317 := ak (blk_drew BK317.out)
   replace BK319 := ak (blk_drew BK319.out)
   replace HB := ak (below_drew1 HB.out)
   refine start_ (n := 23) (S := fun w' => w'.cell? ⟨gb319, 0, none⟩ = some (.int .i64 ((rd_T30 l0_2 x8_1).f0)) ∧ w'.cell? ⟨gb319, 1, none⟩ = some (.int .i64 ((rd_T30 l0_2 x8_1).f1)) ∧ w'.cell? ⟨gb319, 2, none⟩ = some (.int .i64 ((rd_T30 l0_2 x8_1).f2)) ∧ w'.cell? ⟨gb317, 0, none⟩ = some (.int .i64 a0_0) ∧ w'.cell? ⟨gb317, 1, none⟩ = some (.slice A0_1 l0_1.length c0_1) ∧ w'.cell? ⟨gb317, 2, none⟩ = some (.slice (some ad318) l0_2.length c0_2)) (ds := []) (ms 23 0) (by kernel_rfl) rfl (by kernel_rfl) ⟨(blk_cell BK319.out 0).trans rfl, (blk_cell BK319.out 1).trans rfl, (blk_cell BK319.out 2).trans rfl, (blk_cell BK317.out 0).trans rfl, (blk_cell BK317.out 1).trans rfl, (blk_cell BK317.out 2).trans rfl⟩ (fun hHeld => ?_); refine with_tabW impl_LiveOk.tab4 impl_LiveOk.bits4 (fun HT_ HW_ => ?_)
   generalize w29.drew = w30 at BK317 BK319 HB hHeld ⊢
   refine pu 1 14 ?_ (ms 23 2) rfl rfl HT_ (by kernel_rfl) (fun _ _ _ h => h) (by rfl) ?_ ?_ ?_ ?_
   rotate_left
   ·intro w'
    go_simp
    with_reducible rfl
   rotate_left
   ·simp only [SX]
    rfl
   refine pu 2 15 ?_ (ms 23 6) rfl rfl HT_ (by kernel_rfl) (fun _ _ _ h => h) (by rfl) ?_ ?_ ?_ ?_
   rotate_left
   ·intro w'
    go_simp
    with_reducible rfl
   rotate_left
   ·simp only [SX]
    rfl
   refine tk 0 13 ?_ (ms 23 7) rfl rfl HT_ HW_ (by kernel_rfl) (fun _ _ _ h => h) (by rfl) ?_ hHeld ?_ ?_ ?_
   rotate_left
   ·rintro w' ⟨s0, s1, s2, s3, s4, s5⟩
    go_simp
    with_reducible rfl
   rotate_left
   ·simp only [SX]
    rfl
   refine tk 3 16 ?_ (ms 23 15) rfl rfl HT_ HW_ (by kernel_rfl) (fun _ _ _ h => h) (by rfl) ?_ hHeld ?_ ?_ ?_
   rotate_left
   ·rintro w' ⟨s0, s1, s2, s3, s4, s5⟩
    go_simp
    with_reducible rfl
   rotate_left
   ·simp only [SX]
    rfl
   refine pu 4 17 ?_ (ms 23 31) rfl rfl HT_ (by kernel_rfl) (fun _ _ _ h => h) (by rfl) ?_ ?_ ?_ ?_
   rotate_left
   ·intro w'
    go_simp
    with_reducible rfl
   rotate_left
   ·simp only [SX]
    rfl
   refine one_ (i := 5) (N := some 18) (ms 23 63) rfl rfl (one_of HT_.out (by kernel_rfl)) (by decide) (fun K hK => ?_)
   refine goes_ Try.func25 (by kernel_rfl) rfl #[.agg #[.int .i64 ((rd_T30 l0_2 x8_1).f0), .int .i64 ((rd_T30 l0_2 x8_1).f1), .int .i64 ((rd_T30 l0_2 x8_1).f2)], .int .i64 (l0_1.length : Int)] (by rfl) rfl rfl (by (try simp only [List.map_toArray, List.map_cons, List.map_nil]); rfl) ?_
   with_reducible refine (impl_newsOk.calls ((rd_T30 l0_2 x8_1).f0) ((rd_T30 l0_2 x8_1).f1) ((rd_T30 l0_2 x8_1).f2) (l0_1.length : Int) true _ A7.out).mono ?_
   rintro e w31 ⟨rfl, hb⟩
   refine ⟨_, rfl, ?_⟩
   replace BK317 := ak (blk_below (bk BK317) hb)
   replace BK319 := ak (blk_below (bk BK319) hb)
   replace HB := ak (below_step (bl2 HB GE317 GE319) hb)
   (try clear hb)
   (try clear hb2)
   (try clear hk)
   (try clear hi)
   refine hK.out _ _ ⟨(blk_cell BK319.out 0).trans rfl, (blk_cell BK319.out 1).trans rfl, (blk_cell BK319.out 2).trans rfl, (blk_cell BK317.out 0).trans rfl, (blk_cell BK317.out 1).trans rfl, (blk_cell BK317.out 2).trans rfl⟩ (fun hHeld => ?_)
   clear hK K
   refine norm_ (a' := ?_) ?_ ?_
   rotate_left
   ·show Act.put _ (some 18) _ = _
    simp only [SX]
    rfl
   refine pu 6 19 ?_ (ms 23 127) rfl rfl HT_ (by kernel_rfl) (fun _ _ _ h => h) (by rfl) ?_ ?_ ?_ ?_
   rotate_left
   ·intro w'
    go_simp
    with_reducible rfl
   rotate_left
   ·simp only [SX]
    rfl
   refine pu 7 20 ?_ (ms 23 255) rfl rfl HT_ (by kernel_rfl) (fun _ _ _ h => h) (by rfl) ?_ ?_ ?_ ?_
   rotate_left
   ·intro w'
    go_simp
    with_reducible rfl
   rotate_left
   ·simp only [SX]
    rfl
   refine pu 8 21 ?_ (ms 23 511) rfl rfl HT_ (by kernel_rfl) (fun _ _ _ h => h) (by rfl) ?_ ?_ ?_ ?_
   rotate_left
   ·intro w'
    go_simp
    with_reducible rfl
   rotate_left
   ·simp only [SX]
    rfl
   refine pu 9 22 ?_ (ms 23 1023) rfl rfl HT_ (by kernel_rfl) (fun _ _ _ h => h) (by rfl) ?_ ?_ ?_ ?_
   rotate_left
   ·intro w'
    go_simp
    with_reducible rfl
   rotate_left
   ·simp only [SX]
    rfl
   refine pu 10 23 ?_ (ms 23 2047) rfl rfl HT_ (by kernel_rfl) (fun _ _ _ h => h) (by rfl) ?_ ?_ ?_ ?_
   rotate_left
   ·intro w'
    go_simp
    with_reducible rfl
   rotate_left
   ·simp only [SX]
    rfl
   refine pure_ (i := 11) (N := some 24) (v := undef) (a' := ?_) (ms 23 4095) rfl rfl (any_of HT_.out (by kernel_rfl)) (fun _ _ _ h => h) (Or.inr ⟨by rfl, rfl⟩) ?_ ?_
   rotate_left
   ·simp only [SX]
    rfl
   refine pure_ (i := 12) (N := some 25) (v := undef) (a' := ?_) (ms 23 8191) rfl rfl (any_of HT_.out (by kernel_rfl)) (fun _ _ _ h => h) (Or.inr ⟨by rfl, rfl⟩) ?_ ?_
   rotate_left
   ·simp only [SX]
    rfl
   refine pure_ (i := 13) (N := some 26) (v := undef) (a' := ?_) (ms 23 16383) rfl rfl (any_of HT_.out (by kernel_rfl)) (fun _ _ _ h => h) (Or.inr ⟨by rfl, rfl⟩) ?_ ?_
   rotate_left
   ·simp only [SX]
    rfl
   refine pure_ (i := 14) (N := some 27) (v := undef) (a' := ?_) (ms 23 32767) rfl rfl (any_of HT_.out (by kernel_rfl)) (fun _ _ _ h => h) (Or.inr ⟨by rfl, rfl⟩) ?_ ?_
   rotate_left
   ·simp only [SX]
    rfl
   refine pure_ (i := 15) (N := some 28) (v := undef) (a' := ?_) (ms 23 65535) rfl rfl (any_of HT_.out (by kernel_rfl)) (fun _ _ _ h => h) (Or.inr ⟨by rfl, rfl⟩) ?_ ?_
   rotate_left
   ·simp only [SX]
    rfl
   refine pure_ (i := 16) (N := some 29) (v := undef) (a' := ?_) (ms 23 131071) rfl rfl (any_of HT_.out (by kernel_rfl)) (fun _ _ _ h => h) (Or.inr ⟨by rfl, rfl⟩) ?_ ?_
   rotate_left
   ·simp only [SX]
    rfl
   refine pure_ (i := 17) (N := some 30) (v := undef) (a' := ?_) (ms 23 262143) rfl rfl (any_of HT_.out (by kernel_rfl)) (fun _ _ _ h => h) (Or.inr ⟨by rfl, rfl⟩) ?_ ?_
   rotate_left
   ·simp only [SX]
    rfl
   refine pure_ (i := 18) (N := some 31) (v := undef) (a' := ?_) (ms 23 524287) rfl rfl (any_of HT_.out (by kernel_rfl)) (fun _ _ _ h => h) (Or.inr ⟨by rfl, rfl⟩) ?_ ?_
   rotate_left
   ·simp only [SX]
    rfl
   refine pure_ (i := 19) (N := some 32) (v := undef) (a' := ?_) (ms 23 1048575) rfl rfl (any_of HT_.out (by kernel_rfl)) (fun _ _ _ h => h) (Or.inr ⟨by rfl, rfl⟩) ?_ ?_
   rotate_left
   ·simp only [SX]
    rfl
   refine pure_ (i := 20) (N := some 33) (v := undef) (a' := ?_) (ms 23 2097151) rfl rfl (any_of HT_.out (by kernel_rfl)) (fun _ _ _ h => h) (Or.inr ⟨by rfl, rfl⟩) ?_ ?_
   rotate_left
   ·simp only [SX]
    rfl
   refine pu 21 34 ?_ (ms 23 4194303) rfl rfl HT_ (by kernel_rfl) (fun _ _ _ h => h) (by rfl) ?_ ?_ ?_ ?_
   rotate_left
   ·intro w'
    go_simp
    with_reducible rfl
   rotate_left
   ·simp only [SX]
    rfl
   refine pu 22 35 ?_ (ms 23 8388607) rfl rfl HT_ (by kernel_rfl) (fun _ _ _ h => h) (by rfl) ?_ ?_ ?_ ?_
   rotate_left
   ·intro w'
    go_simp
    with_reducible rfl
   rotate_left
   ·simp only [SX]
    rfl
   refine done_ (done_of HT_.out (by kernel_rfl)) ?_
   try go_wp2
   go_roundg k1
   case measure => have := HK1.out; omega
   case rel => exact ⟨(wrap64 (x8_1 + 1)), (by rfl), H', ⟨by have := HK1.out; omega⟩, ⟨bk BK317⟩, ⟨bl2 HB GE317 GE319⟩⟩
  rw [if_pos c9] at H
  have c9b0 : decide (0 < x8_1) = true := decide_eq_true c9
  clear c9
  obtain ⟨ji10, hji10⟩ : ∃ j_ : Int, (wrap64 (x8_1 - 1)) = j_ := ⟨_, rfl⟩
  replace H : (if 0 ≤ (ji10) then (if (ji10) < (l0_2.length : Int) then (if ((rd_T30 l0_2 (ji10)).f0) ≥ ((rd_T30 l0_2 x8_1).f0) then (some false) else (impl_LiveOk.l0 k1 l0_2 (l0_2.length : Int) (wrap64 (x8_1 + 1)) a0_0 l0_1 l0_2)) else (none)) else (none)) = some r := by (rw [hji10] at H; exact H)
  (try rw [hji10] at A7)
  have hji10w : (IntKind.i64.wrap (x8_1 - 1)) = ji10 := (i64_w _).trans hji10
  by_cases c11 : 0 ≤ (ji10)
  rotate_left
  ·rw [if_neg c11] at H
   exact absurd H (by simp)
  rw [if_pos c11] at H
  have c11b0 : decide (0 ≤ (ji10)) = true := decide_eq_true c11
  clear c11
  by_cases c12 : (ji10) < (l0_2.length : Int)
  rotate_left
  ·rw [if_neg c12] at H
   exact absurd H (by simp)
  rw [if_pos c12] at H
  have c12b0 : decide ((ji10) < (l0_2.length : Int)) = true := decide_eq_true c12
  clear c12
  by_cases c13 : ((rd_T30 l0_2 (ji10)).f0) ≥ ((rd_T30 l0_2 x8_1).f0)
  ·rw [if_pos c13] at H
   have c13b0 : decide (((rd_T30 l0_2 x8_1).f0) ≤ ((rd_T30 l0_2 (ji10)).f0)) = true := decide_eq_true c13
   clear c13
   obtain rfl := Option.some.inj H
   have p318 : 0 ≤ (x8_1 : Int) := oT (by (with_reducible assumption))
   have q318 : x8_1 < (l0_2.length : Int) := oT (by (with_reducible assumption))
   obtain ⟨ad318, e318, hx318_0, hx318_1, hx318_2⟩ := at_T30 HR0_2.out x8_1 p318 q318
   cases e318
   replace hx318_0 := hcb HB.out hx318_0
   replace hx318_1 := hcb HB.out hx318_1
   replace hx318_2 := hcb HB.out hx318_2
   replace p318 := eq_true p318
   replace q318 := eq_true q318
   try go_wp2_with (((with_reducible refine gate_dst (N := 4) rfl ?_); refine box_event ?hg (N := 4) ?hd (cs := #[.int .i64 0, .int .i64 0, .int .i64 0]) (t := 30) ?hr ?_; (case hd => rfl); (case hg => rfl); (case hr => (go_simp; done)); intro gb319 hg w14 hbox hb; have BK319 := ak (hbox); have GW319 := ak ((by rw [hg]; exact (below_size (bl1 HB GE317)) : w.heap.size ≤ gb319)); have GE319 := ak ((by rw [hg]; exact (below_size (bl1 HB GE317)) : w.heap.size ≤ gb319)); replace HB := ak (below_step (bl1 HB GE317) hb); have NB317_319 := ak ((by rw [hg]; exact Nat.ne_of_lt (blk_lt (bk BK317)) : gb317 ≠ gb319)); have NB319_317 := ak ((by rw [hg]; exact Nat.ne_of_gt (blk_lt (bk BK317)) : gb319 ≠ gb317)); replace BK317 := ak (blk_below (bk BK317) hb); clear hb hbox hg; have hnb15 := NB319_317.out; have hnc15 := NB317_319.out; have hcz16_0 := bc w14 BK319 0 (.int .i64 0) rfl; have hcz16_1 := bc w14 BK319 1 (.int .i64 0) rfl; have hcz16_2 := bc w14 BK319 2 (.int .i64 0) rfl; have hfz16_0 := fz BK319 0; have hfz16_1 := fz BK319 1; have hfz16_2 := fz BK319 2))
   have n0_ : Aside0 ((((w14.setCell ⟨gb319, 0, none⟩ (.int .i64 ((rd_T30 l0_2 x8_1).f0))).setCell ⟨gb319, 1, none⟩ (.int .i64 ((rd_T30 l0_2 x8_1).f1))).setCell ⟨gb319, 2, none⟩ (.int .i64 ((rd_T30 l0_2 x8_1).f2))).heap[gb317]? = some (.cells #[.int .i64 a0_0, .slice A0_1 l0_1.length c0_1, .slice (some ad318) l0_2.length c0_2] 28 (0, 0))) := ⟨by refine blk_far ?_ NB317_319.out _; refine blk_far ?_ NB317_319.out _; refine blk_far ?_ NB317_319.out _; exact BK317.out⟩
   have n1_ : Aside0 ((((w14.setCell ⟨gb319, 0, none⟩ (.int .i64 ((rd_T30 l0_2 x8_1).f0))).setCell ⟨gb319, 1, none⟩ (.int .i64 ((rd_T30 l0_2 x8_1).f1))).setCell ⟨gb319, 2, none⟩ (.int .i64 ((rd_T30 l0_2 x8_1).f2))).heap[gb319]? = some (.cells #[.int .i64 ((rd_T30 l0_2 x8_1).f0), .int .i64 ((rd_T30 l0_2 x8_1).f1), .int .i64 ((rd_T30 l0_2 x8_1).f2)] 30 (0, 0))) := ⟨by refine blk_put (cs := #[.int .i64 ((rd_T30 l0_2 x8_1).f0), .int .i64 ((rd_T30 l0_2 x8_1).f1), .int .i64 0]) ?_ 2 _ rfl; refine blk_put (cs := #[.int .i64 ((rd_T30 l0_2 x8_1).f0), .int .i64 0, .int .i64 0]) ?_ 1 _ rfl; refine blk_put (cs := #[.int .i64 0, .int .i64 0, .int .i64 0]) ?_ 0 _ rfl; exact BK319.out⟩
   have n2_ : Aside0 (Below w.heap.size w (((w14.setCell ⟨gb319, 0, none⟩ (.int .i64 ((rd_T30 l0_2 x8_1).f0))).setCell ⟨gb319, 1, none⟩ (.int .i64 ((rd_T30 l0_2 x8_1).f1))).setCell ⟨gb319, 2, none⟩ (.int .i64 ((rd_T30 l0_2 x8_1).f2)))) := ⟨bl2 HB GE317 GE319⟩
   (try clear BK317)
   (try clear BK319)
   (try clear HB)
   generalize (((w14.setCell ⟨gb319, 0, none⟩ (.int .i64 ((rd_T30 l0_2 x8_1).f0))).setCell ⟨gb319, 1, none⟩ (.int .i64 ((rd_T30 l0_2 x8_1).f1))).setCell ⟨gb319, 2, none⟩ (.int .i64 ((rd_T30 l0_2 x8_1).f2))) = w17 at n0_ n1_ n2_ ⊢
   have BK317 := n0_
   have BK319 := n1_
   have HB := n2_
   clear n0_ n1_ n2_
   replace BK317 := ak (blk_drew BK317.out)
   replace BK319 := ak (blk_drew BK319.out)
   replace HB := ak (below_drew1 HB.out)
   have p321 : 0 ≤ ((ji10) : Int) := oT (by (with_reducible assumption))
   have q321 : (ji10) < (l0_2.length : Int) := oT (by (with_reducible assumption))
   obtain ⟨ad321, e321, hx321_0, hx321_1, hx321_2⟩ := at_T30 HR0_2.out (ji10) p321 q321
   have hw321_2 := hx321_2
   have hw321_1 := hx321_1
   have hw321_0 := hx321_0
   obtain rfl : ad318 = ad321 := (by injection e321)
   replace hx321_0 := hcb HB.out hx321_0
   replace hx321_1 := hcb HB.out hx321_1
   replace hx321_2 := hcb HB.out hx321_2
   replace p321 := eq_true p321
   replace q321 := eq_true q321
   refine start_ (n := 23) (S := fun w' => w'.cell? ⟨gb319, 0, none⟩ = some (.int .i64 ((rd_T30 l0_2 x8_1).f0)) ∧ w'.cell? ⟨gb319, 1, none⟩ = some (.int .i64 ((rd_T30 l0_2 x8_1).f1)) ∧ w'.cell? ⟨gb319, 2, none⟩ = some (.int .i64 ((rd_T30 l0_2 x8_1).f2)) ∧ w'.cell? ⟨gb317, 0, none⟩ = some (.int .i64 a0_0) ∧ w'.cell? ⟨gb317, 1, none⟩ = some (.slice A0_1 l0_1.length c0_1) ∧ w'.cell? ⟨gb317, 2, none⟩ = some (.slice (some ad318) l0_2.length c0_2) ∧ w'.cell? (ad318.add (((ji10)).toNat * 3)) = some (.int .i64 ((rd_T30 l0_2 (ji10)).f0)) ∧ w'.cell? ⟨(ad318.add (((ji10)).toNat * 3)).block, (ad318.add (((ji10)).toNat * 3)).off + 1, none⟩ = some (.int .i64 ((rd_T30 l0_2 (ji10)).f1)) ∧ w'.cell? ⟨(ad318.add (((ji10)).toNat * 3)).block, (ad318.add (((ji10)).toNat * 3)).off + 2, none⟩ = some (.int .i64 ((rd_T30 l0_2 (ji10)).f2))) (ds := []) (ms 23 0) (by kernel_rfl) rfl (by kernel_rfl) ⟨(blk_cell BK319.out 0).trans rfl, (blk_cell BK319.out 1).trans rfl, (blk_cell BK319.out 2).trans rfl, (blk_cell BK317.out 0).trans rfl, (blk_cell BK317.out 1).trans rfl, (blk_cell BK317.out 2).trans rfl, ((HB.out.cell (World.block_lt_of_cell? w _ hw321_0)).trans hw321_0), ((HB.out.cell (World.block_lt_of_cell? w _ hw321_1)).trans hw321_1), ((HB.out.cell (World.block_lt_of_cell? w _ hw321_2)).trans hw321_2)⟩ (fun hHeld => ?_); refine with_tabW impl_LiveOk.tab4 impl_LiveOk.bits4 (fun HT_ HW_ => ?_)
   generalize w17.drew = w18 at BK317 BK319 HB hx321_0 hx321_1 hx321_2 hHeld ⊢
   refine pu 1 14 ?_ (ms 23 2) rfl rfl HT_ (by kernel_rfl) (fun _ _ _ h => h) (by rfl) ?_ ?_ ?_ ?_
   rotate_left
   ·intro w'
    go_simp
    with_reducible rfl
   rotate_left
   ·simp only [SX]
    rfl
   refine pu 2 15 ?_ (ms 23 6) rfl rfl HT_ (by kernel_rfl) (fun _ _ _ h => h) (by rfl) ?_ ?_ ?_ ?_
   rotate_left
   ·intro w'
    go_simp
    with_reducible rfl
   rotate_left
   ·simp only [SX]
    rfl
   refine tk 0 13 ?_ (ms 23 7) rfl rfl HT_ HW_ (by kernel_rfl) (fun _ _ _ h => h) (by rfl) ?_ hHeld ?_ ?_ ?_
   rotate_left
   ·rintro w' ⟨s0, s1, s2, s3, s4, s5, s6, s7, s8⟩
    go_simp
    with_reducible rfl
   rotate_left
   ·simp only [SX]
    rfl
   refine tk 3 16 ?_ (ms 23 15) rfl rfl HT_ HW_ (by kernel_rfl) (fun _ _ _ h => h) (by rfl) ?_ hHeld ?_ ?_ ?_
   rotate_left
   ·rintro w' ⟨s0, s1, s2, s3, s4, s5, s6, s7, s8⟩
    go_simp
    with_reducible rfl
   rotate_left
   ·simp only [SX]
    rfl
   refine pu 4 17 ?_ (ms 23 31) rfl rfl HT_ (by kernel_rfl) (fun _ _ _ h => h) (by rfl) ?_ ?_ ?_ ?_
   rotate_left
   ·intro w'
    go_simp
    with_reducible rfl
   rotate_left
   ·simp only [SX]
    rfl
   refine one_ (i := 5) (N := some 18) (ms 23 63) rfl rfl (one_of HT_.out (by kernel_rfl)) (by decide) (fun K hK => ?_)
   refine goes_ Try.func25 (by kernel_rfl) rfl #[.agg #[.int .i64 ((rd_T30 l0_2 x8_1).f0), .int .i64 ((rd_T30 l0_2 x8_1).f1), .int .i64 ((rd_T30 l0_2 x8_1).f2)], .int .i64 (l0_1.length : Int)] (by rfl) rfl rfl (by (try simp only [List.map_toArray, List.map_cons, List.map_nil]); rfl) ?_
   with_reducible refine (impl_newsOk.calls ((rd_T30 l0_2 x8_1).f0) ((rd_T30 l0_2 x8_1).f1) ((rd_T30 l0_2 x8_1).f2) (l0_1.length : Int) true _ A7.out).mono ?_
   rintro e w19 ⟨rfl, hb⟩
   refine ⟨_, rfl, ?_⟩
   replace BK317 := ak (blk_below (bk BK317) hb)
   replace BK319 := ak (blk_below (bk BK319) hb)
   replace HB := ak (below_step (bl2 HB GE317 GE319) hb)
   (try clear hb)
   (try clear hb2)
   (try clear hk)
   (try clear hi)
   refine hK.out _ _ ⟨(blk_cell BK319.out 0).trans rfl, (blk_cell BK319.out 1).trans rfl, (blk_cell BK319.out 2).trans rfl, (blk_cell BK317.out 0).trans rfl, (blk_cell BK317.out 1).trans rfl, (blk_cell BK317.out 2).trans rfl, ((HB.out.cell (World.block_lt_of_cell? w _ hw321_0)).trans hw321_0), ((HB.out.cell (World.block_lt_of_cell? w _ hw321_1)).trans hw321_1), ((HB.out.cell (World.block_lt_of_cell? w _ hw321_2)).trans hw321_2)⟩ (fun hHeld => ?_)
   clear hK K
   refine norm_ (a' := ?_) ?_ ?_
   rotate_left
   ·show Act.put _ (some 18) _ = _
    simp only [SX]
    rfl
   refine pu 6 19 ?_ (ms 23 127) rfl rfl HT_ (by kernel_rfl) (fun _ _ _ h => h) (by rfl) ?_ ?_ ?_ ?_
   rotate_left
   ·intro w'
    go_simp
    with_reducible rfl
   rotate_left
   ·simp only [SX]
    rfl
   refine pu 7 20 ?_ (ms 23 255) rfl rfl HT_ (by kernel_rfl) (fun _ _ _ h => h) (by rfl) ?_ ?_ ?_ ?_
   rotate_left
   ·intro w'
    go_simp
    with_reducible rfl
   rotate_left
   ·simp only [SX]
    rfl
   refine pu 8 21 ?_ (ms 23 511) rfl rfl HT_ (by kernel_rfl) (fun _ _ _ h => h) (by rfl) ?_ ?_ ?_ ?_
   rotate_left
   ·intro w'
    go_simp
    with_reducible rfl
   rotate_left
   ·simp only [SX]
    rfl
   refine pu 9 22 ?_ (ms 23 1023) rfl rfl HT_ (by kernel_rfl) (fun _ _ _ h => h) (by rfl) ?_ ?_ ?_ ?_
   rotate_left
   ·intro w'
    go_simp
    with_reducible rfl
   rotate_left
   ·simp only [SX]
    rfl
   refine pu 10 23 ?_ (ms 23 2047) rfl rfl HT_ (by kernel_rfl) (fun _ _ _ h => h) (by rfl) ?_ ?_ ?_ ?_
   rotate_left
   ·intro w'
    go_simp
    with_reducible rfl
   rotate_left
   ·simp only [SX]
    rfl
   refine pu 11 24 ?_ (ms 23 4095) rfl rfl HT_ (by kernel_rfl) (fun _ _ _ h => h) (by rfl) ?_ ?_ ?_ ?_
   rotate_left
   ·intro w'
    go_simp
    with_reducible rfl
   rotate_left
   ·simp only [SX]
    rfl
   refine pu 13 26 ?_ (ms 23 12287) rfl rfl HT_ (by kernel_rfl) (fun _ _ _ h => h) (by rfl) ?_ ?_ ?_ ?_
   rotate_left
   ·intro w'
    go_simp
    with_reducible rfl
   rotate_left
   ·simp only [SX]
    rfl
   refine pu 14 27 ?_ (ms 23 28671) rfl rfl HT_ (by kernel_rfl) (fun _ _ _ h => h) (by rfl) ?_ ?_ ?_ ?_
   rotate_left
   ·intro w'
    go_simp
    with_reducible rfl
   rotate_left
   ·simp only [SX]
    rfl
   refine pu 18 31 ?_ (ms 23 290815) rfl rfl HT_ (by kernel_rfl) (fun _ _ _ h => h) (by rfl) ?_ ?_ ?_ ?_
   rotate_left
   ·intro w'
    go_simp
    with_reducible rfl
   rotate_left
   ·simp only [SX]
    rfl
   refine tk 12 25 ?_ (ms 23 294911) rfl rfl HT_ HW_ (by kernel_rfl) (fun _ _ _ h => h) (by rfl) ?_ hHeld ?_ ?_ ?_
   rotate_left
   ·rintro w' ⟨s0, s1, s2, s3, s4, s5, s6, s7, s8⟩
    go_simp
    with_reducible rfl
   rotate_left
   ·simp only [SX]
    rfl
   refine pu 15 28 ?_ (ms 23 327679) rfl rfl HT_ (by kernel_rfl) (fun _ _ _ h => h) (by rfl) ?_ ?_ ?_ ?_
   rotate_left
   ·intro w'
    go_simp
    with_reducible rfl
   rotate_left
   ·simp only [SX]
    rfl
   refine pu 16 29 ?_ (ms 23 393215) rfl rfl HT_ (by kernel_rfl) (fun _ _ _ h => h) (by rfl) ?_ ?_ ?_ ?_
   rotate_left
   ·intro w'
    go_simp
    with_reducible rfl
   rotate_left
   ·simp only [SX]
    rfl
   refine tk 17 30 ?_ (ms 23 524287) rfl rfl HT_ HW_ (by kernel_rfl) (fun _ _ _ h => h) (by rfl) ?_ hHeld ?_ ?_ ?_
   rotate_left
   ·rintro w' ⟨s0, s1, s2, s3, s4, s5, s6, s7, s8⟩
    go_simp
    with_reducible rfl
   rotate_left
   ·simp only [SX]
    rfl
   refine tk 19 32 ?_ (ms 23 1048575) rfl rfl HT_ HW_ (by kernel_rfl) (fun _ _ _ h => h) (by rfl) ?_ hHeld ?_ ?_ ?_
   rotate_left
   ·rintro w' ⟨s0, s1, s2, s3, s4, s5, s6, s7, s8⟩
    go_simp
    with_reducible rfl
   rotate_left
   ·simp only [SX]
    rfl
   refine pu 20 33 ?_ (ms 23 2097151) rfl rfl HT_ (by kernel_rfl) (fun _ _ _ h => h) (by rfl) ?_ ?_ ?_ ?_
   rotate_left
   ·intro w'
    go_simp
    with_reducible rfl
   rotate_left
   ·simp only [SX]
    rfl
   refine pu 21 34 ?_ (ms 23 4194303) rfl rfl HT_ (by kernel_rfl) (fun _ _ _ h => h) (by rfl) ?_ ?_ ?_ ?_
   rotate_left
   ·intro w'
    go_simp
    with_reducible rfl
   rotate_left
   ·simp only [SX]
    rfl
   refine pu 22 35 ?_ (ms 23 8388607) rfl rfl HT_ (by kernel_rfl) (fun _ _ _ h => h) (by rfl) ?_ ?_ ?_ ?_
   rotate_left
   ·intro w'
    go_simp
    with_reducible rfl
   rotate_left
   ·simp only [SX]
    rfl
   refine done_ (done_of HT_.out (by kernel_rfl)) ?_
   try go_wp2
   go_ret
   exact ⟨by rfl, bl2 HB GE317 GE319⟩
  rw [if_neg c13] at H
  have c13b0 : decide (((rd_T30 l0_2 x8_1).f0) ≤ ((rd_T30 l0_2 (ji10)).f0)) = false := decide_eq_false c13
  clear c13
  have H' := ak H
  clear H
  have p318 : 0 ≤ (x8_1 : Int) := oT (by (with_reducible assumption))
  have q318 : x8_1 < (l0_2.length : Int) := oT (by (with_reducible assumption))
  obtain ⟨ad318, e318, hx318_0, hx318_1, hx318_2⟩ := at_T30 HR0_2.out x8_1 p318 q318
  cases e318
  replace hx318_0 := hcb HB.out hx318_0
  replace hx318_1 := hcb HB.out hx318_1
  replace hx318_2 := hcb HB.out hx318_2
  replace p318 := eq_true p318
  replace q318 := eq_true q318
  try go_wp2_with (((with_reducible refine gate_dst (N := 4) rfl ?_); refine box_event ?hg (N := 4) ?hd (cs := #[.int .i64 0, .int .i64 0, .int .i64 0]) (t := 30) ?hr ?_; (case hd => rfl); (case hg => rfl); (case hr => (go_simp; done)); intro gb319 hg w20 hbox hb; have BK319 := ak (hbox); have GW319 := ak ((by rw [hg]; exact (below_size (bl1 HB GE317)) : w.heap.size ≤ gb319)); have GE319 := ak ((by rw [hg]; exact (below_size (bl1 HB GE317)) : w.heap.size ≤ gb319)); replace HB := ak (below_step (bl1 HB GE317) hb); have NB317_319 := ak ((by rw [hg]; exact Nat.ne_of_lt (blk_lt (bk BK317)) : gb317 ≠ gb319)); have NB319_317 := ak ((by rw [hg]; exact Nat.ne_of_gt (blk_lt (bk BK317)) : gb319 ≠ gb317)); replace BK317 := ak (blk_below (bk BK317) hb); clear hb hbox hg; have hnb21 := NB319_317.out; have hnc21 := NB317_319.out; have hcz22_0 := bc w20 BK319 0 (.int .i64 0) rfl; have hcz22_1 := bc w20 BK319 1 (.int .i64 0) rfl; have hcz22_2 := bc w20 BK319 2 (.int .i64 0) rfl; have hfz22_0 := fz BK319 0; have hfz22_1 := fz BK319 1; have hfz22_2 := fz BK319 2))
  have n0_ : Aside0 ((((w20.setCell ⟨gb319, 0, none⟩ (.int .i64 ((rd_T30 l0_2 x8_1).f0))).setCell ⟨gb319, 1, none⟩ (.int .i64 ((rd_T30 l0_2 x8_1).f1))).setCell ⟨gb319, 2, none⟩ (.int .i64 ((rd_T30 l0_2 x8_1).f2))).heap[gb317]? = some (.cells #[.int .i64 a0_0, .slice A0_1 l0_1.length c0_1, .slice (some ad318) l0_2.length c0_2] 28 (0, 0))) := ⟨by refine blk_far ?_ NB317_319.out _; refine blk_far ?_ NB317_319.out _; refine blk_far ?_ NB317_319.out _; exact BK317.out⟩
  have n1_ : Aside0 ((((w20.setCell ⟨gb319, 0, none⟩ (.int .i64 ((rd_T30 l0_2 x8_1).f0))).setCell ⟨gb319, 1, none⟩ (.int .i64 ((rd_T30 l0_2 x8_1).f1))).setCell ⟨gb319, 2, none⟩ (.int .i64 ((rd_T30 l0_2 x8_1).f2))).heap[gb319]? = some (.cells #[.int .i64 ((rd_T30 l0_2 x8_1).f0), .int .i64 ((rd_T30 l0_2 x8_1).f1), .int .i64 ((rd_T30 l0_2 x8_1).f2)] 30 (0, 0))) := ⟨by refine blk_put (cs := #[.int .i64 ((rd_T30 l0_2 x8_1).f0), .int .i64 ((rd_T30 l0_2 x8_1).f1), .int .i64 0]) ?_ 2 _ rfl; refine blk_put (cs := #[.int .i64 ((rd_T30 l0_2 x8_1).f0), .int .i64 0, .int .i64 0]) ?_ 1 _ rfl; refine blk_put (cs := #[.int .i64 0, .int .i64 0, .int .i64 0]) ?_ 0 _ rfl; exact BK319.out⟩
  have n2_ : Aside0 (Below w.heap.size w (((w20.setCell ⟨gb319, 0, none⟩ (.int .i64 ((rd_T30 l0_2 x8_1).f0))).setCell ⟨gb319, 1, none⟩ (.int .i64 ((rd_T30 l0_2 x8_1).f1))).setCell ⟨gb319, 2, none⟩ (.int .i64 ((rd_T30 l0_2 x8_1).f2)))) := ⟨bl2 HB GE317 GE319⟩
  (try clear BK317)
  (try clear BK319)
  (try clear HB)
  generalize (((w20.setCell ⟨gb319, 0, none⟩ (.int .i64 ((rd_T30 l0_2 x8_1).f0))).setCell ⟨gb319, 1, none⟩ (.int .i64 ((rd_T30 l0_2 x8_1).f1))).setCell ⟨gb319, 2, none⟩ (.int .i64 ((rd_T30 l0_2 x8_1).f2))) = w23 at n0_ n1_ n2_ ⊢
  have BK317 := n0_
  have BK319 := n1_
  have HB := n2_
  clear n0_ n1_ n2_
  replace BK317 := ak (blk_drew BK317.out)
  replace BK319 := ak (blk_drew BK319.out)
  replace HB := ak (below_drew1 HB.out)
  have p321 : 0 ≤ ((ji10) : Int) := oT (by (with_reducible assumption))
  have q321 : (ji10) < (l0_2.length : Int) := oT (by (with_reducible assumption))
  obtain ⟨ad321, e321, hx321_0, hx321_1, hx321_2⟩ := at_T30 HR0_2.out (ji10) p321 q321
  have hw321_2 := hx321_2
  have hw321_1 := hx321_1
  have hw321_0 := hx321_0
  obtain rfl : ad318 = ad321 := (by injection e321)
  replace hx321_0 := hcb HB.out hx321_0
  replace hx321_1 := hcb HB.out hx321_1
  replace hx321_2 := hcb HB.out hx321_2
  replace p321 := eq_true p321
  replace q321 := eq_true q321
  refine start_ (n := 23) (S := fun w' => w'.cell? ⟨gb319, 0, none⟩ = some (.int .i64 ((rd_T30 l0_2 x8_1).f0)) ∧ w'.cell? ⟨gb319, 1, none⟩ = some (.int .i64 ((rd_T30 l0_2 x8_1).f1)) ∧ w'.cell? ⟨gb319, 2, none⟩ = some (.int .i64 ((rd_T30 l0_2 x8_1).f2)) ∧ w'.cell? ⟨gb317, 0, none⟩ = some (.int .i64 a0_0) ∧ w'.cell? ⟨gb317, 1, none⟩ = some (.slice A0_1 l0_1.length c0_1) ∧ w'.cell? ⟨gb317, 2, none⟩ = some (.slice (some ad318) l0_2.length c0_2) ∧ w'.cell? (ad318.add (((ji10)).toNat * 3)) = some (.int .i64 ((rd_T30 l0_2 (ji10)).f0)) ∧ w'.cell? ⟨(ad318.add (((ji10)).toNat * 3)).block, (ad318.add (((ji10)).toNat * 3)).off + 1, none⟩ = some (.int .i64 ((rd_T30 l0_2 (ji10)).f1)) ∧ w'.cell? ⟨(ad318.add (((ji10)).toNat * 3)).block, (ad318.add (((ji10)).toNat * 3)).off + 2, none⟩ = some (.int .i64 ((rd_T30 l0_2 (ji10)).f2))) (ds := []) (ms 23 0) (by kernel_rfl) rfl (by kernel_rfl) ⟨(blk_cell BK319.out 0).trans rfl, (blk_cell BK319.out 1).trans rfl, (blk_cell BK319.out 2).trans rfl, (blk_cell BK317.out 0).trans rfl, (blk_cell BK317.out 1).trans rfl, (blk_cell BK317.out 2).trans rfl, ((HB.out.cell (World.block_lt_of_cell? w _ hw321_0)).trans hw321_0), ((HB.out.cell (World.block_lt_of_cell? w _ hw321_1)).trans hw321_1), ((HB.out.cell (World.block_lt_of_cell? w _ hw321_2)).trans hw321_2)⟩ (fun hHeld => ?_); refine with_tabW impl_LiveOk.tab4 impl_LiveOk.bits4 (fun HT_ HW_ => ?_)
  generalize w23.drew = w24 at BK317 BK319 HB hx321_0 hx321_1 hx321_2 hHeld ⊢
  refine pu 1 14 ?_ (ms 23 2) rfl rfl HT_ (by kernel_rfl) (fun _ _ _ h => h) (by rfl) ?_ ?_ ?_ ?_
  rotate_left
  ·intro w'
   go_simp
   with_reducible rfl
  rotate_left
  ·simp only [SX]
   rfl
  refine pu 2 15 ?_ (ms 23 6) rfl rfl HT_ (by kernel_rfl) (fun _ _ _ h => h) (by rfl) ?_ ?_ ?_ ?_
  rotate_left
  ·intro w'
   go_simp
   with_reducible rfl
  rotate_left
  ·simp only [SX]
   rfl
  refine tk 0 13 ?_ (ms 23 7) rfl rfl HT_ HW_ (by kernel_rfl) (fun _ _ _ h => h) (by rfl) ?_ hHeld ?_ ?_ ?_
  rotate_left
  ·rintro w' ⟨s0, s1, s2, s3, s4, s5, s6, s7, s8⟩
   go_simp
   with_reducible rfl
  rotate_left
  ·simp only [SX]
   rfl
  refine tk 3 16 ?_ (ms 23 15) rfl rfl HT_ HW_ (by kernel_rfl) (fun _ _ _ h => h) (by rfl) ?_ hHeld ?_ ?_ ?_
  rotate_left
  ·rintro w' ⟨s0, s1, s2, s3, s4, s5, s6, s7, s8⟩
   go_simp
   with_reducible rfl
  rotate_left
  ·simp only [SX]
   rfl
  refine pu 4 17 ?_ (ms 23 31) rfl rfl HT_ (by kernel_rfl) (fun _ _ _ h => h) (by rfl) ?_ ?_ ?_ ?_
  rotate_left
  ·intro w'
   go_simp
   with_reducible rfl
  rotate_left
  ·simp only [SX]
   rfl
  refine one_ (i := 5) (N := some 18) (ms 23 63) rfl rfl (one_of HT_.out (by kernel_rfl)) (by decide) (fun K hK => ?_)
  refine goes_ Try.func25 (by kernel_rfl) rfl #[.agg #[.int .i64 ((rd_T30 l0_2 x8_1).f0), .int .i64 ((rd_T30 l0_2 x8_1).f1), .int .i64 ((rd_T30 l0_2 x8_1).f2)], .int .i64 (l0_1.length : Int)] (by rfl) rfl rfl (by (try simp only [List.map_toArray, List.map_cons, List.map_nil]); rfl) ?_
  with_reducible refine (impl_newsOk.calls ((rd_T30 l0_2 x8_1).f0) ((rd_T30 l0_2 x8_1).f1) ((rd_T30 l0_2 x8_1).f2) (l0_1.length : Int) true _ A7.out).mono ?_
  rintro e w25 ⟨rfl, hb⟩
  refine ⟨_, rfl, ?_⟩
  replace BK317 := ak (blk_below (bk BK317) hb)
  replace BK319 := ak (blk_below (bk BK319) hb)
  replace HB := ak (below_step (bl2 HB GE317 GE319) hb)
  (try clear hb)
  (try clear hb2)
  (try clear hk)
  (try clear hi)
  refine hK.out _ _ ⟨(blk_cell BK319.out 0).trans rfl, (blk_cell BK319.out 1).trans rfl, (blk_cell BK319.out 2).trans rfl, (blk_cell BK317.out 0).trans rfl, (blk_cell BK317.out 1).trans rfl, (blk_cell BK317.out 2).trans rfl, ((HB.out.cell (World.block_lt_of_cell? w _ hw321_0)).trans hw321_0), ((HB.out.cell (World.block_lt_of_cell? w _ hw321_1)).trans hw321_1), ((HB.out.cell (World.block_lt_of_cell? w _ hw321_2)).trans hw321_2)⟩ (fun hHeld => ?_)
  clear hK K
  refine norm_ (a' := ?_) ?_ ?_
  rotate_left
  ·show Act.put _ (some 18) _ = _
   simp only [SX]
   rfl
  refine pu 6 19 ?_ (ms 23 127) rfl rfl HT_ (by kernel_rfl) (fun _ _ _ h => h) (by rfl) ?_ ?_ ?_ ?_
  rotate_left
  ·intro w'
   go_simp
   with_reducible rfl
  rotate_left
  ·simp only [SX]
   rfl
  refine pu 7 20 ?_ (ms 23 255) rfl rfl HT_ (by kernel_rfl) (fun _ _ _ h => h) (by rfl) ?_ ?_ ?_ ?_
  rotate_left
  ·intro w'
   go_simp
   with_reducible rfl
  rotate_left
  ·simp only [SX]
   rfl
  refine pu 8 21 ?_ (ms 23 511) rfl rfl HT_ (by kernel_rfl) (fun _ _ _ h => h) (by rfl) ?_ ?_ ?_ ?_
  rotate_left
  ·intro w'
   go_simp
   with_reducible rfl
  rotate_left
  ·simp only [SX]
   rfl
  refine pu 9 22 ?_ (ms 23 1023) rfl rfl HT_ (by kernel_rfl) (fun _ _ _ h => h) (by rfl) ?_ ?_ ?_ ?_
  rotate_left
  ·intro w'
   go_simp
   with_reducible rfl
  rotate_left
  ·simp only [SX]
   rfl
  refine pu 10 23 ?_ (ms 23 2047) rfl rfl HT_ (by kernel_rfl) (fun _ _ _ h => h) (by rfl) ?_ ?_ ?_ ?_
  rotate_left
  ·intro w'
   go_simp
   with_reducible rfl
  rotate_left
  ·simp only [SX]
   rfl
  refine pu 11 24 ?_ (ms 23 4095) rfl rfl HT_ (by kernel_rfl) (fun _ _ _ h => h) (by rfl) ?_ ?_ ?_ ?_
  rotate_left
  ·intro w'
   go_simp
   with_reducible rfl
  rotate_left
  ·simp only [SX]
   rfl
  refine pu 13 26 ?_ (ms 23 12287) rfl rfl HT_ (by kernel_rfl) (fun _ _ _ h => h) (by rfl) ?_ ?_ ?_ ?_
  rotate_left
  ·intro w'
   go_simp
   with_reducible rfl
  rotate_left
  ·simp only [SX]
   rfl
  refine pu 14 27 ?_ (ms 23 28671) rfl rfl HT_ (by kernel_rfl) (fun _ _ _ h => h) (by rfl) ?_ ?_ ?_ ?_
  rotate_left
  ·intro w'
   go_simp
   with_reducible rfl
  rotate_left
  ·simp only [SX]
   rfl
  refine pu 18 31 ?_ (ms 23 290815) rfl rfl HT_ (by kernel_rfl) (fun _ _ _ h => h) (by rfl) ?_ ?_ ?_ ?_
  rotate_left
  ·intro w'
   go_simp
   with_reducible rfl
  rotate_left
  ·simp only [SX]
   rfl
  refine tk 12 25 ?_ (ms 23 294911) rfl rfl HT_ HW_ (by kernel_rfl) (fun _ _ _ h => h) (by rfl) ?_ hHeld ?_ ?_ ?_
  rotate_left
  ·rintro w' ⟨s0, s1, s2, s3, s4, s5, s6, s7, s8⟩
   go_simp
   with_reducible rfl
  rotate_left
  ·simp only [SX]
   rfl
  refine pu 15 28 ?_ (ms 23 327679) rfl rfl HT_ (by kernel_rfl) (fun _ _ _ h => h) (by rfl) ?_ ?_ ?_ ?_
  rotate_left
  ·intro w'
   go_simp
   with_reducible rfl
  rotate_left
  ·simp only [SX]
   rfl
  refine pu 16 29 ?_ (ms 23 393215) rfl rfl HT_ (by kernel_rfl) (fun _ _ _ h => h) (by rfl) ?_ ?_ ?_ ?_
  rotate_left
  ·intro w'
   go_simp
   with_reducible rfl
  rotate_left
  ·simp only [SX]
   rfl
  refine tk 17 30 ?_ (ms 23 524287) rfl rfl HT_ HW_ (by kernel_rfl) (fun _ _ _ h => h) (by rfl) ?_ hHeld ?_ ?_ ?_
  rotate_left
  ·rintro w' ⟨s0, s1, s2, s3, s4, s5, s6, s7, s8⟩
   go_simp
   with_reducible rfl
  rotate_left
  ·simp only [SX]
   rfl
  refine tk 19 32 ?_ (ms 23 1048575) rfl rfl HT_ HW_ (by kernel_rfl) (fun _ _ _ h => h) (by rfl) ?_ hHeld ?_ ?_ ?_
  rotate_left
  ·rintro w' ⟨s0, s1, s2, s3, s4, s5, s6, s7, s8⟩
   go_simp
   with_reducible rfl
  rotate_left
  ·simp only [SX]
   rfl
  refine pu 20 33 ?_ (ms 23 2097151) rfl rfl HT_ (by kernel_rfl) (fun _ _ _ h => h) (by rfl) ?_ ?_ ?_ ?_
  rotate_left
  ·intro w'
   go_simp
   with_reducible rfl
  rotate_left
  ·simp only [SX]
   rfl
  refine pu 21 34 ?_ (ms 23 4194303) rfl rfl HT_ (by kernel_rfl) (fun _ _ _ h => h) (by rfl) ?_ ?_ ?_ ?_
  rotate_left
  ·intro w'
   go_simp
   with_reducible rfl
  rotate_left
  ·simp only [SX]
   rfl
  refine pu 22 35 ?_ (ms 23 8388607) rfl rfl HT_ (by kernel_rfl) (fun _ _ _ h => h) (by rfl) ?_ ?_ ?_ ?_
  rotate_left
  ·intro w'
   go_simp
   with_reducible rfl
  rotate_left
  ·simp only [SX]
   rfl
  refine done_ (done_of HT_.out (by kernel_rfl)) ?_
  try go_wp2
  go_roundg k1
  case measure => have := HK1.out; omega
  case rel => exact ⟨(wrap64 (x8_1 + 1)), (by rfl), H', ⟨by have := HK1.out; omega⟩, ⟨bk BK317⟩, ⟨bl2 HB GE317 GE319⟩⟩

end Go.Proofs.Ytbcedkcjodokkaa.F
