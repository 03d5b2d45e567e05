-- Printed by wip/px/px.py of this claim's repository (the kit's printer, extended there). Lean checks it.
import Derived.Test.YtbcedkcjodokkaaFKinds
import Derived.Test.YtbcedkcjodokkaaFspecl16Ok
import Derived.Test.YtbcedkcjodokkaaFspecl1Copy
namespace Go.Proofs.Ytbcedkcjodokkaa.F
open Go.RowKit Go.Proofs.YtbcedkcjodokkaaW.PrintWords Go.Proofs.YtbcedkcjodokkaaW.PrintLast Go.Proofs.YtbcedkcjodokkaaW.PrintMore
attribute [local go_sem] max2_int min2_int max_two min_two max_three min_three max_four min_four   -- for this text's walks alone
set_option linter.unusedVariables false
set_option linter.unusedSimpArgs false

/-! ### spec_LiveOver: function 13 -/
def spec_LiveOver.l0 : Nat → Int → Int → Int → List (S65) → List (S30) → Int → List (S65) → List (S30) → Option (Int × (List (S65)) × (List (S30)) × Bool)
 | 0, _, _, _, _, _, _, _, _ => none
 | k + 1, x1, x7, x548000, x548001, x548002, x555000, x555001, x555002 => if x7 < (x548002.length : Int) then (if 0 ≤ x7 then (if ((rd_T30 x548002 x7).f0) = x1 then (spec_LiveOver.l0 k x1 (wrap64 (x7 + 1)) x548000 x548001 x548002 x555000 x555001 x555002) else (if x555002.length < 5864062014805 then (spec_LiveOver.l0 k x1 (wrap64 (x7 + 1)) x548000 x548001 x548002 x555000 x555001 (x555002 ++ [(⟨(rd_T30 x548002 x7).f0, (rd_T30 x548002 x7).f1, (rd_T30 x548002 x7).f2⟩ : S30)])) else (none))) else (none)) else (some (x555000, x555001, x555002, decide ((x555002.length : Int) < (x548002.length : Int))))
def spec_LiveOver.f (k : Nat) (a0_0 : Int) (l0_1 : List (S65)) (l0_2 : List (S30)) (a1 : Int) : Option (Int × (List (S65)) × (List (S30)) × Bool) := (spec_l16Ok.f k a0_0 l0_1 l0_2).bind fun t549 => (if t549 = true then ((spec_l1Copy.f a0_0 l0_1).bind fun bt550 => (spec_LiveOver.l0 k a1 0 a0_0 l0_1 l0_2 bt550.1 bt550.2 ([] : List (S30)))) else (some (0, ([] : List (S65)), ([] : List (S30)), false)))
theorem spec_LiveOver.mono_l : ∀ k, (∀ y0 y1 y2 y3 y4 y5 y6 y7, LeO (spec_LiveOver.l0 k y0 y1 y2 y3 y4 y5 y6 y7) (spec_LiveOver.l0 (k + 1) y0 y1 y2 y3 y4 y5 y6 y7))
 | 0 => fun _ _ _ _ _ _ _ _ r h => by simp [spec_LiveOver.l0] at h
 | k + 1 => by
  have ih0 := spec_LiveOver.mono_l k
  ·intro y0 y1 y2 y3 y4 y5 y6 y7
   unfold spec_LiveOver.l0
   repeat' first | (with_reducible exact ih0 _ _ _ _ _ _ _ _) | (with_reducible exact LeO.refl _) | (with_reducible refine LeO.ite ?_ ?_)
theorem spec_LiveOver.mono : ∀ a0 a1 a2 a3 k, LeO (spec_LiveOver.f k a0 a1 a2 a3) (spec_LiveOver.f (k + 1) a0 a1 a2 a3) := by
 intro a0 a1 a2 a3 k
 have ih0 := spec_LiveOver.mono_l k
 unfold spec_LiveOver.f
 repeat' first | (with_reducible exact ih0 _ _ _ _ _ _ _ _) | (with_reducible exact spec_l16Ok.mono _ _ _ _) | (with_reducible exact LeO.refl _) | (with_reducible refine LeO.ite ?_ ?_) | (with_reducible refine LeO.bind ?_ (fun _ => ?_))
def spec_LiveOver.T8 : Bool × List (List Nat × List Nat) := (true, [([], []), ([0], [0]), ([], []), ([2], [2]), ([], []), ([3, 4], [3, 4]), ([5], [5]), ([6], [6]), ([1, 7], [1, 7]), ([0, 1, 2, 3, 4, 5, 6, 7, 8], []), ([9, 8, 8, 0, 1, 2, 3, 4, 5, 6, 7, 8], [8, 9])])
def spec_LiveOver.B8 : List Nat := [0, 1, 0, 4, 0, 28, 60, 124, 255, 511, 1023]
theorem spec_LiveOver.tab8 : rtab .any (opsOf Try.f13 8) = spec_LiveOver.T8 := by kernel_rfl
theorem spec_LiveOver.bits8 : waitsOk spec_LiveOver.T8.2 spec_LiveOver.B8 = true := by kernel_rfl
def spec_LiveOver.T9 : Bool × List (List Nat × List Nat) := (true, [([], []), ([], []), ([1], [1]), ([2], [2]), ([], []), ([4], [4]), ([5], [5]), ([3, 6], [3, 6]), ([0, 0], [0]), ([7, 8, 0, 1, 2, 3, 4, 5, 6, 7, 8], [7])])
def spec_LiveOver.B9 : List Nat := [0, 0, 2, 6, 0, 16, 48, 126, 1, 511]
theorem spec_LiveOver.tab9 : rtab .any (opsOf Try.f13 9) = spec_LiveOver.T9 := by kernel_rfl
theorem spec_LiveOver.bits9 : waitsOk spec_LiveOver.T9.2 spec_LiveOver.B9 = true := by kernel_rfl
set_option maxHeartbeats 8000000 in
set_option maxRecDepth 100000 in
theorem spec_LiveOver.calls (k : Nat) (a0_0 : Int) (A0_1 : Option Addr) (c0_1 : Nat) (l0_1 : List (S65)) (A0_2 : Option Addr) (c0_2 : Nat) (l0_2 : List (S30)) (a1 : Int) (r1 : Int) (r2 : List (S65)) (r3 : List (S30)) (r4 : Bool) (w : World) (hr0_1 : Kd.C k65 w A0_1 l0_1.length l0_1) (hc0_1 : l0_1.length ≤ c0_1) (hr0_2 : Kd.C k30 w A0_2 l0_2.length l0_2) (hc0_2 : l0_2.length ≤ c0_2) (h : spec_LiveOver.f k a0_0 l0_1 l0_2 a1 = some (r1, r2, r3, r4)) :
  Calls Try.prog 13 #[.agg #[.int .i64 a0_0, .slice A0_1 l0_1.length c0_1, .slice A0_2 l0_2.length c0_2], .int .i64 a1] w fun e w' => ∃ v1_ v2_ : Value, e = .returned (.tuple #[.agg #[.int .i64 r1, v1_, v2_], .bool r4]) ∧ Kd.R k65 65 w' w.heap.size (fun _ => True) v1_ r2 ∧ Kd.R k30 30 w' w.heap.size (fun _ => True) v2_ r3 ∧ Below w.heap.size w w' := by
 have hu28 := Try.underlying28
 have hu25 := Try.underlying25
 have hu30 := Try.underlying30
 have HR0_1 := ak hr0_1
 have HC0_1 := ak hc0_1
 clear hr0_1 hc0_1
 have HR0_2 := ak hr0_2
 have HC0_2 := ak hc0_2
 clear hr0_2 hc0_2
 have HB := ak (Below.refl w.heap.size w)
 have H : ((spec_l16Ok.f k a0_0 l0_1 l0_2).bind fun t549 => (if t549 = true then ((spec_l1Copy.f a0_0 l0_1).bind fun bt550 => (spec_LiveOver.l0 k a1 0 a0_0 l0_1 l0_2 bt550.1 bt550.2 ([] : List (S30)))) else (some (0, ([] : List (S65)), ([] : List (S30)), false)))) = some (r1, r2, r3, r4) := h
 clear h
 replace H := Option.bind_eq_some_iff.mp H
 obtain ⟨t549, A30, H⟩ := H
 have A3 := ak A30
 clear A30
 by_cases c4 : t549 = true
 rotate_left
 ·replace c4 := Bool.eq_false_iff.mpr c4
  subst c4
  rw [if_neg (show ¬ (false = true) by decide)] at H
  simp only [Option.some.injEq, Prod.mk.injEq] at H
  obtain ⟨rfl, rfl, rfl, rfl⟩ := H
  go_enter Try.func13, Try.ntmps13
  go_wp2_with (first | ((with_reducible refine gate_dst (N := 2) rfl ?_); refine box_event ?hg (N := 2) ?hd (cs := #[.int .i64 a0_0, .slice A0_1 l0_1.length c0_1, .slice A0_2 l0_2.length c0_2]) (t := 28) ?hr ?_; (case hd => rfl); (case hg => rfl); (case hr => (go_simp; done)); intro gb547 hg w40 hbox hb; have BK547 := ak (hbox); have GW547 := ak ((by rw [hg]; exact (below_size (bl HB)) : w.heap.size ≤ gb547)); have GE547 := ak ((by rw [hg]; exact (below_size (bl HB)) : w.heap.size ≤ gb547)); replace HB := ak (below_step (bl HB) hb); clear hb hbox hg) | ((with_reducible refine gate_dst (N := 4) rfl ?_); refine box_event ?hg (N := 4) ?hd (cs := #[.int .i64 0, .slice none 0 0, .slice none 0 0]) (t := 28) ?hr ?_; (case hd => rfl); (case hg => rfl); (case hr => (go_simp; done)); intro gb548 hg w41 hbox hb; have BK548 := ak (hbox); have GW548 := ak ((by rw [hg]; exact (below_size (bl1 HB GE547)) : w.heap.size ≤ gb548)); have GE548 := ak ((by rw [hg]; exact (below_size (bl1 HB GE547)) : w.heap.size ≤ gb548)); replace HB := ak (below_step (bl1 HB GE547) hb); have NB547_548 := ak ((by rw [hg]; exact Nat.ne_of_lt (blk_lt (bk BK547)) : gb547 ≠ gb548)); have NB548_547 := ak ((by rw [hg]; exact Nat.ne_of_gt (blk_lt (bk BK547)) : gb548 ≠ gb547)); replace BK547 := ak (blk_below (bk BK547) hb); clear hb hbox hg; have hnb42 := NB547_548.out; have hnc42 := NB548_547.out; have hcz43_0 := bc w41 BK547 0 (.int .i64 a0_0) rfl; have hcz43_1 := bc w41 BK547 1 (.slice A0_1 l0_1.length c0_1) rfl; have hcz43_2 := bc w41 BK547 2 (.slice A0_2 l0_2.length c0_2) rfl; have hfz43_0 := fz BK547 0; have hfz43_1 := fz BK547 1; have hfz43_2 := fz BK547 2) | ((with_reducible refine gate_callee (f := 21) rfl ?_); refine goesL_ (some 9) rfl rfl Try.func21 (by kernel_rfl) rfl #[.agg #[.int .i64 a0_0, .slice A0_1 l0_1.length c0_1, .slice A0_2 l0_2.length c0_2]] rfl (by (try simp only [List.map_toArray, List.map_cons, List.map_nil]); rfl) ?_; (with_reducible refine (spec_l16Ok.calls k a0_0 _ _ l0_1 _ _ l0_2 false _ ?side1 ?side2 ?side3 ?side4 A3.out).mono ?_); (case side1 => repeat (exact (Kd.C_below HR0_1.out HB.out))); (case side2 => exact HC0_1.out); (case side3 => repeat (exact (Kd.C_below HR0_2.out HB.out))); (case side4 => exact HC0_2.out); rintro e w44 ⟨rfl, hb⟩; refine ⟨_, rfl, ?_⟩; replace BK547 := ak (blk_below (bk BK547) hb); replace BK548 := ak (blk_below (bk BK548) hb); replace HB := ak (below_step (bl2 HB GE547 GE548) hb); (try clear hb); (try clear hb2); (try clear hk); (try clear hi); have hcz45_0 := bc w44 BK548 0 (.int .i64 0) rfl; have hcz45_1 := bc w44 BK548 1 (.slice none 0 0) rfl; have hcz45_2 := bc w44 BK548 2 (.slice none 0 0) rfl; have hfz45_0 := fz BK548 0; have hfz45_1 := fz BK548 1; have hfz45_2 := fz BK548 2))
  refine bodyPost_ret (results_ct rfl _ _ gb548 28 #[.int .i64 0, .slice none 0 0, .slice none 0 0] (0, 0) _ rfl (by refine blk_put (cs := #[.int .i64 0, .slice none 0 0, .slice none 0 0]) ?_ 2 _ rfl; refine blk_put (cs := #[.int .i64 0, .slice none 0 0, .slice none 0 0]) ?_ 1 _ rfl; refine blk_put (cs := #[.int .i64 0, .slice none 0 0, .slice none 0 0]) ?_ 0 _ rfl; exact BK548.out) Try.underlying28 rfl (by kernel_rfl)) rfl ?_
  exact ⟨_, _, by rfl, by exact Kd.R_nil _ _ _ _ _, by exact Kd.R_nil _ _ _ _ _, bl2 HB GE547 GE548⟩
 subst c4
 rw [if_pos rfl] at H
 replace H := Option.bind_eq_some_iff.mp H
 obtain ⟨⟨t550, t551⟩, A50, H⟩ := H
 have A5 := ak A50
 clear A50
 have H' := ak H
 clear H
 go_enter Try.func13, Try.ntmps13
 go_wp2_with (first | ((with_reducible refine gate_dst (N := 2) rfl ?_); refine box_event ?hg (N := 2) ?hd (cs := #[.int .i64 a0_0, .slice A0_1 l0_1.length c0_1, .slice A0_2 l0_2.length c0_2]) (t := 28) ?hr ?_; (case hd => rfl); (case hg => rfl); (case hr => (go_simp; done)); intro gb547 hg w6 hbox hb; have BK547 := ak (hbox); have GW547 := ak ((by rw [hg]; exact (below_size (bl HB)) : w.heap.size ≤ gb547)); have GE547 := ak ((by rw [hg]; exact (below_size (bl HB)) : w.heap.size ≤ gb547)); replace HB := ak (below_step (bl HB) hb); clear hb hbox hg) | ((with_reducible refine gate_dst (N := 4) rfl ?_); refine box_event ?hg (N := 4) ?hd (cs := #[.int .i64 0, .slice none 0 0, .slice none 0 0]) (t := 28) ?hr ?_; (case hd => rfl); (case hg => rfl); (case hr => (go_simp; done)); intro gb548 hg w7 hbox hb; have BK548 := ak (hbox); have GW548 := ak ((by rw [hg]; exact (below_size (bl1 HB GE547)) : w.heap.size ≤ gb548)); have GE548 := ak ((by rw [hg]; exact (below_size (bl1 HB GE547)) : w.heap.size ≤ gb548)); replace HB := ak (below_step (bl1 HB GE547) hb); have NB547_548 := ak ((by rw [hg]; exact Nat.ne_of_lt (blk_lt (bk BK547)) : gb547 ≠ gb548)); have NB548_547 := ak ((by rw [hg]; exact Nat.ne_of_gt (blk_lt (bk BK547)) : gb548 ≠ gb547)); replace BK547 := ak (blk_below (bk BK547) hb); clear hb hbox hg; have hnb8 := NB547_548.out; have hnc8 := NB548_547.out; have hcz9_0 := bc w7 BK547 0 (.int .i64 a0_0) rfl; have hcz9_1 := bc w7 BK547 1 (.slice A0_1 l0_1.length c0_1) rfl; have hcz9_2 := bc w7 BK547 2 (.slice A0_2 l0_2.length c0_2) rfl; have hfz9_0 := fz BK547 0; have hfz9_1 := fz BK547 1; have hfz9_2 := fz BK547 2) | ((with_reducible refine gate_callee (f := 21) rfl ?_); refine goesL_ (some 9) rfl rfl Try.func21 (by kernel_rfl) rfl #[.agg #[.int .i64 a0_0, .slice A0_1 l0_1.length c0_1, .slice A0_2 l0_2.length c0_2]] rfl (by (try simp only [List.map_toArray, List.map_cons, List.map_nil]); rfl) ?_; (with_reducible refine (spec_l16Ok.calls k a0_0 _ _ l0_1 _ _ l0_2 true _ ?side1 ?side2 ?side3 ?side4 A3.out).mono ?_); (case side1 => repeat (exact (Kd.C_below HR0_1.out HB.out))); (case side2 => exact HC0_1.out); (case side3 => repeat (exact (Kd.C_below HR0_2.out HB.out))); (case side4 => exact HC0_2.out); rintro e w10 ⟨rfl, hb⟩; refine ⟨_, rfl, ?_⟩; replace BK547 := ak (blk_below (bk BK547) hb); replace BK548 := ak (blk_below (bk BK548) hb); replace HB := ak (below_step (bl2 HB GE547 GE548) hb); (try clear hb); (try clear hb2); (try clear hk); (try clear hi); have hcz11_0 := bc w10 BK547 0 (.int .i64 a0_0) rfl; have hcz11_1 := bc w10 BK547 1 (.slice A0_1 l0_1.length c0_1) rfl; have hcz11_2 := bc w10 BK547 2 (.slice A0_2 l0_2.length c0_2) rfl; have hfz11_0 := fz BK547 0; have hfz11_1 := fz BK547 1; have hfz11_2 := fz BK547 2) | ((with_reducible refine gate_callee (f := 22) rfl ?_); refine goesL_ (some 14) rfl rfl Try.func22 (by kernel_rfl) rfl #[.agg #[.int .i64 a0_0, .slice A0_1 l0_1.length c0_1]] rfl (by (try simp only [List.map_toArray, List.map_cons, List.map_nil]); rfl) ?_; (with_reducible refine (spec_l1Copy.calls a0_0 _ _ l0_1 t550 t551 _ ?side1 ?side2 A5.out).mono ?_); (case side1 => repeat (exact (Kd.C_below HR0_1.out HB.out))); (case side2 => exact HC0_1.out); rintro e w12 ⟨v552, rfl, ho0, hb⟩; refine ⟨_, rfl, ?_⟩; have HO553 := ak (Kd.R_lower ho0 (below_size (bl2 HB GE547 GE548))); replace BK547 := ak (blk_below (bk BK547) hb); replace BK548 := ak (blk_below (bk BK548) hb); replace HB := ak (below_step (bl2 HB GE547 GE548) hb); (try clear hb); (try clear hb2); (try clear hk); (try clear hi); (try clear ho0); obtain ⟨Ao13, co13, eo13⟩ := Kd.R_slice HO553.out; subst eo13) | ((with_reducible refine gate_dst (N := 6) rfl ?_); refine box_event ?hg (N := 6) ?hd (cs := #[.int .i64 0, .slice none 0 0, .slice none 0 0]) (t := 28) ?hr ?_; (case hd => rfl); (case hg => rfl); (case hr => (go_simp; done)); intro gb554 hg w14 hbox hb; replace HO553 := ak (Kd.R_below (rk HO553) hb); have BK554 := ak (hbox); have GW554 := ak ((by rw [hg]; exact (below_size (bl2 HB GE547 GE548)) : w.heap.size ≤ gb554)); have GE554 := ak ((by rw [hg]; exact (below_size (bl2 HB GE547 GE548)) : w.heap.size ≤ gb554)); replace HB := ak (below_step (bl2 HB GE547 GE548) hb); have NB547_554 := ak ((by rw [hg]; exact Nat.ne_of_lt (blk_lt (bk BK547)) : gb547 ≠ gb554)); have NB554_547 := ak ((by rw [hg]; exact Nat.ne_of_gt (blk_lt (bk BK547)) : gb554 ≠ gb547)); replace BK547 := ak (blk_below (bk BK547) hb); have NB548_554 := ak ((by rw [hg]; exact Nat.ne_of_lt (blk_lt (bk BK548)) : gb548 ≠ gb554)); have NB554_548 := ak ((by rw [hg]; exact Nat.ne_of_gt (blk_lt (bk BK548)) : gb554 ≠ gb548)); replace BK548 := ak (blk_below (bk BK548) hb); clear hb hbox hg; have hnb15 := NB554_547.out; have hnc15 := NB547_554.out; have hnb16 := NB554_548.out; have hnc16 := NB548_554.out; have hcz17_0 := bc w14 BK554 0 (.int .i64 0) rfl; have hcz17_1 := bc w14 BK554 1 (.slice none 0 0) rfl; have hcz17_2 := bc w14 BK554 2 (.slice none 0 0) rfl; have hfz17_0 := fz BK554 0; have hfz17_1 := fz BK554 1; have hfz17_2 := fz BK554 2))
 go_loopg [7] k (fun kq v7 w' => ∃ (x7_1 : Int) (x555002_1 : List (S30)) (u555002 : Value), v7 = .int .i64 x7_1 ∧ Aside0 (spec_LiveOver.l0 kq a1 x7_1 a0_0 l0_1 l0_2 t550 t551 x555002_1 = some (r1, r2, r3, r4)) ∧ Aside0 (kq ≤ k) ∧ Aside0 (Kd.R k65 65 w' w.heap.size (fun _ => True) (.slice Ao13 t551.length co13) t551) ∧ Aside0 (Kd.R k30 30 w' w.heap.size (fun _ => True) u555002 x555002_1) ∧ Aside0 (w'.heap[gb547]? = some (.cells #[.int .i64 a0_0, (.slice A0_1 l0_1.length c0_1), (.slice A0_2 l0_2.length c0_2)] 28 (0, 0))) ∧ Aside0 (w'.heap[gb548]? = some (.cells #[.int .i64 0, (.slice none 0 0), (.slice none 0 0)] 28 (0, 0))) ∧ Aside0 (w'.heap[gb554]? = some (.cells #[.int .i64 t550, (.slice Ao13 t551.length co13), u555002] 28 (0, 0))) ∧ Aside0 (Below w.heap.size w w'))
 case atStart => exact ⟨(0), (([] : List (S30))), (.slice none 0 0), (by rfl), H', ⟨Nat.le_refl _⟩, ⟨by exact Kd.R_mono (Kd.R_far (p := ⟨gb554, 2, none⟩) (Kd.R_far (p := ⟨gb554, 1, none⟩) (Kd.R_far (p := ⟨gb554, 0, none⟩) (Kd.R_types HO553.out BK554.out (by decide)) (fun _ hk => hk.2) (.int .i64 t550)) (fun _ hk => hk.2) (.slice Ao13 t551.length co13)) (fun _ hk => hk.2) (.slice none 0 0)) (fun _ hk => trivial)⟩, ⟨by exact Kd.R_nil _ _ _ _ _⟩, ⟨by refine blk_far ?_ NB547_554.out _; refine blk_far ?_ NB547_554.out _; refine blk_far ?_ NB547_554.out _; exact BK547.out⟩, ⟨by refine blk_far ?_ NB548_554.out _; refine blk_far ?_ NB548_554.out _; refine blk_far ?_ NB548_554.out _; exact BK548.out⟩, ⟨by refine blk_put (cs := #[.int .i64 t550, .slice Ao13 t551.length co13, .slice none 0 0]) ?_ 2 _ rfl; refine blk_put (cs := #[.int .i64 t550, .slice none 0 0, .slice none 0 0]) ?_ 1 _ rfl; refine blk_put (cs := #[.int .i64 0, .slice none 0 0, .slice none 0 0]) ?_ 0 _ rfl; exact BK554.out⟩, ⟨bl3 HB GE547 GE548 GE554⟩⟩
 clear H'
 try clear c1
 try clear c2
 try clear p2
 try clear c4
 try clear c8
 try clear c13
 try clear c15
 try clear c16
 try clear hcz11_0
 try clear hcz11_1
 try clear hcz11_2
 try clear hcz17_0
 try clear hcz17_1
 try clear hcz17_2
 try clear hcz9_0
 try clear hcz9_1
 try clear hcz9_2
 try clear hfz11_0
 try clear hfz11_1
 try clear hfz11_2
 try clear hfz17_0
 try clear hfz17_1
 try clear hfz17_2
 try clear hfz9_0
 try clear hfz9_1
 try clear hfz9_2
 obtain ⟨x7_1, x555002_1, u555002, rfl, HA, HK1, HO_555001, HO_555002, BK547, BK548, BK554, HB⟩ := hrel
 cases gk with
 | zero => exact absurd HA.out (by simp [spec_LiveOver.l0])
 | succ k1 =>
  have H := HA.out
  clear HA
  simp only [spec_LiveOver.l0] at H
  by_cases c18 : x7_1 < (l0_2.length : Int)
  rotate_left
  ·rw [if_neg c18] at H
   have c18b0 : decide (x7_1 < (l0_2.length : Int)) = false := decide_eq_false c18
   clear c18
   simp only [Option.some.injEq, Prod.mk.injEq] at H
   obtain ⟨rfl, rfl, rfl, rfl⟩ := H
   have hnb32 := NB547_548.out
   have hnc32 := NB548_547.out
   have hnb33 := NB547_554.out
   have hnc33 := NB554_547.out
   have hcz34_0 := bc wr BK547 0 (.int .i64 a0_0) rfl
   have hcz34_1 := bc wr BK547 1 (.slice A0_1 l0_1.length c0_1) rfl
   have hcz34_2 := bc wr BK547 2 (.slice A0_2 l0_2.length c0_2) rfl
   have hfz34_0 := fz BK547 0
   have hfz34_1 := fz BK547 1
   have hfz34_2 := fz BK547 2
   try go_wp2
   replace HO_555001 := ak (Kd.R_drew HO_555001.out)
   replace HO_555002 := ak (Kd.R_drew HO_555002.out)
   replace BK547 := ak (blk_drew BK547.out)
   replace BK548 := ak (blk_drew BK548.out)
   replace BK554 := ak (blk_drew BK554.out)
   replace HB := ak (below_drew1 HB.out)
   obtain ⟨Ao36, co36, eo36⟩ := Kd.R_slice HO_555002.out
   (subst eo36)
   refine start_ (n := 10) (S := fun w' => w'.cell? ⟨gb554, 0, none⟩ = some (.int .i64 t550) ∧ w'.cell? ⟨gb554, 1, none⟩ = some (.slice Ao13 t551.length co13) ∧ w'.cell? ⟨gb554, 2, none⟩ = some (.slice Ao36 x555002_1.length co36) ∧ w'.cell? ⟨gb547, 0, none⟩ = some (.int .i64 a0_0) ∧ w'.cell? ⟨gb547, 1, none⟩ = some (.slice A0_1 l0_1.length c0_1) ∧ w'.cell? ⟨gb547, 2, none⟩ = some (.slice A0_2 l0_2.length c0_2)) (ds := []) (ms 10 0) (by kernel_rfl) rfl (by kernel_rfl) ⟨(blk_cell BK554.out 0).trans rfl, (blk_cell BK554.out 1).trans rfl, (blk_cell BK554.out 2).trans rfl, (blk_cell BK547.out 0).trans rfl, (blk_cell BK547.out 1).trans rfl, (blk_cell BK547.out 2).trans rfl⟩ (fun hHeld => ?_); refine with_tabW spec_LiveOver.tab9 spec_LiveOver.bits9 (fun HT_ HW_ => ?_)
   generalize wr.drew = w35 at HO_555001 HO_555002 BK547 BK548 BK554 HB hHeld ⊢
   refine pu 1 42 ?_ (ms 10 2) rfl rfl HT_ (by kernel_rfl) (fun _ _ _ h => h) (by rfl) ?_ ?_ ?_ ?_
   rotate_left
   ·intro w'
    go_simp
    with_reducible rfl
   rotate_left
   ·simp only [SX]
    rfl
   refine pu 4 45 ?_ (ms 10 18) rfl rfl HT_ (by kernel_rfl) (fun _ _ _ h => h) (by rfl) ?_ ?_ ?_ ?_
   rotate_left
   ·intro w'
    go_simp
    with_reducible rfl
   rotate_left
   ·simp only [SX]
    rfl
   refine tk 0 41 ?_ (ms 10 19) rfl rfl HT_ HW_ (by kernel_rfl) (fun _ _ _ h => h) (by rfl) ?_ hHeld ?_ ?_ ?_
   rotate_left
   ·rintro w' ⟨s0, s1, s2, s3, s4, s5⟩
    go_simp
    with_reducible rfl
   rotate_left
   ·simp only [SX]
    rfl
   refine tk 2 43 ?_ (ms 10 23) rfl rfl HT_ HW_ (by kernel_rfl) (fun _ _ _ h => h) (by rfl) ?_ hHeld ?_ ?_ ?_
   rotate_left
   ·rintro w' ⟨s0, s1, s2, s3, s4, s5⟩
    go_simp
    with_reducible rfl
   rotate_left
   ·simp only [SX]
    rfl
   refine pu 3 44 ?_ (ms 10 31) rfl rfl HT_ (by kernel_rfl) (fun _ _ _ h => h) (by rfl) ?_ ?_ ?_ ?_
   rotate_left
   ·intro w'
    go_simp
    with_reducible rfl
   rotate_left
   ·simp only [SX]
    rfl
   refine tk 5 46 ?_ (ms 10 63) rfl rfl HT_ HW_ (by kernel_rfl) (fun _ _ _ h => h) (by rfl) ?_ hHeld ?_ ?_ ?_
   rotate_left
   ·rintro w' ⟨s0, s1, s2, s3, s4, s5⟩
    go_simp
    with_reducible rfl
   rotate_left
   ·simp only [SX]
    rfl
   refine pu 6 47 ?_ (ms 10 127) rfl rfl HT_ (by kernel_rfl) (fun _ _ _ h => h) (by rfl) ?_ ?_ ?_ ?_
   rotate_left
   ·intro w'
    go_simp
    with_reducible rfl
   rotate_left
   ·simp only [SX]
    rfl
   refine pu 7 48 ?_ (ms 10 255) rfl rfl HT_ (by kernel_rfl) (fun _ _ _ h => h) (by rfl) ?_ ?_ ?_ ?_
   rotate_left
   ·intro w'
    go_simp
    with_reducible rfl
   rotate_left
   ·simp only [SX]
    rfl
   refine one_ (i := 8) (N := none) (ms 10 511) rfl rfl (one_of HT_.out (by kernel_rfl)) (by decide) (fun K hK => ?_)
   have hs37 : w35.cell? ⟨gb548, 0, none⟩ = some (.int .i64 0) := (blk_cell BK548.out 0).trans rfl
   have hfs37 := blk_frozen BK548.out 0
   have hns37_0 := NB547_548.out
   have hns37_2 := NB554_548.out
   have hms37_0 := NB548_547.out
   have hms37_2 := NB548_554.out
   have hs38 : w35.cell? ⟨gb548, 1, none⟩ = some (.slice none 0 0) := (blk_cell BK548.out 1).trans rfl
   have hfs38 := blk_frozen BK548.out 1
   have hns38_0 := NB547_548.out
   have hns38_2 := NB554_548.out
   have hms38_0 := NB548_547.out
   have hms38_2 := NB548_554.out
   have hs39 : w35.cell? ⟨gb548, 2, none⟩ = some (.slice none 0 0) := (blk_cell BK548.out 2).trans rfl
   have hfs39 := blk_frozen BK548.out 2
   have hns39_0 := NB547_548.out
   have hns39_2 := NB554_548.out
   have hms39_0 := NB548_547.out
   have hms39_2 := NB548_554.out
   refine skip_ (w1 := ?_) (by rfl) rfl ?_ ?_
   rotate_left
   ·go_simp
    rfl
   refine hK.out _ _ ⟨((cell_far (p := ⟨gb548, _, none⟩) NB554_548.out _).trans (((cell_far (p := ⟨gb548, _, none⟩) NB554_548.out _).trans (((cell_far (p := ⟨gb548, _, none⟩) NB554_548.out _).trans (hHeld.1)))))), ((cell_far (p := ⟨gb548, _, none⟩) NB554_548.out _).trans (((cell_far (p := ⟨gb548, _, none⟩) NB554_548.out _).trans (((cell_far (p := ⟨gb548, _, none⟩) NB554_548.out _).trans (hHeld.2.1)))))), ((cell_far (p := ⟨gb548, _, none⟩) NB554_548.out _).trans (((cell_far (p := ⟨gb548, _, none⟩) NB554_548.out _).trans (((cell_far (p := ⟨gb548, _, none⟩) NB554_548.out _).trans (hHeld.2.2.1)))))), ((cell_far (p := ⟨gb548, _, none⟩) NB547_548.out _).trans (((cell_far (p := ⟨gb548, _, none⟩) NB547_548.out _).trans (((cell_far (p := ⟨gb548, _, none⟩) NB547_548.out _).trans (hHeld.2.2.2.1)))))), ((cell_far (p := ⟨gb548, _, none⟩) NB547_548.out _).trans (((cell_far (p := ⟨gb548, _, none⟩) NB547_548.out _).trans (((cell_far (p := ⟨gb548, _, none⟩) NB547_548.out _).trans (hHeld.2.2.2.2.1)))))), ((cell_far (p := ⟨gb548, _, none⟩) NB547_548.out _).trans (((cell_far (p := ⟨gb548, _, none⟩) NB547_548.out _).trans (((cell_far (p := ⟨gb548, _, none⟩) NB547_548.out _).trans (hHeld.2.2.2.2.2))))))⟩ (fun hHeld => ?_)
   clear hK K
   refine pu 9 5 ?_ (ms 10 1023) rfl rfl HT_ (by kernel_rfl) (fun _ _ _ h => h) (by rfl) ?_ ?_ ?_ ?_
   rotate_left
   ·intro w'
    go_simp
    with_reducible rfl
   rotate_left
   ·simp only [SX]
    rfl
   refine done_ (done_of HT_.out (by kernel_rfl)) ?_
   try go_wp2
   refine bodyPost_ret (results_ct rfl _ _ gb548 28 #[.int .i64 t550, .slice Ao13 t551.length co13, .slice Ao36 x555002_1.length co36] (0, 0) _ rfl (by refine blk_put (cs := #[.int .i64 t550, .slice Ao13 t551.length co13, .slice none 0 0]) ?_ 2 _ rfl; refine blk_put (cs := #[.int .i64 t550, .slice none 0 0, .slice none 0 0]) ?_ 1 _ rfl; refine blk_put (cs := #[.int .i64 0, .slice none 0 0, .slice none 0 0]) ?_ 0 _ rfl; exact BK548.out) Try.underlying28 rfl (by kernel_rfl)) rfl ?_
   exact ⟨_, _, by (simp [errW_none, errW_some] <;> exact ⟨rfl, rfl⟩), by exact Kd.R_mono (Kd.R_far (p := ⟨gb548, 2, none⟩) (Kd.R_far (p := ⟨gb548, 1, none⟩) (Kd.R_far (p := ⟨gb548, 0, none⟩) (Kd.R_types HO_555001.out BK548.out (by decide)) (fun _ hk => hk.2) (.int .i64 t550)) (fun _ hk => hk.2) (.slice Ao13 t551.length co13)) (fun _ hk => hk.2) (.slice Ao36 x555002_1.length co36)) (fun _ hk => trivial), by exact Kd.R_mono (Kd.R_far (p := ⟨gb548, 2, none⟩) (Kd.R_far (p := ⟨gb548, 1, none⟩) (Kd.R_far (p := ⟨gb548, 0, none⟩) (Kd.R_types HO_555002.out BK548.out (by decide)) (fun _ hk => hk.2) (.int .i64 t550)) (fun _ hk => hk.2) (.slice Ao13 t551.length co13)) (fun _ hk => hk.2) (.slice Ao36 x555002_1.length co36)) (fun _ hk => trivial), bl3 HB GE547 GE548 GE554⟩
  rw [if_pos c18] at H
  have c18b0 : decide (x7_1 < (l0_2.length : Int)) = true := decide_eq_true c18
  clear c18
  by_cases c19 : 0 ≤ x7_1
  rotate_left
  ·rw [if_neg c19] at H
   exact absurd H (by simp)
  rw [if_pos c19] at H
  have c19b0 : decide (0 ≤ x7_1) = true := decide_eq_true c19
  clear c19
  by_cases c20 : ((rd_T30 l0_2 x7_1).f0) = a1
  ·rw [if_pos c20] at H
   have c20b0 : (((rd_T30 l0_2 x7_1).f0) == a1) = true := beq_iff_eq.mpr c20
   have c20b1 : (((rd_T30 l0_2 x7_1).f0) != a1) = false := bne_eq_false_iff_eq.mpr c20
   clear c20
   have H' := ak H
   clear H
   have hnb21 := NB547_548.out
   have hnc21 := NB548_547.out
   have hnb22 := NB547_554.out
   have hnc22 := NB554_547.out
   have hcz23_0 := bc wr BK547 0 (.int .i64 a0_0) rfl
   have hcz23_1 := bc wr BK547 1 (.slice A0_1 l0_1.length c0_1) rfl
   have hcz23_2 := bc wr BK547 2 (.slice A0_2 l0_2.length c0_2) rfl
   have hfz23_0 := fz BK547 0
   have hfz23_1 := fz BK547 1
   have hfz23_2 := fz BK547 2
   have p555 : 0 ≤ (x7_1 : Int) := oT (by (with_reducible assumption))
   have q555 : x7_1 < (l0_2.length : Int) := oT (by (with_reducible assumption))
   obtain ⟨ad555, e555, hx555_0, hx555_1, hx555_2⟩ := at_T30 HR0_2.out x7_1 p555 q555
   cases e555
   replace hx555_0 := hcb HB.out hx555_0
   replace hx555_1 := hcb HB.out hx555_1
   replace hx555_2 := hcb HB.out hx555_2
   replace p555 := eq_true p555
   replace q555 := eq_true q555
   go_wp2
   go_roundg k1
   case measure => have := HK1.out; omega
   case rel => exact ⟨(wrap64 (x7_1 + 1)), (x555002_1), (u555002), (by rfl), H', ⟨by have := HK1.out; omega⟩, ⟨rk HO_555001⟩, ⟨rk HO_555002⟩, ⟨bk BK547⟩, ⟨bk BK548⟩, ⟨bk BK554⟩, ⟨bl3 HB GE547 GE548 GE554⟩⟩
  rw [if_neg c20] at H
  have c20b0 : (((rd_T30 l0_2 x7_1).f0) == a1) = false := beq_eq_false_iff_ne.mpr c20
  have c20b1 : (((rd_T30 l0_2 x7_1).f0) != a1) = true := bne_iff_ne.mpr c20
  by_cases c24 : x555002_1.length < 5864062014805
  rotate_left
  ·rw [if_neg c24] at H
   exact absurd H (by simp)
  rw [if_pos c24] at H
  have LMc24 := ak c24
  clear c24
  obtain ⟨y557, hy557⟩ : ∃ y_ : List (S30), y_ = (x555002_1 ++ [(⟨(rd_T30 l0_2 x7_1).f0, (rd_T30 l0_2 x7_1).f1, (rd_T30 l0_2 x7_1).f2⟩ : S30)]) := ⟨_, rfl⟩
  replace H : (spec_LiveOver.l0 k1 a1 (wrap64 (x7_1 + 1)) a0_0 l0_1 l0_2 t550 t551 y557) = some (r1, r2, r3, r4) := by (rw [hy557]; with_reducible exact H)
  have Ny557 := ak hy557
  clear hy557
  have H' := ak H
  clear H
  have hnb25 := NB547_548.out
  have hnc25 := NB548_547.out
  have hnb26 := NB547_554.out
  have hnc26 := NB554_547.out
  have hcz27_0 := bc wr BK547 0 (.int .i64 a0_0) rfl
  have hcz27_1 := bc wr BK547 1 (.slice A0_1 l0_1.length c0_1) rfl
  have hcz27_2 := bc wr BK547 2 (.slice A0_2 l0_2.length c0_2) rfl
  have hfz27_0 := fz BK547 0
  have hfz27_1 := fz BK547 1
  have hfz27_2 := fz BK547 2
  have p555 : 0 ≤ (x7_1 : Int) := oT (by (with_reducible assumption))
  have q555 : x7_1 < (l0_2.length : Int) := oT (by (with_reducible assumption))
  obtain ⟨ad555, e555, hx555_0, hx555_1, hx555_2⟩ := at_T30 HR0_2.out x7_1 p555 q555
  cases e555
  replace hx555_0 := hcb HB.out hx555_0
  replace hx555_1 := hcb HB.out hx555_1
  replace hx555_2 := hcb HB.out hx555_2
  replace p555 := eq_true p555
  replace q555 := eq_true q555
  try go_wp2
  replace HO_555001 := ak (Kd.R_drew HO_555001.out)
  replace HO_555002 := ak (Kd.R_drew HO_555002.out)
  replace BK547 := ak (blk_drew BK547.out)
  replace BK548 := ak (blk_drew BK548.out)
  replace BK554 := ak (blk_drew BK554.out)
  replace HB := ak (below_drew1 HB.out)
  have p556 : 0 ≤ (x7_1 : Int) := oT (by (with_reducible assumption))
  have q556 : x7_1 < (l0_2.length : Int) := oT (by (with_reducible assumption))
  obtain ⟨ad556, e556, hx556_0, hx556_1, hx556_2⟩ := at_T30 HR0_2.out x7_1 p556 q556
  have hw556_2 := hx556_2
  have hw556_1 := hx556_1
  have hw556_0 := hx556_0
  obtain rfl : ad555 = ad556 := (by injection e556)
  replace hx556_0 := hcb HB.out hx556_0
  replace hx556_1 := hcb HB.out hx556_1
  replace hx556_2 := hcb HB.out hx556_2
  replace p556 := eq_true p556
  replace q556 := eq_true q556
  refine start_ (n := 11) (S := fun w' => w'.cell? ⟨gb554, 0, none⟩ = some (.int .i64 t550) ∧ w'.cell? ⟨gb554, 1, none⟩ = some (.slice Ao13 t551.length co13) ∧ w'.cell? ⟨gb554, 2, none⟩ = some (u555002) ∧ w'.cell? ⟨gb547, 0, none⟩ = some (.int .i64 a0_0) ∧ w'.cell? ⟨gb547, 1, none⟩ = some (.slice A0_1 l0_1.length c0_1) ∧ w'.cell? ⟨gb547, 2, none⟩ = some (.slice (some ad555) l0_2.length c0_2) ∧ w'.cell? (ad555.add ((x7_1).toNat * 3)) = some (.int .i64 ((rd_T30 l0_2 x7_1).f0)) ∧ w'.cell? ⟨(ad555.add ((x7_1).toNat * 3)).block, (ad555.add ((x7_1).toNat * 3)).off + 1, none⟩ = some (.int .i64 ((rd_T30 l0_2 x7_1).f1)) ∧ w'.cell? ⟨(ad555.add ((x7_1).toNat * 3)).block, (ad555.add ((x7_1).toNat * 3)).off + 2, none⟩ = some (.int .i64 ((rd_T30 l0_2 x7_1).f2))) (ds := [10]) (ms 11 0) (by kernel_rfl) rfl (by kernel_rfl) ⟨(blk_cell BK554.out 0).trans rfl, (blk_cell BK554.out 1).trans rfl, (blk_cell BK554.out 2).trans rfl, (blk_cell BK547.out 0).trans rfl, (blk_cell BK547.out 1).trans rfl, (blk_cell BK547.out 2).trans rfl, ((HB.out.cell (World.block_lt_of_cell? w _ hw556_0)).trans hw556_0), ((HB.out.cell (World.block_lt_of_cell? w _ hw556_1)).trans hw556_1), ((HB.out.cell (World.block_lt_of_cell? w _ hw556_2)).trans hw556_2)⟩ (fun hHeld => ?_); refine with_tabW spec_LiveOver.tab8 spec_LiveOver.bits8 (fun HT_ HW_ => ?_)
  generalize wr.drew = w28 at HO_555001 HO_555002 BK547 BK548 BK554 HB hx556_0 hx556_1 hx556_2 hHeld ⊢
  refine pu 0 31 ?_ (ms 11 1) rfl rfl HT_ (by kernel_rfl) (fun _ _ _ h => h) (by rfl) ?_ ?_ ?_ ?_
  rotate_left
  ·intro w'
   go_simp
   with_reducible rfl
  rotate_left
  ·simp only [SX]
   rfl
  refine pu 2 33 ?_ (ms 11 5) rfl rfl HT_ (by kernel_rfl) (fun _ _ _ h => h) (by rfl) ?_ ?_ ?_ ?_
  rotate_left
  ·intro w'
   go_simp
   with_reducible rfl
  rotate_left
  ·simp only [SX]
   rfl
  refine pu 4 35 ?_ (ms 11 21) rfl rfl HT_ (by kernel_rfl) (fun _ _ _ h => h) (by rfl) ?_ ?_ ?_ ?_
  rotate_left
  ·intro w'
   go_simp
   with_reducible rfl
  rotate_left
  ·simp only [SX]
   rfl
  refine tk 1 32 ?_ (ms 11 23) rfl rfl HT_ HW_ (by kernel_rfl) (fun _ _ _ h => h) (by rfl) ?_ hHeld ?_ ?_ ?_
  rotate_left
  ·rintro w' ⟨s0, s1, s2, s3, s4, s5, s6, s7, s8⟩
   go_simp
   with_reducible rfl
  rotate_left
  ·simp only [SX]
   rfl
  refine tk 3 34 ?_ (ms 11 31) rfl rfl HT_ HW_ (by kernel_rfl) (fun _ _ _ h => h) (by rfl) ?_ hHeld ?_ ?_ ?_
  rotate_left
  ·rintro w' ⟨s0, s1, s2, s3, s4, s5, s6, s7, s8⟩
   go_simp
   with_reducible rfl
  rotate_left
  ·simp only [SX]
   rfl
  refine pu 5 36 ?_ (ms 11 63) rfl rfl HT_ (by kernel_rfl) (fun _ _ _ h => h) (by rfl) ?_ ?_ ?_ ?_
  rotate_left
  ·intro w'
   go_simp
   with_reducible rfl
  rotate_left
  ·simp only [SX]
   rfl
  refine tk 6 37 ?_ (ms 11 127) rfl rfl HT_ HW_ (by kernel_rfl) (fun _ _ _ h => h) (by rfl) ?_ hHeld ?_ ?_ ?_
  rotate_left
  ·rintro w' ⟨s0, s1, s2, s3, s4, s5, s6, s7, s8⟩
   go_simp
   with_reducible rfl
  rotate_left
  ·simp only [SX]
   rfl
  refine one_ (i := 7) (N := some 38) (ms 11 255) rfl rfl (one_of HT_.out (by kernel_rfl)) (by decide) (fun K hK => ?_)
  refine value_ (w1 := ?_) (v := ?_) (by rfl) rfl ?_ ?_
  rotate_left 2
  ·go_simp
   constructor
   rotate_left
   ·rfl
   rfl
  refine hK.out _ _ ⟨(blk_cell (blk_alloc BK554.out _) 0).trans rfl, (blk_cell (blk_alloc BK554.out _) 1).trans rfl, (blk_cell (blk_alloc BK554.out _) 2).trans rfl, (blk_cell (blk_alloc BK547.out _) 0).trans rfl, (blk_cell (blk_alloc BK547.out _) 1).trans rfl, (blk_cell (blk_alloc BK547.out _) 2).trans rfl, (World.cell?_alloc_lt _ _ _ (World.block_lt_of_cell? _ _ (((HB.out.cell (World.block_lt_of_cell? w _ hw556_0)).trans hw556_0)))).trans (((HB.out.cell (World.block_lt_of_cell? w _ hw556_0)).trans hw556_0)), (World.cell?_alloc_lt _ _ _ (World.block_lt_of_cell? _ _ (((HB.out.cell (World.block_lt_of_cell? w _ hw556_1)).trans hw556_1)))).trans (((HB.out.cell (World.block_lt_of_cell? w _ hw556_1)).trans hw556_1)), (World.cell?_alloc_lt _ _ _ (World.block_lt_of_cell? _ _ (((HB.out.cell (World.block_lt_of_cell? w _ hw556_2)).trans hw556_2)))).trans (((HB.out.cell (World.block_lt_of_cell? w _ hw556_2)).trans hw556_2))⟩ (fun hHeld => ?_)
  clear hK K
  refine norm_ (a' := ?_) ?_ ?_
  rotate_left
  ·show Act.put _ (some 38) _ = _
   simp only [SX]
   rfl
  refine one_ (i := 8) (N := some 39) (ms 11 511) rfl rfl (one_of HT_.out (by kernel_rfl)) (by decide) (fun K hK => ?_)
  refine Kd.R_append_step k30 (w0 := w) w.heap.size (by rfl) (.tmp 32) (.tmp 38) 26 30 (.agg #[(.int .i64 0), (.int .i64 0), (.int .i64 0)]) 24 rfl Try.underlying26 info30 rfl (by decide) (by omega) u555002 x555002_1 (⟨(rd_T30 l0_2 x7_1).f0, (rd_T30 l0_2 x7_1).f1, (rd_T30 l0_2 x7_1).f2⟩ : S30) [.int .i64 ((rd_T30 l0_2 x7_1).f0), .int .i64 ((rd_T30 l0_2 x7_1).f1), .int .i64 ((rd_T30 l0_2 x7_1).f2)] (fun _ => True) (fun _ => False) rfl rfl ?aP (fun _ hk => hk.elim) ?aF ?aO ?aB ?aS ?aL ?_
  (case aP => exact k30_mkM _ _ _ (⟨(rd_T30 l0_2 x7_1).f0, (rd_T30 l0_2 x7_1).f1, (rd_T30 l0_2 x7_1).f2⟩ : S30))
  (case aB => exact (bl3 HB GE547 GE548 GE554))
  (case aF => exact (fun _ _ => trivial))
  (case aO => exact (rk HO_555002))
  (case aS => exact (below_size (bl3 HB GE547 GE548 GE554)))
  (case aL => have := LMc24.out; omega)
  intro v558 w29 ho hb hg hat
  rw [← Ny557.out] at ho
  have n0_ := ak (Kd.R_over' (rk HO_555001) (Kd.R_typed (rk HO_555002)) (by decide) hg)
  have n1_ := ak (blk_grown (bk BK547) hg (Kd.R_ne HO_555002.out BK547.out (by decide)))
  have n2_ := ak (blk_grown (bk BK548) hg (Kd.R_ne HO_555002.out BK548.out (by decide)))
  have n3_ := ak (blk_grown (bk BK554) hg (Kd.R_ne HO_555002.out BK554.out (by decide)))
  have n4_ := ak (hb)
  have n5_ := ak (ho)
  clear HO_555001
  clear BK547
  clear BK548
  clear BK554
  clear HB
  clear HO_555002
  have HO_555001 := n0_
  have BK547 := n1_
  have BK548 := n2_
  have BK554 := n3_
  have HB := n4_
  have HO559 := n5_
  clear n0_ n1_ n2_ n3_ n4_ n5_
  clear ho hb hg hat
  obtain ⟨Ao30, co30, eo30⟩ := Kd.R_slice HO559.out
  (subst eo30)
  refine hK.out _ _ ⟨(blk_cell BK554.out 0).trans rfl, (blk_cell BK554.out 1).trans rfl, (blk_cell BK554.out 2).trans rfl, (blk_cell BK547.out 0).trans rfl, (blk_cell BK547.out 1).trans rfl, (blk_cell BK547.out 2).trans rfl, ((HB.out.cell (World.block_lt_of_cell? w _ hw556_0)).trans hw556_0), ((HB.out.cell (World.block_lt_of_cell? w _ hw556_1)).trans hw556_1), ((HB.out.cell (World.block_lt_of_cell? w _ hw556_2)).trans hw556_2)⟩ (fun hHeld => ?_)
  clear hK K
  refine norm_ (a' := ?_) ?_ ?_
  rotate_left
  ·show Act.put _ (some 39) _ = _
   simp only [SX]
   rfl
  refine pu 9 40 ?_ (ms 11 1023) rfl rfl HT_ (by kernel_rfl) (fun _ _ _ h => h) (by rfl) ?_ ?_ ?_ ?_
  rotate_left
  ·intro w'
   go_simp
   with_reducible rfl
  rotate_left
  ·simp only [SX]
   rfl
  refine last_ (i := 10) (N := none) (ms 11 2047) rfl rfl (one_of HT_.out (by kernel_rfl)) (by decide) (fun K hK => ?_)
  have hs31 : w29.cell? ⟨gb554, 2, none⟩ = some (u555002) := (blk_cell BK554.out 2).trans rfl
  have hfs31 := blk_frozen BK554.out 2
  have hns31_0 := NB547_554.out
  have hns31_1 := NB548_554.out
  have hms31_0 := NB554_547.out
  have hms31_1 := NB554_548.out
  refine skip_ (w1 := ?_) (by rfl) rfl ?_ ?_
  rotate_left
  ·go_simp
   rfl
  refine hK.out _ _ ?_
  clear hK K
  refine done_ (done_of HT_.out (by kernel_rfl)) ?_
  try go_wp2
  go_roundg k1
  case measure => have := HK1.out; omega
  case rel => exact ⟨(wrap64 (x7_1 + 1)), (y557), (.slice Ao30 y557.length co30), (by rfl), H', ⟨by have := HK1.out; omega⟩, ⟨by exact Kd.R_mono (Kd.R_far (p := ⟨gb554, 2, none⟩) (Kd.R_types HO_555001.out BK554.out (by decide)) (fun _ hk => hk.2) (.slice Ao30 y557.length co30)) (fun _ hk => trivial)⟩, ⟨by exact Kd.R_mono (Kd.R_far (p := ⟨gb554, 2, none⟩) (Kd.R_types HO559.out BK554.out (by decide)) (fun _ hk => hk.2) (.slice Ao30 y557.length co30)) (fun _ hk => trivial)⟩, ⟨by refine blk_far ?_ NB547_554.out _; exact BK547.out⟩, ⟨by refine blk_far ?_ NB548_554.out _; exact BK548.out⟩, ⟨by refine blk_put (cs := #[.int .i64 t550, .slice Ao13 t551.length co13, u555002]) ?_ 2 _ rfl; exact BK554.out⟩, ⟨bl3 HB GE547 GE548 GE554⟩⟩

end Go.Proofs.Ytbcedkcjodokkaa.F
