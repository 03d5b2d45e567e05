-- Printed by wip/px/px.py of this claim's repository (the kit's printer, extended there). Lean checks it.
import Derived.Test.YtbappbbljncdeaaFKinds
import Derived.Test.YtbappbbljncdeaaFspecl16Ok
import Derived.Test.YtbappbbljncdeaaFspecl1Copy
namespace Go.Proofs.Ytbappbbljncdeaa.F
open Go.RowKit Go.Proofs.YtbappbbljncdeaaW.PrintWords Go.Proofs.YtbappbbljncdeaaW.PrintLast Go.Proofs.YtbappbbljncdeaaW.PrintMore
attribute [local go_sem] max2_int min2_int max_two min_two max_three min_three max_four min_four   -- for this text's walks alone
set_option linter.unusedVariables false
set_option linter.unusedSimpArgs false

/-! ### spec_LiveOver: function 43 -/
def spec_LiveOver.l0 : Nat → Int → Int → Int → List (S100) → List (S70) → Int → List (S100) → List (S70) → Option (Int × (List (S100)) × (List (S70)) × Bool)
 | 0, _, _, _, _, _, _, _, _ => none
 | k + 1, x1, x7, x962000, x962001, x962002, x969000, x969001, x969002 => if x7 < (x962002.length : Int) then (if 0 ≤ x7 then (if ((rd_T70 x962002 x7).f0) = x1 then (spec_LiveOver.l0 k x1 (wrap64 (x7 + 1)) x962000 x962001 x962002 x969000 x969001 x969002) else (if x969002.length < 5864062014805 then (spec_LiveOver.l0 k x1 (wrap64 (x7 + 1)) x962000 x962001 x962002 x969000 x969001 (x969002 ++ [(⟨(rd_T70 x962002 x7).f0, (rd_T70 x962002 x7).f1, (rd_T70 x962002 x7).f2⟩ : S70)])) else (none))) else (none)) else (some (x969000, x969001, x969002, decide ((x969002.length : Int) < (x962002.length : Int))))
def spec_LiveOver.f (k : Nat) (a0_0 : Int) (l0_1 : List (S100)) (l0_2 : List (S70)) (a1 : Int) : Option (Int × (List (S100)) × (List (S70)) × Bool) := (spec_l16Ok.f k a0_0 l0_1 l0_2).bind fun t963 => (if t963 = true then ((spec_l1Copy.f a0_0 l0_1).bind fun bt964 => (spec_LiveOver.l0 k a1 0 a0_0 l0_1 l0_2 bt964.1 bt964.2 ([] : List (S70)))) else (some (0, ([] : List (S100)), ([] : List (S70)), false)))
theorem spec_LiveOver.mono_l : ∀ k, (∀ y0 y1 y2 y3 y4 y5 y6 y7, LeO (spec_LiveOver.l0 k y0 y1 y2 y3 y4 y5 y6 y7) (spec_LiveOver.l0 (k + 1) y0 y1 y2 y3 y4 y5 y6 y7))
 | 0 => fun _ _ _ _ _ _ _ _ r h => by simp [spec_LiveOver.l0] at h
 | k + 1 => by
  have ih0 := spec_LiveOver.mono_l k
  ·intro y0 y1 y2 y3 y4 y5 y6 y7
   unfold spec_LiveOver.l0
   repeat' first
   | (with_reducible exact ih0 _ _ _ _ _ _ _ _)
   | (with_reducible exact spec_l16Ok.mono _ _ _ _)
   | (with_reducible exact LeO.refl _)
   | (with_reducible exact LeO.none _)
   | (with_reducible refine LeO.ite ?_ ?_)
   | (with_reducible refine LeO.bind ?_ (fun _ => ?_))
   | exact ih0 _ _ _ _ _ _ _ _
   | exact spec_l16Ok.mono _ _ _ _
   | exact LeO.none _
   | refine LeO.ite ?_ ?_
   | refine LeO.bind ?_ (fun _ => ?_)
theorem spec_LiveOver.mono : ∀ a0 a1 a2 a3 k, LeO (spec_LiveOver.f k a0 a1 a2 a3) (spec_LiveOver.f (k + 1) a0 a1 a2 a3) := by
 intro a0 a1 a2 a3 k
 have ih0 := spec_LiveOver.mono_l k
 unfold spec_LiveOver.f
 repeat' first
   | (with_reducible exact ih0 _ _ _ _ _ _ _ _)
   | (with_reducible exact spec_l16Ok.mono _ _ _ _)
   | (with_reducible exact LeO.refl _)
   | (with_reducible exact LeO.none _)
   | (with_reducible refine LeO.ite ?_ ?_)
   | (with_reducible refine LeO.bind ?_ (fun _ => ?_))
   | exact ih0 _ _ _ _ _ _ _ _
   | exact spec_l16Ok.mono _ _ _ _
   | exact LeO.none _
   | refine LeO.ite ?_ ?_
   | refine LeO.bind ?_ (fun _ => ?_)
def spec_LiveOver.T8 : Bool × List (List Nat × List Nat) := (true, [([], []), ([0], [0]), ([], []), ([2], [2]), ([], []), ([3, 4], [3, 4]), ([5], [5]), ([6], [6]), ([1, 7], [1, 7]), ([0, 1, 2, 3, 4, 5, 6, 7, 8], []), ([9, 8, 8, 0, 1, 2, 3, 4, 5, 6, 7, 8], [8, 9])])
def spec_LiveOver.B8 : List Nat := [0, 1, 0, 4, 0, 28, 60, 124, 255, 511, 1023]
theorem spec_LiveOver.tab8 : rtab .any (opsOf Try.f43 8) = spec_LiveOver.T8 := by kernel_rfl
theorem spec_LiveOver.bits8 : waitsOk spec_LiveOver.T8.2 spec_LiveOver.B8 = true := by kernel_rfl
def spec_LiveOver.T9 : Bool × List (List Nat × List Nat) := (true, [([], []), ([], []), ([1], [1]), ([2], [2]), ([], []), ([4], [4]), ([5], [5]), ([3, 6], [3, 6]), ([0, 0], [0]), ([7, 8, 0, 1, 2, 3, 4, 5, 6, 7, 8], [7])])
def spec_LiveOver.B9 : List Nat := [0, 0, 2, 6, 0, 16, 48, 126, 1, 511]
theorem spec_LiveOver.tab9 : rtab .any (opsOf Try.f43 9) = spec_LiveOver.T9 := by kernel_rfl
theorem spec_LiveOver.bits9 : waitsOk spec_LiveOver.T9.2 spec_LiveOver.B9 = true := by kernel_rfl
set_option maxHeartbeats 8000000 in
set_option maxRecDepth 100000 in
theorem spec_LiveOver.calls (k : Nat) (a0_0 : Int) (A0_1 : Option Addr) (c0_1 : Nat) (l0_1 : List (S100)) (A0_2 : Option Addr) (c0_2 : Nat) (l0_2 : List (S70)) (a1 : Int) (r1 : Int) (r2 : List (S100)) (r3 : List (S70)) (r4 : Bool) (w : World) (hr0_1 : Kd.C k100 w A0_1 l0_1.length l0_1) (hc0_1 : l0_1.length ≤ c0_1) (hr0_2 : Kd.C k70 w A0_2 l0_2.length l0_2) (hc0_2 : l0_2.length ≤ c0_2) (h : spec_LiveOver.f k a0_0 l0_1 l0_2 a1 = some (r1, r2, r3, r4)) :
  Calls Try.prog 43 #[.agg #[.int .i64 a0_0, .slice A0_1 l0_1.length c0_1, .slice A0_2 l0_2.length c0_2], .int .i64 a1] w fun e w' => ∃ v1_ v2_ : Value, e = .returned (.tuple #[.agg #[.int .i64 r1, v1_, v2_], .bool r4]) ∧ Kd.R k100 100 w' w.heap.size (fun _ => True) v1_ r2 ∧ Kd.R k70 70 w' w.heap.size (fun _ => True) v2_ r3 ∧ Below w.heap.size w w' := by
 have hu49 := Try.underlying49
 have hu30 := Try.underlying30
 have hu70 := Try.underlying70
 have HR0_1 := ak hr0_1
 have HC0_1 := ak hc0_1
 clear hr0_1 hc0_1
 have HR0_2 := ak hr0_2
 have HC0_2 := ak hc0_2
 clear hr0_2 hc0_2
 have HB := ak (Below.refl w.heap.size w)
 have H : ((spec_l16Ok.f k a0_0 l0_1 l0_2).bind fun t963 => (if t963 = true then ((spec_l1Copy.f a0_0 l0_1).bind fun bt964 => (spec_LiveOver.l0 k a1 0 a0_0 l0_1 l0_2 bt964.1 bt964.2 ([] : List (S70)))) else (some (0, ([] : List (S100)), ([] : List (S70)), false)))) = some (r1, r2, r3, r4) := h
 clear h
 replace H := Option.bind_eq_some_iff.mp H
 obtain ⟨t963, A30, H⟩ := H
 have A3 := ak A30
 clear A30
 by_cases c4 : t963 = true
 rotate_left
 ·replace c4 := Bool.eq_false_iff.mpr c4
  subst c4
  rw [if_neg (show ¬ (false = true) by decide)] at H
  simp only [Option.some.injEq, Prod.mk.injEq] at H
  obtain ⟨rfl, rfl, rfl, rfl⟩ := H
  go_enter Try.func43, Try.ntmps43
  go_wp2_with (first | ((with_reducible refine gate_dst (N := 2) rfl ?_); refine box_event ?hg (N := 2) ?hd (cs := #[.int .i64 a0_0, .slice A0_1 l0_1.length c0_1, .slice A0_2 l0_2.length c0_2]) (t := 49) ?hr ?_; (case hd => rfl); (case hg => rfl); (case hr => first | (go_simp; done) | (go_simp; rfl)); intro gb961 hg w40 hbox hb; have BK961 := ak (hbox); have GW961 := ak ((by rw [hg]; exact (below_size (bl HB)) : w.heap.size ≤ gb961)); have GE961 := ak ((by rw [hg]; exact (below_size (bl HB)) : w.heap.size ≤ gb961)); replace HB := ak (below_step (bl HB) hb); clear hb hbox hg) | ((with_reducible refine gate_dst (N := 4) rfl ?_); refine box_event ?hg (N := 4) ?hd (cs := #[.int .i64 0, .slice none 0 0, .slice none 0 0]) (t := 49) ?hr ?_; (case hd => rfl); (case hg => rfl); (case hr => first | (go_simp; done) | (go_simp; rfl)); intro gb962 hg w41 hbox hb; have BK962 := ak (hbox); have GW962 := ak ((by rw [hg]; exact (below_size (bl1 HB GE961)) : w.heap.size ≤ gb962)); have GE962 := ak ((by rw [hg]; exact (below_size (bl1 HB GE961)) : w.heap.size ≤ gb962)); replace HB := ak (below_step (bl1 HB GE961) hb); have NB961_962 := ak ((by rw [hg]; exact Nat.ne_of_lt (blk_lt (bk BK961)) : gb961 ≠ gb962)); have NB962_961 := ak ((by rw [hg]; exact Nat.ne_of_gt (blk_lt (bk BK961)) : gb962 ≠ gb961)); replace BK961 := ak (blk_below (bk BK961) hb); clear hb hbox hg; have hnb42 := NB961_962.out; have hnc42 := NB962_961.out; have hcz43_0 := bc w41 BK961 0 (.int .i64 a0_0) rfl; have hcz43_1 := bc w41 BK961 1 (.slice A0_1 l0_1.length c0_1) rfl; have hcz43_2 := bc w41 BK961 2 (.slice A0_2 l0_2.length c0_2) rfl; have hfz43_0 := fz BK961 0; have hfz43_1 := fz BK961 1; have hfz43_2 := fz BK961 2) | ((with_reducible refine gate_callee (f := 75) rfl ?_); refine goesL_ (some 9) rfl rfl Try.func75 (by kernel_rfl) rfl #[.agg #[.int .i64 a0_0, .slice A0_1 l0_1.length c0_1, .slice A0_2 l0_2.length c0_2]] rfl (by (try simp only [List.map_toArray, List.map_cons, List.map_nil]); first | done | rfl | (simp only [List.length_drop, List.length_take]; rfl)) ?_; (with_reducible refine (spec_l16Ok.calls k a0_0 _ _ l0_1 _ _ l0_2 false _ ?side1 ?side2 ?side3 ?side4 A3.out).mono ?_); (case side1 => repeat (first | exact (Kd.C_below HR0_1.out HB.out) | (with_reducible refine Kd.C_alloc ?_ _) | (with_reducible refine Kd.C_drewN ?_ _) | (with_reducible refine Kd.C_drew ?_))); (case side2 => exact HC0_1.out); (case side3 => repeat (first | exact (Kd.C_below HR0_2.out HB.out) | (with_reducible refine Kd.C_alloc ?_ _) | (with_reducible refine Kd.C_drewN ?_ _) | (with_reducible refine Kd.C_drew ?_))); (case side4 => exact HC0_2.out); rintro e w44 ⟨rfl, hb⟩; refine ⟨_, rfl, ?_⟩; replace BK961 := ak (blk_below (bk BK961) hb); replace BK962 := ak (blk_below (bk BK962) hb); replace HB := ak (below_step (bl2 HB GE961 GE962) hb); (try clear hb); (try clear hb2); (try clear hk); (try clear hi); have hcz45_0 := bc w44 BK962 0 (.int .i64 0) rfl; have hcz45_1 := bc w44 BK962 1 (.slice none 0 0) rfl; have hcz45_2 := bc w44 BK962 2 (.slice none 0 0) rfl; have hfz45_0 := fz BK962 0; have hfz45_1 := fz BK962 1; have hfz45_2 := fz BK962 2))
  refine bodyPost_ret (results_ct rfl _ _ gb962 49 #[.int .i64 0, .slice none 0 0, .slice none 0 0] (0, 0) _ rfl (by (with_reducible repeat (first | refine blk_drewN ?_ _ | refine blk_drew ?_ | refine blk_alloc ?_ _)); refine blk_put (cs := #[.int .i64 0, .slice none 0 0, .slice none 0 0]) ?_ 2 _ rfl; refine blk_put (cs := #[.int .i64 0, .slice none 0 0, .slice none 0 0]) ?_ 1 _ rfl; refine blk_put (cs := #[.int .i64 0, .slice none 0 0, .slice none 0 0]) ?_ 0 _ rfl; (with_reducible repeat (first | refine blk_drewN ?_ _ | refine blk_drew ?_ | refine blk_alloc ?_ _)); exact BK962.out) Try.underlying49 rfl (by kernel_rfl)) rfl ?_
  exact ⟨_, _, by first | rfl | (simp [errW_none, errW_some] <;> rfl) | (simp [errW_none, errW_some] <;> exact ⟨rfl, rfl⟩) | (simp [*, errW_none, errW_some] <;> rfl), by first | exact Kd.R_nil _ _ _ _ _ | exact Kd.N_nil _ _ _ _ _ | exact Kd.V_nil _ _ _ _ _ | exact Kd.Q_nil _ _ _ _ _ | exact Kd.S_nil _ _ _ _ _, by first | exact Kd.R_nil _ _ _ _ _ | exact Kd.N_nil _ _ _ _ _ | exact Kd.V_nil _ _ _ _ _ | exact Kd.Q_nil _ _ _ _ _ | exact Kd.S_nil _ _ _ _ _, bl2 HB GE961 GE962⟩
 subst c4
 rw [if_pos rfl] at H
 replace H := Option.bind_eq_some_iff.mp H
 obtain ⟨⟨t964, t965⟩, A50, H⟩ := H
 have A5 := ak A50
 clear A50
 have H' := ak H
 clear H
 go_enter Try.func43, Try.ntmps43
 go_wp2_with (first | ((with_reducible refine gate_dst (N := 2) rfl ?_); refine box_event ?hg (N := 2) ?hd (cs := #[.int .i64 a0_0, .slice A0_1 l0_1.length c0_1, .slice A0_2 l0_2.length c0_2]) (t := 49) ?hr ?_; (case hd => rfl); (case hg => rfl); (case hr => first | (go_simp; done) | (go_simp; rfl)); intro gb961 hg w6 hbox hb; have BK961 := ak (hbox); have GW961 := ak ((by rw [hg]; exact (below_size (bl HB)) : w.heap.size ≤ gb961)); have GE961 := ak ((by rw [hg]; exact (below_size (bl HB)) : w.heap.size ≤ gb961)); replace HB := ak (below_step (bl HB) hb); clear hb hbox hg) | ((with_reducible refine gate_dst (N := 4) rfl ?_); refine box_event ?hg (N := 4) ?hd (cs := #[.int .i64 0, .slice none 0 0, .slice none 0 0]) (t := 49) ?hr ?_; (case hd => rfl); (case hg => rfl); (case hr => first | (go_simp; done) | (go_simp; rfl)); intro gb962 hg w7 hbox hb; have BK962 := ak (hbox); have GW962 := ak ((by rw [hg]; exact (below_size (bl1 HB GE961)) : w.heap.size ≤ gb962)); have GE962 := ak ((by rw [hg]; exact (below_size (bl1 HB GE961)) : w.heap.size ≤ gb962)); replace HB := ak (below_step (bl1 HB GE961) hb); have NB961_962 := ak ((by rw [hg]; exact Nat.ne_of_lt (blk_lt (bk BK961)) : gb961 ≠ gb962)); have NB962_961 := ak ((by rw [hg]; exact Nat.ne_of_gt (blk_lt (bk BK961)) : gb962 ≠ gb961)); replace BK961 := ak (blk_below (bk BK961) hb); clear hb hbox hg; have hnb8 := NB961_962.out; have hnc8 := NB962_961.out; have hcz9_0 := bc w7 BK961 0 (.int .i64 a0_0) rfl; have hcz9_1 := bc w7 BK961 1 (.slice A0_1 l0_1.length c0_1) rfl; have hcz9_2 := bc w7 BK961 2 (.slice A0_2 l0_2.length c0_2) rfl; have hfz9_0 := fz BK961 0; have hfz9_1 := fz BK961 1; have hfz9_2 := fz BK961 2) | ((with_reducible refine gate_callee (f := 75) rfl ?_); refine goesL_ (some 9) rfl rfl Try.func75 (by kernel_rfl) rfl #[.agg #[.int .i64 a0_0, .slice A0_1 l0_1.length c0_1, .slice A0_2 l0_2.length c0_2]] rfl (by (try simp only [List.map_toArray, List.map_cons, List.map_nil]); first | done | rfl | (simp only [List.length_drop, List.length_take]; rfl)) ?_; (with_reducible refine (spec_l16Ok.calls k a0_0 _ _ l0_1 _ _ l0_2 true _ ?side1 ?side2 ?side3 ?side4 A3.out).mono ?_); (case side1 => repeat (first | exact (Kd.C_below HR0_1.out HB.out) | (with_reducible refine Kd.C_alloc ?_ _) | (with_reducible refine Kd.C_drewN ?_ _) | (with_reducible refine Kd.C_drew ?_))); (case side2 => exact HC0_1.out); (case side3 => repeat (first | exact (Kd.C_below HR0_2.out HB.out) | (with_reducible refine Kd.C_alloc ?_ _) | (with_reducible refine Kd.C_drewN ?_ _) | (with_reducible refine Kd.C_drew ?_))); (case side4 => exact HC0_2.out); rintro e w10 ⟨rfl, hb⟩; refine ⟨_, rfl, ?_⟩; replace BK961 := ak (blk_below (bk BK961) hb); replace BK962 := ak (blk_below (bk BK962) hb); replace HB := ak (below_step (bl2 HB GE961 GE962) hb); (try clear hb); (try clear hb2); (try clear hk); (try clear hi); have hcz11_0 := bc w10 BK961 0 (.int .i64 a0_0) rfl; have hcz11_1 := bc w10 BK961 1 (.slice A0_1 l0_1.length c0_1) rfl; have hcz11_2 := bc w10 BK961 2 (.slice A0_2 l0_2.length c0_2) rfl; have hfz11_0 := fz BK961 0; have hfz11_1 := fz BK961 1; have hfz11_2 := fz BK961 2) | ((with_reducible refine gate_callee (f := 98) rfl ?_); refine goesL_ (some 14) rfl rfl Try.func98 (by kernel_rfl) rfl #[.agg #[.int .i64 a0_0, .slice A0_1 l0_1.length c0_1]] rfl (by (try simp only [List.map_toArray, List.map_cons, List.map_nil]); first | done | rfl | (simp only [List.length_drop, List.length_take]; rfl)) ?_; (with_reducible refine (spec_l1Copy.calls a0_0 _ _ l0_1 t964 t965 _ ?side1 ?side2 A5.out).mono ?_); (case side1 => repeat (first | exact (Kd.C_below HR0_1.out HB.out) | (with_reducible refine Kd.C_alloc ?_ _) | (with_reducible refine Kd.C_drewN ?_ _) | (with_reducible refine Kd.C_drew ?_))); (case side2 => exact HC0_1.out); rintro e w12 ⟨v966, rfl, ho0, hb⟩; refine ⟨_, rfl, ?_⟩; have HO967 := ak (Kd.R_lower ho0 (below_size (bl2 HB GE961 GE962))); replace BK961 := ak (blk_below (bk BK961) hb); replace BK962 := ak (blk_below (bk BK962) hb); replace HB := ak (below_step (bl2 HB GE961 GE962) hb); (try clear hb); (try clear hb2); (try clear hk); (try clear hi); (try clear ho0); obtain ⟨Ao13, co13, eo13⟩ := Kd.R_slice HO967.out; subst eo13) | ((with_reducible refine gate_dst (N := 6) rfl ?_); refine box_event ?hg (N := 6) ?hd (cs := #[.int .i64 0, .slice none 0 0, .slice none 0 0]) (t := 49) ?hr ?_; (case hd => rfl); (case hg => rfl); (case hr => first | (go_simp; done) | (go_simp; rfl)); intro gb968 hg w14 hbox hb; replace HO967 := ak (Kd.R_below (rk HO967) hb); have BK968 := ak (hbox); have GW968 := ak ((by rw [hg]; exact (below_size (bl2 HB GE961 GE962)) : w.heap.size ≤ gb968)); have GE968 := ak ((by rw [hg]; exact (below_size (bl2 HB GE961 GE962)) : w.heap.size ≤ gb968)); replace HB := ak (below_step (bl2 HB GE961 GE962) hb); have NB961_968 := ak ((by rw [hg]; exact Nat.ne_of_lt (blk_lt (bk BK961)) : gb961 ≠ gb968)); have NB968_961 := ak ((by rw [hg]; exact Nat.ne_of_gt (blk_lt (bk BK961)) : gb968 ≠ gb961)); replace BK961 := ak (blk_below (bk BK961) hb); have NB962_968 := ak ((by rw [hg]; exact Nat.ne_of_lt (blk_lt (bk BK962)) : gb962 ≠ gb968)); have NB968_962 := ak ((by rw [hg]; exact Nat.ne_of_gt (blk_lt (bk BK962)) : gb968 ≠ gb962)); replace BK962 := ak (blk_below (bk BK962) hb); clear hb hbox hg; have hnb15 := NB968_961.out; have hnc15 := NB961_968.out; have hnb16 := NB968_962.out; have hnc16 := NB962_968.out; have hcz17_0 := bc w14 BK968 0 (.int .i64 0) rfl; have hcz17_1 := bc w14 BK968 1 (.slice none 0 0) rfl; have hcz17_2 := bc w14 BK968 2 (.slice none 0 0) rfl; have hfz17_0 := fz BK968 0; have hfz17_1 := fz BK968 1; have hfz17_2 := fz BK968 2))
 go_loopg [7] k (fun kq v7 w' => ∃ (x7_1 : Int) (x969002_1 : List (S70)) (u969002 : Value), v7 = .int .i64 x7_1 ∧ Aside0 (spec_LiveOver.l0 kq a1 x7_1 a0_0 l0_1 l0_2 t964 t965 x969002_1 = some (r1, r2, r3, r4)) ∧ Aside0 (kq ≤ k) ∧ Aside0 (Kd.R k100 100 w' w.heap.size (fun _ => True) (.slice Ao13 t965.length co13) t965) ∧ Aside0 (Kd.R k70 70 w' w.heap.size (fun _ => True) u969002 x969002_1) ∧ Aside0 (w'.heap[gb961]? = some (.cells #[.int .i64 a0_0, (.slice A0_1 l0_1.length c0_1), (.slice A0_2 l0_2.length c0_2)] 49 (0, 0))) ∧ Aside0 (w'.heap[gb962]? = some (.cells #[.int .i64 0, (.slice none 0 0), (.slice none 0 0)] 49 (0, 0))) ∧ Aside0 (w'.heap[gb968]? = some (.cells #[.int .i64 t964, (.slice Ao13 t965.length co13), u969002] 49 (0, 0))) ∧ Aside0 (Below w.heap.size w w'))
 case atStart => exact ⟨(0), (([] : List (S70))), (.slice none 0 0), (by first | rfl | (simp; done) | (simp [*]; done)), H', ⟨Nat.le_refl _⟩, ⟨by (with_reducible repeat (first | apply Kd.R_alloc | apply Kd.R_drewN | apply Kd.R_drew)); exact Kd.R_mono (Kd.R_far (p := ⟨gb968, 2, none⟩) (Kd.R_far (p := ⟨gb968, 1, none⟩) (Kd.R_far (p := ⟨gb968, 0, none⟩) (Kd.R_types HO967.out BK968.out (by decide)) (fun _ hk => hk.2) (.int .i64 t964)) (fun _ hk => hk.2) (.slice Ao13 t965.length co13)) (fun _ hk => hk.2) (.slice none 0 0)) (fun _ hk => trivial)⟩, ⟨by first | exact Kd.R_nil _ _ _ _ _ | exact Kd.N_nil _ _ _ _ _ | exact Kd.V_nil _ _ _ _ _ | exact Kd.Q_nil _ _ _ _ _ | exact Kd.S_nil _ _ _ _ _⟩, ⟨by (with_reducible repeat (first | refine blk_drewN ?_ _ | refine blk_drew ?_ | refine blk_alloc ?_ _)); refine blk_far ?_ NB961_968.out _; refine blk_far ?_ NB961_968.out _; refine blk_far ?_ NB961_968.out _; (with_reducible repeat (first | refine blk_drewN ?_ _ | refine blk_drew ?_ | refine blk_alloc ?_ _)); exact BK961.out⟩, ⟨by (with_reducible repeat (first | refine blk_drewN ?_ _ | refine blk_drew ?_ | refine blk_alloc ?_ _)); refine blk_far ?_ NB962_968.out _; refine blk_far ?_ NB962_968.out _; refine blk_far ?_ NB962_968.out _; (with_reducible repeat (first | refine blk_drewN ?_ _ | refine blk_drew ?_ | refine blk_alloc ?_ _)); exact BK962.out⟩, ⟨by (with_reducible repeat (first | refine blk_drewN ?_ _ | refine blk_drew ?_ | refine blk_alloc ?_ _)); refine blk_put (cs := #[.int .i64 t964, .slice Ao13 t965.length co13, .slice none 0 0]) ?_ 2 _ rfl; refine blk_put (cs := #[.int .i64 t964, .slice none 0 0, .slice none 0 0]) ?_ 1 _ rfl; refine blk_put (cs := #[.int .i64 0, .slice none 0 0, .slice none 0 0]) ?_ 0 _ rfl; (with_reducible repeat (first | refine blk_drewN ?_ _ | refine blk_drew ?_ | refine blk_alloc ?_ _)); exact BK968.out⟩, ⟨bl3 HB GE961 GE962 GE968⟩⟩
 clear H'
 try clear c1
 try clear p2
 try clear c4
 try clear c7
 try clear c8
 try clear c9
 try clear c15
 try clear c16
 try clear hcz11_0
 try clear hcz11_1
 try clear hcz11_2
 try clear hcz17_0
 try clear hcz17_1
 try clear hcz17_2
 try clear hcz9_0
 try clear hcz9_1
 try clear hcz9_2
 try clear hfz11_0
 try clear hfz11_1
 try clear hfz11_2
 try clear hfz17_0
 try clear hfz17_1
 try clear hfz17_2
 try clear hfz9_0
 try clear hfz9_1
 try clear hfz9_2
 obtain ⟨x7_1, x969002_1, u969002, rfl, HA, HK1, HO_969001, HO_969002, BK961, BK962, BK968, HB⟩ := hrel
 cases gk with
 | zero => exact absurd HA.out (by simp [spec_LiveOver.l0])
 | succ k1 =>
  have H := HA.out
  clear HA
  simp only [spec_LiveOver.l0] at H
  by_cases c18 : x7_1 < (l0_2.length : Int)
  rotate_left
  ·rw [if_neg c18] at H
   have c18b0 : decide (x7_1 < (l0_2.length : Int)) = false := decide_eq_false c18
   clear c18
   simp only [Option.some.injEq, Prod.mk.injEq] at H
   obtain ⟨rfl, rfl, rfl, rfl⟩ := H
   have hnb32 := NB961_962.out
   have hnc32 := NB962_961.out
   have hnb33 := NB961_968.out
   have hnc33 := NB968_961.out
   have hcz34_0 := bc wr BK961 0 (.int .i64 a0_0) rfl
   have hcz34_1 := bc wr BK961 1 (.slice A0_1 l0_1.length c0_1) rfl
   have hcz34_2 := bc wr BK961 2 (.slice A0_2 l0_2.length c0_2) rfl
   have hfz34_0 := fz BK961 0
   have hfz34_1 := fz BK961 1
   have hfz34_2 := fz BK961 2
   try go_wp2
   replace HO_969001 := ak (Kd.R_drew HO_969001.out)
   replace HO_969002 := ak (Kd.R_drew HO_969002.out)
   replace BK961 := ak (blk_drew BK961.out)
   replace BK962 := ak (blk_drew BK962.out)
   replace BK968 := ak (blk_drew BK968.out)
   replace HB := ak (below_drew1 HB.out)
   obtain ⟨Ao36, co36, eo36⟩ := Kd.R_slice HO_969002.out
   (first | subst eo36 | (injection eo36 with f1_ f2_ f3_; have f4_ := f1_.symm; have f5_ := f3_.symm; clear f1_ f2_ f3_; subst f4_; subst f5_))
   refine start_ (n := 10) (S := fun w' => w'.cell? ⟨gb968, 0, none⟩ = some (.int .i64 t964) ∧ w'.cell? ⟨gb968, 1, none⟩ = some (.slice Ao13 t965.length co13) ∧ w'.cell? ⟨gb968, 2, none⟩ = some (.slice Ao36 x969002_1.length co36) ∧ w'.cell? ⟨gb961, 0, none⟩ = some (.int .i64 a0_0) ∧ w'.cell? ⟨gb961, 1, none⟩ = some (.slice A0_1 l0_1.length c0_1) ∧ w'.cell? ⟨gb961, 2, none⟩ = some (.slice A0_2 l0_2.length c0_2)) (ds := []) (ms 10 0) (by kernel_rfl) rfl (by kernel_rfl) ⟨(blk_cell BK968.out 0).trans rfl, (blk_cell BK968.out 1).trans rfl, (blk_cell BK968.out 2).trans rfl, (blk_cell BK961.out 0).trans rfl, (blk_cell BK961.out 1).trans rfl, (blk_cell BK961.out 2).trans rfl⟩ (fun hHeld => ?_); refine with_tabW spec_LiveOver.tab9 spec_LiveOver.bits9 (fun HT_ HW_ => ?_)
   generalize wr.drew = w35 at HO_969001 HO_969002 BK961 BK962 BK968 HB hHeld ⊢
   refine pu 1 42 ?_ (ms 10 2) rfl rfl HT_ (by kernel_rfl) (fun _ _ _ h => h) (by rfl) ?_ ?_ ?_ ?_
   rotate_left
   ·intro w'
    go_simp
    with_reducible rfl
   rotate_left
   ·simp only [SX]
    rfl
   refine pu 4 45 ?_ (ms 10 18) rfl rfl HT_ (by kernel_rfl) (fun _ _ _ h => h) (by rfl) ?_ ?_ ?_ ?_
   rotate_left
   ·intro w'
    go_simp
    with_reducible rfl
   rotate_left
   ·simp only [SX]
    rfl
   refine tk 0 41 ?_ (ms 10 19) rfl rfl HT_ HW_ (by kernel_rfl) (fun _ _ _ h => h) (by rfl) ?_ hHeld ?_ ?_ ?_
   rotate_left
   ·rintro w' ⟨s0, s1, s2, s3, s4, s5⟩
    go_simp
    with_reducible rfl
   rotate_left
   ·simp only [SX]
    rfl
   refine tk 2 43 ?_ (ms 10 23) rfl rfl HT_ HW_ (by kernel_rfl) (fun _ _ _ h => h) (by rfl) ?_ hHeld ?_ ?_ ?_
   rotate_left
   ·rintro w' ⟨s0, s1, s2, s3, s4, s5⟩
    go_simp
    with_reducible rfl
   rotate_left
   ·simp only [SX]
    rfl
   refine pu 3 44 ?_ (ms 10 31) rfl rfl HT_ (by kernel_rfl) (fun _ _ _ h => h) (by rfl) ?_ ?_ ?_ ?_
   rotate_left
   ·intro w'
    go_simp
    with_reducible rfl
   rotate_left
   ·simp only [SX]
    rfl
   refine tk 5 46 ?_ (ms 10 63) rfl rfl HT_ HW_ (by kernel_rfl) (fun _ _ _ h => h) (by rfl) ?_ hHeld ?_ ?_ ?_
   rotate_left
   ·rintro w' ⟨s0, s1, s2, s3, s4, s5⟩
    go_simp
    with_reducible rfl
   rotate_left
   ·simp only [SX]
    rfl
   refine pu 6 47 ?_ (ms 10 127) rfl rfl HT_ (by kernel_rfl) (fun _ _ _ h => h) (by rfl) ?_ ?_ ?_ ?_
   rotate_left
   ·intro w'
    go_simp
    with_reducible rfl
   rotate_left
   ·simp only [SX]
    rfl
   refine pu 7 48 ?_ (ms 10 255) rfl rfl HT_ (by kernel_rfl) (fun _ _ _ h => h) (by rfl) ?_ ?_ ?_ ?_
   rotate_left
   ·intro w'
    go_simp
    with_reducible rfl
   rotate_left
   ·simp only [SX]
    rfl
   refine one_ (i := 8) (N := none) (ms 10 511) rfl rfl (one_of HT_.out (by kernel_rfl)) (by decide) (fun K hK => ?_)
   have hs37 : w35.cell? ⟨gb962, 0, none⟩ = some (.int .i64 0) := (blk_cell BK962.out 0).trans rfl
   have hfs37 := blk_frozen BK962.out 0
   have hns37_0 := NB961_962.out
   have hns37_2 := NB968_962.out
   have hms37_0 := NB962_961.out
   have hms37_2 := NB962_968.out
   have hs38 : w35.cell? ⟨gb962, 1, none⟩ = some (.slice none 0 0) := (blk_cell BK962.out 1).trans rfl
   have hfs38 := blk_frozen BK962.out 1
   have hns38_0 := NB961_962.out
   have hns38_2 := NB968_962.out
   have hms38_0 := NB962_961.out
   have hms38_2 := NB962_968.out
   have hs39 : w35.cell? ⟨gb962, 2, none⟩ = some (.slice none 0 0) := (blk_cell BK962.out 2).trans rfl
   have hfs39 := blk_frozen BK962.out 2
   have hns39_0 := NB961_962.out
   have hns39_2 := NB968_962.out
   have hms39_0 := NB962_961.out
   have hms39_2 := NB962_968.out
   refine skip_ (w1 := ?_) (by rfl) rfl ?_ ?_
   rotate_left
   ·go_simp
    rfl
   refine hK.out _ _ ⟨((cell_far (p := ⟨gb962, _, none⟩) NB968_962.out _).trans (((cell_far (p := ⟨gb962, _, none⟩) NB968_962.out _).trans (((cell_far (p := ⟨gb962, _, none⟩) NB968_962.out _).trans (hHeld.1)))))), ((cell_far (p := ⟨gb962, _, none⟩) NB968_962.out _).trans (((cell_far (p := ⟨gb962, _, none⟩) NB968_962.out _).trans (((cell_far (p := ⟨gb962, _, none⟩) NB968_962.out _).trans (hHeld.2.1)))))), ((cell_far (p := ⟨gb962, _, none⟩) NB968_962.out _).trans (((cell_far (p := ⟨gb962, _, none⟩) NB968_962.out _).trans (((cell_far (p := ⟨gb962, _, none⟩) NB968_962.out _).trans (hHeld.2.2.1)))))), ((cell_far (p := ⟨gb962, _, none⟩) NB961_962.out _).trans (((cell_far (p := ⟨gb962, _, none⟩) NB961_962.out _).trans (((cell_far (p := ⟨gb962, _, none⟩) NB961_962.out _).trans (hHeld.2.2.2.1)))))), ((cell_far (p := ⟨gb962, _, none⟩) NB961_962.out _).trans (((cell_far (p := ⟨gb962, _, none⟩) NB961_962.out _).trans (((cell_far (p := ⟨gb962, _, none⟩) NB961_962.out _).trans (hHeld.2.2.2.2.1)))))), ((cell_far (p := ⟨gb962, _, none⟩) NB961_962.out _).trans (((cell_far (p := ⟨gb962, _, none⟩) NB961_962.out _).trans (((cell_far (p := ⟨gb962, _, none⟩) NB961_962.out _).trans (hHeld.2.2.2.2.2))))))⟩ (fun hHeld => ?_)
   clear hK K
   refine pu 9 5 ?_ (ms 10 1023) rfl rfl HT_ (by kernel_rfl) (fun _ _ _ h => h) (by rfl) ?_ ?_ ?_ ?_
   rotate_left
   ·intro w'
    go_simp
    with_reducible rfl
   rotate_left
   ·simp only [SX]
    rfl
   refine done_ (done_of HT_.out (by kernel_rfl)) ?_
   try go_wp2
   refine bodyPost_ret (results_ct rfl _ _ gb962 49 #[.int .i64 t964, .slice Ao13 t965.length co13, .slice Ao36 x969002_1.length co36] (0, 0) _ rfl (by (with_reducible repeat (first | refine blk_drewN ?_ _ | refine blk_drew ?_ | refine blk_alloc ?_ _)); refine blk_put (cs := #[.int .i64 t964, .slice Ao13 t965.length co13, .slice none 0 0]) ?_ 2 _ rfl; refine blk_put (cs := #[.int .i64 t964, .slice none 0 0, .slice none 0 0]) ?_ 1 _ rfl; refine blk_put (cs := #[.int .i64 0, .slice none 0 0, .slice none 0 0]) ?_ 0 _ rfl; (with_reducible repeat (first | refine blk_drewN ?_ _ | refine blk_drew ?_ | refine blk_alloc ?_ _)); exact BK962.out) Try.underlying49 rfl (by kernel_rfl)) rfl ?_
   exact ⟨_, _, by first | rfl | (simp [errW_none, errW_some] <;> rfl) | (simp [errW_none, errW_some] <;> exact ⟨rfl, rfl⟩) | (simp [*, errW_none, errW_some] <;> rfl), by (with_reducible repeat (first | apply Kd.R_alloc | apply Kd.R_drewN | apply Kd.R_drew)); exact Kd.R_mono (Kd.R_far (p := ⟨gb962, 2, none⟩) (Kd.R_far (p := ⟨gb962, 1, none⟩) (Kd.R_far (p := ⟨gb962, 0, none⟩) (Kd.R_types HO_969001.out BK962.out (by decide)) (fun _ hk => hk.2) (.int .i64 t964)) (fun _ hk => hk.2) (.slice Ao13 t965.length co13)) (fun _ hk => hk.2) (.slice Ao36 x969002_1.length co36)) (fun _ hk => trivial), by (with_reducible repeat (first | apply Kd.R_alloc | apply Kd.R_drewN | apply Kd.R_drew)); exact Kd.R_mono (Kd.R_far (p := ⟨gb962, 2, none⟩) (Kd.R_far (p := ⟨gb962, 1, none⟩) (Kd.R_far (p := ⟨gb962, 0, none⟩) (Kd.R_types HO_969002.out BK962.out (by decide)) (fun _ hk => hk.2) (.int .i64 t964)) (fun _ hk => hk.2) (.slice Ao13 t965.length co13)) (fun _ hk => hk.2) (.slice Ao36 x969002_1.length co36)) (fun _ hk => trivial), bl3 HB GE961 GE962 GE968⟩
  rw [if_pos c18] at H
  have c18b0 : decide (x7_1 < (l0_2.length : Int)) = true := decide_eq_true c18
  clear c18
  by_cases c19 : 0 ≤ x7_1
  rotate_left
  ·rw [if_neg c19] at H
   exact absurd H (by simp)
  rw [if_pos c19] at H
  have c19b0 : decide (0 ≤ x7_1) = true := decide_eq_true c19
  clear c19
  by_cases c20 : ((rd_T70 l0_2 x7_1).f0) = a1
  ·rw [if_pos c20] at H
   have c20b0 : (((rd_T70 l0_2 x7_1).f0) == a1) = true := beq_iff_eq.mpr c20
   have c20b1 : (((rd_T70 l0_2 x7_1).f0) != a1) = false := bne_eq_false_iff_eq.mpr c20
   clear c20
   have H' := ak H
   clear H
   have hnb21 := NB961_962.out
   have hnc21 := NB962_961.out
   have hnb22 := NB961_968.out
   have hnc22 := NB968_961.out
   have hcz23_0 := bc wr BK961 0 (.int .i64 a0_0) rfl
   have hcz23_1 := bc wr BK961 1 (.slice A0_1 l0_1.length c0_1) rfl
   have hcz23_2 := bc wr BK961 2 (.slice A0_2 l0_2.length c0_2) rfl
   have hfz23_0 := fz BK961 0
   have hfz23_1 := fz BK961 1
   have hfz23_2 := fz BK961 2
   have p969 : 0 ≤ (x7_1 : Int) := oT (by first | (with_reducible assumption) | assumption)
   have q969 : x7_1 < (l0_2.length : Int) := oT (by first | (with_reducible assumption) | assumption)
   obtain ⟨ad969, e969, hx969_0, hx969_1, hx969_2⟩ := at_T70 HR0_2.out x7_1 p969 q969
   cases e969
   replace hx969_0 := hcb HB.out hx969_0
   replace hx969_1 := hcb HB.out hx969_1
   replace hx969_2 := hcb HB.out hx969_2
   replace p969 := eq_true p969
   replace q969 := eq_true q969
   go_wp2
   go_roundg k1
   case measure => have := HK1.out; omega
   case rel => exact ⟨(wrap64 (x7_1 + 1)), (x969002_1), (u969002), (by first | rfl | (simp; done) | (simp [*]; done)), H', ⟨by have := HK1.out; omega⟩, ⟨rk HO_969001⟩, ⟨rk HO_969002⟩, ⟨bk BK961⟩, ⟨bk BK962⟩, ⟨bk BK968⟩, ⟨bl3 HB GE961 GE962 GE968⟩⟩
  rw [if_neg c20] at H
  have c20b0 : (((rd_T70 l0_2 x7_1).f0) == a1) = false := beq_eq_false_iff_ne.mpr c20
  have c20b1 : (((rd_T70 l0_2 x7_1).f0) != a1) = true := bne_iff_ne.mpr c20
  by_cases c24 : x969002_1.length < 5864062014805
  rotate_left
  ·rw [if_neg c24] at H
   exact absurd H (by simp)
  rw [if_pos c24] at H
  have LMc24 := ak c24
  clear c24
  obtain ⟨y971, hy971⟩ : ∃ y_ : List (S70), y_ = (x969002_1 ++ [(⟨(rd_T70 l0_2 x7_1).f0, (rd_T70 l0_2 x7_1).f1, (rd_T70 l0_2 x7_1).f2⟩ : S70)]) := ⟨_, rfl⟩
  replace H : (spec_LiveOver.l0 k1 a1 (wrap64 (x7_1 + 1)) a0_0 l0_1 l0_2 t964 t965 y971) = some (r1, r2, r3, r4) := by first | (rw [hy971]; with_reducible exact H) | (have H2_ := (Option.bind_some _ _).symm.trans H; rw [hy971]; with_reducible exact H2_) | (have H2_ := (Option.bind_some _ _).symm.trans H; with_reducible exact H2_) | with_reducible exact H | (rw [hy971]; exact H) | exact H
  have Ny971 := ak hy971
  clear hy971
  have H' := ak H
  clear H
  have hnb25 := NB961_962.out
  have hnc25 := NB962_961.out
  have hnb26 := NB961_968.out
  have hnc26 := NB968_961.out
  have hcz27_0 := bc wr BK961 0 (.int .i64 a0_0) rfl
  have hcz27_1 := bc wr BK961 1 (.slice A0_1 l0_1.length c0_1) rfl
  have hcz27_2 := bc wr BK961 2 (.slice A0_2 l0_2.length c0_2) rfl
  have hfz27_0 := fz BK961 0
  have hfz27_1 := fz BK961 1
  have hfz27_2 := fz BK961 2
  have p969 : 0 ≤ (x7_1 : Int) := oT (by first | (with_reducible assumption) | assumption)
  have q969 : x7_1 < (l0_2.length : Int) := oT (by first | (with_reducible assumption) | assumption)
  obtain ⟨ad969, e969, hx969_0, hx969_1, hx969_2⟩ := at_T70 HR0_2.out x7_1 p969 q969
  cases e969
  replace hx969_0 := hcb HB.out hx969_0
  replace hx969_1 := hcb HB.out hx969_1
  replace hx969_2 := hcb HB.out hx969_2
  replace p969 := eq_true p969
  replace q969 := eq_true q969
  try go_wp2
  replace HO_969001 := ak (Kd.R_drew HO_969001.out)
  replace HO_969002 := ak (Kd.R_drew HO_969002.out)
  replace BK961 := ak (blk_drew BK961.out)
  replace BK962 := ak (blk_drew BK962.out)
  replace BK968 := ak (blk_drew BK968.out)
  replace HB := ak (below_drew1 HB.out)
  have p970 : 0 ≤ (x7_1 : Int) := oT (by first | (with_reducible assumption) | assumption)
  have q970 : x7_1 < (l0_2.length : Int) := oT (by first | (with_reducible assumption) | assumption)
  obtain ⟨ad970, e970, hx970_0, hx970_1, hx970_2⟩ := at_T70 HR0_2.out x7_1 p970 q970
  have hw970_2 := hx970_2
  have hw970_1 := hx970_1
  have hw970_0 := hx970_0
  obtain rfl : ad969 = ad970 := (by injection e970)
  replace hx970_0 := hcb HB.out hx970_0
  replace hx970_1 := hcb HB.out hx970_1
  replace hx970_2 := hcb HB.out hx970_2
  replace p970 := eq_true p970
  replace q970 := eq_true q970
  refine start_ (n := 11) (S := fun w' => w'.cell? ⟨gb968, 0, none⟩ = some (.int .i64 t964) ∧ w'.cell? ⟨gb968, 1, none⟩ = some (.slice Ao13 t965.length co13) ∧ w'.cell? ⟨gb968, 2, none⟩ = some (u969002) ∧ w'.cell? ⟨gb961, 0, none⟩ = some (.int .i64 a0_0) ∧ w'.cell? ⟨gb961, 1, none⟩ = some (.slice A0_1 l0_1.length c0_1) ∧ w'.cell? ⟨gb961, 2, none⟩ = some (.slice (some ad969) l0_2.length c0_2) ∧ w'.cell? (ad969.add ((x7_1).toNat * 3)) = some (.int .i64 ((rd_T70 l0_2 x7_1).f0)) ∧ w'.cell? ⟨(ad969.add ((x7_1).toNat * 3)).block, (ad969.add ((x7_1).toNat * 3)).off + 1, none⟩ = some (.int .i64 ((rd_T70 l0_2 x7_1).f1)) ∧ w'.cell? ⟨(ad969.add ((x7_1).toNat * 3)).block, (ad969.add ((x7_1).toNat * 3)).off + 2, none⟩ = some (.int .i64 ((rd_T70 l0_2 x7_1).f2))) (ds := [10]) (ms 11 0) (by kernel_rfl) rfl (by kernel_rfl) ⟨(blk_cell BK968.out 0).trans rfl, (blk_cell BK968.out 1).trans rfl, (blk_cell BK968.out 2).trans rfl, (blk_cell BK961.out 0).trans rfl, (blk_cell BK961.out 1).trans rfl, (blk_cell BK961.out 2).trans rfl, ((HB.out.cell (World.block_lt_of_cell? w _ hw970_0)).trans hw970_0), ((HB.out.cell (World.block_lt_of_cell? w _ hw970_1)).trans hw970_1), ((HB.out.cell (World.block_lt_of_cell? w _ hw970_2)).trans hw970_2)⟩ (fun hHeld => ?_); refine with_tabW spec_LiveOver.tab8 spec_LiveOver.bits8 (fun HT_ HW_ => ?_)
  generalize wr.drew = w28 at HO_969001 HO_969002 BK961 BK962 BK968 HB hx970_0 hx970_1 hx970_2 hHeld ⊢
  refine pu 0 31 ?_ (ms 11 1) rfl rfl HT_ (by kernel_rfl) (fun _ _ _ h => h) (by rfl) ?_ ?_ ?_ ?_
  rotate_left
  ·intro w'
   go_simp
   with_reducible rfl
  rotate_left
  ·simp only [SX]
   rfl
  refine pu 2 33 ?_ (ms 11 5) rfl rfl HT_ (by kernel_rfl) (fun _ _ _ h => h) (by rfl) ?_ ?_ ?_ ?_
  rotate_left
  ·intro w'
   go_simp
   with_reducible rfl
  rotate_left
  ·simp only [SX]
   rfl
  refine pu 4 35 ?_ (ms 11 21) rfl rfl HT_ (by kernel_rfl) (fun _ _ _ h => h) (by rfl) ?_ ?_ ?_ ?_
  rotate_left
  ·intro w'
   go_simp
   with_reducible rfl
  rotate_left
  ·simp only [SX]
   rfl
  refine tk 1 32 ?_ (ms 11 23) rfl rfl HT_ HW_ (by kernel_rfl) (fun _ _ _ h => h) (by rfl) ?_ hHeld ?_ ?_ ?_
  rotate_left
  ·rintro w' ⟨s0, s1, s2, s3, s4, s5, s6, s7, s8⟩
   go_simp
   with_reducible rfl
  rotate_left
  ·simp only [SX]
   rfl
  refine tk 3 34 ?_ (ms 11 31) rfl rfl HT_ HW_ (by kernel_rfl) (fun _ _ _ h => h) (by rfl) ?_ hHeld ?_ ?_ ?_
  rotate_left
  ·rintro w' ⟨s0, s1, s2, s3, s4, s5, s6, s7, s8⟩
   go_simp
   with_reducible rfl
  rotate_left
  ·simp only [SX]
   rfl
  refine pu 5 36 ?_ (ms 11 63) rfl rfl HT_ (by kernel_rfl) (fun _ _ _ h => h) (by rfl) ?_ ?_ ?_ ?_
  rotate_left
  ·intro w'
   go_simp
   with_reducible rfl
  rotate_left
  ·simp only [SX]
   rfl
  refine tk 6 37 ?_ (ms 11 127) rfl rfl HT_ HW_ (by kernel_rfl) (fun _ _ _ h => h) (by rfl) ?_ hHeld ?_ ?_ ?_
  rotate_left
  ·rintro w' ⟨s0, s1, s2, s3, s4, s5, s6, s7, s8⟩
   go_simp
   with_reducible rfl
  rotate_left
  ·simp only [SX]
   rfl
  refine one_ (i := 7) (N := some 38) (ms 11 255) rfl rfl (one_of HT_.out (by kernel_rfl)) (by decide) (fun K hK => ?_)
  refine value_ (w1 := ?_) (v := ?_) (by rfl) rfl ?_ ?_
  rotate_left 2
  ·go_simp
   constructor
   rotate_left
   ·rfl
   rfl
  refine hK.out _ _ ⟨(blk_cell (blk_alloc BK968.out _) 0).trans rfl, (blk_cell (blk_alloc BK968.out _) 1).trans rfl, (blk_cell (blk_alloc BK968.out _) 2).trans rfl, (blk_cell (blk_alloc BK961.out _) 0).trans rfl, (blk_cell (blk_alloc BK961.out _) 1).trans rfl, (blk_cell (blk_alloc BK961.out _) 2).trans rfl, (World.cell?_alloc_lt _ _ _ (World.block_lt_of_cell? _ _ (((HB.out.cell (World.block_lt_of_cell? w _ hw970_0)).trans hw970_0)))).trans (((HB.out.cell (World.block_lt_of_cell? w _ hw970_0)).trans hw970_0)), (World.cell?_alloc_lt _ _ _ (World.block_lt_of_cell? _ _ (((HB.out.cell (World.block_lt_of_cell? w _ hw970_1)).trans hw970_1)))).trans (((HB.out.cell (World.block_lt_of_cell? w _ hw970_1)).trans hw970_1)), (World.cell?_alloc_lt _ _ _ (World.block_lt_of_cell? _ _ (((HB.out.cell (World.block_lt_of_cell? w _ hw970_2)).trans hw970_2)))).trans (((HB.out.cell (World.block_lt_of_cell? w _ hw970_2)).trans hw970_2))⟩ (fun hHeld => ?_)
  clear hK K
  refine norm_ (a' := ?_) ?_ ?_
  rotate_left
  ·show Act.put _ (some 38) _ = _
   simp only [SX]
   rfl
  refine one_ (i := 8) (N := some 39) (ms 11 511) rfl rfl (one_of HT_.out (by kernel_rfl)) (by decide) (fun K hK => ?_)
  refine Kd.R_append_step k70 (w0 := w) w.heap.size (by rfl) (.tmp 32) (.tmp 38) 47 70 (.agg #[(.int .i64 0), (.int .i64 0), (.int .i64 0)]) 24 rfl Try.underlying47 info70 rfl (by decide) (by omega) u969002 x969002_1 (⟨(rd_T70 l0_2 x7_1).f0, (rd_T70 l0_2 x7_1).f1, (rd_T70 l0_2 x7_1).f2⟩ : S70) [.int .i64 ((rd_T70 l0_2 x7_1).f0), .int .i64 ((rd_T70 l0_2 x7_1).f1), .int .i64 ((rd_T70 l0_2 x7_1).f2)] (fun _ => True) (fun _ => False) rfl rfl ?aP (fun _ hk => hk.elim) ?aF ?aO ?aB ?aS ?aL ?_
  (case aP => exact k70_mkM _ _ _ (⟨(rd_T70 l0_2 x7_1).f0, (rd_T70 l0_2 x7_1).f1, (rd_T70 l0_2 x7_1).f2⟩ : S70))
  (case aB => exact (bl3 HB GE961 GE962 GE968))
  (case aF => exact (fun _ _ => trivial))
  (case aO => exact (rk HO_969002))
  (case aS => exact (below_size (bl3 HB GE961 GE962 GE968)))
  (case aL => have := LMc24.out; omega)
  intro v972 w29 ho hb hg hat
  rw [← Ny971.out] at ho
  have n0_ := ak (Kd.R_over' (rk HO_969001) (Kd.R_typed (rk HO_969002)) (by decide) hg)
  have n1_ := ak (blk_grown (bk BK961) hg (Kd.R_ne HO_969002.out BK961.out (by decide)))
  have n2_ := ak (blk_grown (bk BK962) hg (Kd.R_ne HO_969002.out BK962.out (by decide)))
  have n3_ := ak (blk_grown (bk BK968) hg (Kd.R_ne HO_969002.out BK968.out (by decide)))
  have n4_ := ak (hb)
  have n5_ := ak (ho)
  clear HO_969001
  clear BK961
  clear BK962
  clear BK968
  clear HB
  clear HO_969002
  have HO_969001 := n0_
  have BK961 := n1_
  have BK962 := n2_
  have BK968 := n3_
  have HB := n4_
  have HO973 := n5_
  clear n0_ n1_ n2_ n3_ n4_ n5_
  clear ho hb hg hat
  obtain ⟨Ao30, co30, eo30⟩ := Kd.R_slice HO973.out
  (first | subst eo30 | (injection eo30 with f1_ f2_ f3_; have f4_ := f1_.symm; have f5_ := f3_.symm; clear f1_ f2_ f3_; subst f4_; subst f5_))
  refine hK.out _ _ ⟨(blk_cell BK968.out 0).trans rfl, (blk_cell BK968.out 1).trans rfl, (blk_cell BK968.out 2).trans rfl, (blk_cell BK961.out 0).trans rfl, (blk_cell BK961.out 1).trans rfl, (blk_cell BK961.out 2).trans rfl, ((HB.out.cell (World.block_lt_of_cell? w _ hw970_0)).trans hw970_0), ((HB.out.cell (World.block_lt_of_cell? w _ hw970_1)).trans hw970_1), ((HB.out.cell (World.block_lt_of_cell? w _ hw970_2)).trans hw970_2)⟩ (fun hHeld => ?_)
  clear hK K
  refine norm_ (a' := ?_) ?_ ?_
  rotate_left
  ·show Act.put _ (some 39) _ = _
   simp only [SX]
   rfl
  refine pu 9 40 ?_ (ms 11 1023) rfl rfl HT_ (by kernel_rfl) (fun _ _ _ h => h) (by rfl) ?_ ?_ ?_ ?_
  rotate_left
  ·intro w'
   go_simp
   with_reducible rfl
  rotate_left
  ·simp only [SX]
   rfl
  refine last_ (i := 10) (N := none) (ms 11 2047) rfl rfl (one_of HT_.out (by kernel_rfl)) (by decide) (fun K hK => ?_)
  have hs31 : w29.cell? ⟨gb968, 2, none⟩ = some (u969002) := (blk_cell BK968.out 2).trans rfl
  have hfs31 := blk_frozen BK968.out 2
  have hns31_0 := NB961_968.out
  have hns31_1 := NB962_968.out
  have hms31_0 := NB968_961.out
  have hms31_1 := NB968_962.out
  refine skip_ (w1 := ?_) (by rfl) rfl ?_ ?_
  rotate_left
  ·go_simp
   rfl
  refine hK.out _ _ ?_
  clear hK K
  refine done_ (done_of HT_.out (by kernel_rfl)) ?_
  try go_wp2
  go_roundg k1
  case measure => have := HK1.out; omega
  case rel => exact ⟨(wrap64 (x7_1 + 1)), (y971), (.slice Ao30 y971.length co30), (by first | rfl | (simp; done) | (simp [*]; done)), H', ⟨by have := HK1.out; omega⟩, ⟨by (with_reducible repeat (first | apply Kd.R_alloc | apply Kd.R_drewN | apply Kd.R_drew)); exact Kd.R_mono (Kd.R_far (p := ⟨gb968, 2, none⟩) (Kd.R_types HO_969001.out BK968.out (by decide)) (fun _ hk => hk.2) (.slice Ao30 y971.length co30)) (fun _ hk => trivial)⟩, ⟨by (with_reducible repeat (first | apply Kd.R_alloc | apply Kd.R_drewN | apply Kd.R_drew)); exact Kd.R_mono (Kd.R_far (p := ⟨gb968, 2, none⟩) (Kd.R_types HO973.out BK968.out (by decide)) (fun _ hk => hk.2) (.slice Ao30 y971.length co30)) (fun _ hk => trivial)⟩, ⟨by (with_reducible repeat (first | refine blk_drewN ?_ _ | refine blk_drew ?_ | refine blk_alloc ?_ _)); refine blk_far ?_ NB961_968.out _; (with_reducible repeat (first | refine blk_drewN ?_ _ | refine blk_drew ?_ | refine blk_alloc ?_ _)); exact BK961.out⟩, ⟨by (with_reducible repeat (first | refine blk_drewN ?_ _ | refine blk_drew ?_ | refine blk_alloc ?_ _)); refine blk_far ?_ NB962_968.out _; (with_reducible repeat (first | refine blk_drewN ?_ _ | refine blk_drew ?_ | refine blk_alloc ?_ _)); exact BK962.out⟩, ⟨by (with_reducible repeat (first | refine blk_drewN ?_ _ | refine blk_drew ?_ | refine blk_alloc ?_ _)); refine blk_put (cs := #[.int .i64 t964, .slice Ao13 t965.length co13, u969002]) ?_ 2 _ rfl; (with_reducible repeat (first | refine blk_drewN ?_ _ | refine blk_drew ?_ | refine blk_alloc ?_ _)); exact BK968.out⟩, ⟨bl3 HB GE961 GE962 GE968⟩⟩

end Go.Proofs.Ytbappbbljncdeaa.F
