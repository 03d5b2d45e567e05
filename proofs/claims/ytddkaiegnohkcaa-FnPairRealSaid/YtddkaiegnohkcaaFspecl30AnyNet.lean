-- Printed by wip/px/px.py of this claim's repository (the kit's printer, extended there). Lean checks it.
import Derived.Test.YtddkaiegnohkcaaFKinds
import Derived.Test.YtddkaiegnohkcaaFspecl30Open
import Derived.Test.YtddkaiegnohkcaaFspecl30Rdpick
import Derived.Test.YtddkaiegnohkcaaFspecl30Rdone
import Derived.Test.YtddkaiegnohkcaaFspecl30Net
namespace Go.Proofs.Ytddkaiegnohkcaa.F
open Go.RowKit Go.Proofs.YtddkaiegnohkcaaW.PrintWords Go.Proofs.YtddkaiegnohkcaaW.PrintLast Go.Proofs.YtddkaiegnohkcaaW.PrintMore
attribute [local go_sem] max2_int min2_int max_two min_two max_three min_three max_four min_four   -- for this text's walks alone
set_option linter.unusedVariables false
set_option linter.unusedSimpArgs false

/-! ### spec_l30AnyNet: function 39 -/
def spec_l30AnyNet.f (k : Nat) (s0_0 : List Int) (s0_1 : Int) : Option (Int × (List (S33)) × Int) := (spec_l30Net.f k s0_0 s0_1).bind fun bt246 => (if (bt246.2.1.length : Int) > 0 then ((spec_l30Rd_pick.f k s0_0 bt246.2.2 (bt246.2.1.length : Int)).bind fun bt252 => ((spec_l30Rd_pick.f k s0_0 bt252.2 16).bind fun bt254 => (if bt254.1 = 0 then (if 0 ≤ bt252.1 then (if bt252.1 < (bt246.2.1.length : Int) then ((spec_l30Rd_one.f k s0_0 bt254.2 (([(-1), 8, (rd_T33 bt246.2.1 bt252.1).f0] : List Int))).bind fun bt260 => (some (bt246.1, (bt246.2.1.set (bt252.1 : Int).toNat (⟨(rd_T33 bt246.2.1 bt252.1).f0, bt260.1, (rd_T33 bt246.2.1 bt252.1).f2, (rd_T33 bt246.2.1 bt252.1).f3, (rd_T33 bt246.2.1 bt252.1).f4⟩ : S33)), bt260.2))) else (none)) else (none)) else (if bt254.1 = 1 then ((spec_l30Rd_one.f k s0_0 bt254.2 (([(-1), 100] : List Int))).bind fun bt266 => (if 0 ≤ bt252.1 then (if bt252.1 < (bt246.2.1.length : Int) then (some (bt246.1, (bt246.2.1.set (bt252.1 : Int).toNat (⟨(rd_T33 bt246.2.1 bt252.1).f0, (rd_T33 bt246.2.1 bt252.1).f1, bt266.1, (rd_T33 bt246.2.1 bt252.1).f3, (rd_T33 bt246.2.1 bt252.1).f4⟩ : S33)), bt266.2)) else (none)) else (none))) else (if bt254.1 = 2 then ((spec_l30Rd_one.f k s0_0 bt254.2 (([0, 1, 9, 8] : List Int))).bind fun bt272 => (some (bt272.1, bt246.2.1, bt272.2))) else (some (bt246.1, bt246.2.1, bt254.2))))))) else (some (bt246.1, bt246.2.1, bt246.2.2)))
theorem spec_l30AnyNet.mono : ∀ a0 a1 k, LeO (spec_l30AnyNet.f k a0 a1) (spec_l30AnyNet.f (k + 1) a0 a1) := by
 intro a0 a1 k
 unfold spec_l30AnyNet.f
 repeat' first
   | (with_reducible exact spec_l30Net.mono _ _ _)
   | (with_reducible exact spec_l30Rd_one.mono _ _ _ _)
   | (with_reducible exact spec_l30Rd_pick.mono _ _ _ _)
   | (with_reducible exact LeO.refl _)
   | (with_reducible exact LeO.none _)
   | (with_reducible refine LeO.ite ?_ ?_)
   | (with_reducible refine LeO.bind ?_ (fun _ => ?_))
   | exact spec_l30Net.mono _ _ _
   | exact spec_l30Rd_one.mono _ _ _ _
   | exact spec_l30Rd_pick.mono _ _ _ _
   | exact LeO.none _
   | refine LeO.ite ?_ ?_
   | refine LeO.bind ?_ (fun _ => ?_)
def spec_l30AnyNet.T6 : Bool × List (List Nat × List Nat) := (true, [([], []), ([0], [0]), ([], []), ([], []), ([], []), ([4], [4]), ([], []), ([5, 6], [5, 6]), ([7], [7]), ([8], [8]), ([9], [9]), ([3, 10], [3, 10]), ([1, 2, 0, 1, 2, 3, 4, 5, 6, 7, 8, 9, 10, 11], [1, 2]), ([12, 0, 1, 2, 3, 4, 5, 6, 7, 8, 9, 10, 11], [12]), ([13, 11, 11, 0, 1, 2, 3, 4, 5, 6, 7, 8, 9, 10, 11], [11, 13])])
def spec_l30AnyNet.B6 : List Nat := [0, 1, 0, 0, 0, 16, 0, 112, 240, 496, 1008, 2040, 4095, 8191, 16383]
theorem spec_l30AnyNet.tab6 : rtab .any (opsOf Try.f39 6) = spec_l30AnyNet.T6 := by kernel_rfl
theorem spec_l30AnyNet.bits6 : waitsOk spec_l30AnyNet.T6.2 spec_l30AnyNet.B6 = true := by kernel_rfl
def spec_l30AnyNet.T8 : Bool × List (List Nat × List Nat) := (true, [([], []), ([0], [0]), ([], []), ([], []), ([], []), ([3, 4], [3, 4]), ([1, 2, 0, 1, 2, 3, 4, 5], [1, 2]), ([6, 0, 1, 2, 3, 4, 5], [6]), ([7, 5, 5, 0, 1, 2, 3, 4, 5], [5, 7])])
def spec_l30AnyNet.B8 : List Nat := [0, 1, 0, 0, 0, 24, 63, 127, 255]
theorem spec_l30AnyNet.tab8 : rtab .any (opsOf Try.f39 8) = spec_l30AnyNet.T8 := by kernel_rfl
theorem spec_l30AnyNet.bits8 : waitsOk spec_l30AnyNet.T8.2 spec_l30AnyNet.B8 = true := by kernel_rfl
set_option maxHeartbeats 8000000 in
set_option maxRecDepth 100000 in
theorem spec_l30AnyNet.calls (k : Nat) (g : Nat) (s0_0 : List Int) (s0_1 : Int) (r1 : Int) (r2 : List (S33)) (r3 : Int) (w0 w : World) (hI : IsS89 w0 w g s0_0 s0_1) (hB : Below w0.heap.size w0 w) (h : spec_l30AnyNet.f k s0_0 s0_1 = some (r1, r2, r3)) :
  Calls Try.prog 39 #[.pointer (some ⟨g, 0, none⟩)] w fun e w' => ∃ v1_ : Value, e = .returned (.agg #[.int .i64 r1, v1_]) ∧ Kd.R k33 33 w' w.heap.size (fun _ => True) v1_ r2 ∧ IsS89 w0 w' g s0_0 r3 ∧ Below w0.heap.size w0 w' ∧ KeepBut w w' g none := by
 have hu25 := Try.underlying25
 have HI0 := ak hI
 have HK := ak (KeepBut.refl w g none)
 have HL := ak hB.size
 clear hI
 have HW0 := ak hB.size
 have HB := ak hB
 clear hB
 have H : ((spec_l30Net.f k s0_0 s0_1).bind fun bt246 => (if (bt246.2.1.length : Int) > 0 then ((spec_l30Rd_pick.f k s0_0 bt246.2.2 (bt246.2.1.length : Int)).bind fun bt252 => ((spec_l30Rd_pick.f k s0_0 bt252.2 16).bind fun bt254 => (if bt254.1 = 0 then (if 0 ≤ bt252.1 then (if bt252.1 < (bt246.2.1.length : Int) then ((spec_l30Rd_one.f k s0_0 bt254.2 (([(-1), 8, (rd_T33 bt246.2.1 bt252.1).f0] : List Int))).bind fun bt260 => (some (bt246.1, (bt246.2.1.set (bt252.1 : Int).toNat (⟨(rd_T33 bt246.2.1 bt252.1).f0, bt260.1, (rd_T33 bt246.2.1 bt252.1).f2, (rd_T33 bt246.2.1 bt252.1).f3, (rd_T33 bt246.2.1 bt252.1).f4⟩ : S33)), bt260.2))) else (none)) else (none)) else (if bt254.1 = 1 then ((spec_l30Rd_one.f k s0_0 bt254.2 (([(-1), 100] : List Int))).bind fun bt266 => (if 0 ≤ bt252.1 then (if bt252.1 < (bt246.2.1.length : Int) then (some (bt246.1, (bt246.2.1.set (bt252.1 : Int).toNat (⟨(rd_T33 bt246.2.1 bt252.1).f0, (rd_T33 bt246.2.1 bt252.1).f1, bt266.1, (rd_T33 bt246.2.1 bt252.1).f3, (rd_T33 bt246.2.1 bt252.1).f4⟩ : S33)), bt266.2)) else (none)) else (none))) else (if bt254.1 = 2 then ((spec_l30Rd_one.f k s0_0 bt254.2 (([0, 1, 9, 8] : List Int))).bind fun bt272 => (some (bt272.1, bt246.2.1, bt272.2))) else (some (bt246.1, bt246.2.1, bt254.2))))))) else (some (bt246.1, bt246.2.1, bt246.2.2)))) = some (r1, r2, r3) := h
 clear h
 replace H := Option.bind_eq_some_iff.mp H
 obtain ⟨⟨t246, t247, t250⟩, A20, H⟩ := H
 have A2 := ak A20
 clear A20
 by_cases c3 : (t247.length : Int) > 0
 rotate_left
 ·rw [if_neg c3] at H
  have c3b0 : decide (0 < (t247.length : Int)) = false := decide_eq_false c3
  have c3b1 : decide (0 < t247.length) = false := decide_eq_false (by omega)
  clear c3
  simp only [Option.some.injEq, Prod.mk.injEq] at H
  obtain ⟨rfl, rfl, rfl⟩ := H
  go_enter Try.func39, Try.ntmps39
  go_wp2_with (first | ((with_reducible refine gate_dst (N := 2) rfl ?_); refine box_event ?hg (N := 2) ?hd (cs := #[.int .i64 0, .slice none 0 0]) (t := 25) ?hr ?_; (case hd => rfl); (case hg => rfl); (case hr => first | (go_simp; done) | (go_simp; rfl)); intro gb245 hg w84 hbox hb; replace HB := ak (below_step (by repeat (first | (with_reducible first | exact HB.out | apply below_alloc | apply pw_below_drewN | apply below_drew1 | refine below_set ?_ (IsS89.ge HI0.out)) | exact HB.out)) hb); have BK245 := ak (hbox); have GW245 := ak ((by rw [hg]; exact (keep_size (w := w) (g := g) (row := none) (by repeat (first | (with_reducible first | exact HK.out | apply KeepBut.set_ | apply keep_drewN | apply keep_drew | apply keep_alloc) | exact HK.out))) : w.heap.size ≤ gb245)); have GE245 := ak ((Nat.le_trans HW0.out (by rw [hg]; exact (keep_size (w := w) (g := g) (row := none) (by repeat (first | (with_reducible first | exact HK.out | apply KeepBut.set_ | apply keep_drewN | apply keep_drew | apply keep_alloc) | exact HK.out))) : w.heap.size ≤ gb245) : w0.heap.size ≤ gb245)); replace HK := ak (KeepBut.trans (by repeat (first | (with_reducible first | exact HK.out | apply KeepBut.set_ | apply keep_drewN | apply keep_drew | apply keep_alloc) | exact HK.out)) (KeepBut.of_below hb g none) (.inl rfl)); have NB0_245 := ak ((by rw [hg]; exact Nat.ne_of_lt (IsS89.lt (show IsS89 w0 _ g s0_0 s0_1 from by repeat (first | (with_reducible first | exact HI0.out | apply IsS89.alloc | apply IsS89.drewN | apply IsS89.drew | apply IsS89.set_1) | exact HI0.out))) : g ≠ gb245)); have NB245_0 := ak ((by rw [hg]; exact Nat.ne_of_gt (IsS89.lt (show IsS89 w0 _ g s0_0 s0_1 from by repeat (first | (with_reducible first | exact HI0.out | apply IsS89.alloc | apply IsS89.drewN | apply IsS89.drew | apply IsS89.set_1) | exact HI0.out))) : gb245 ≠ g)); replace HI0 := ak (IsS89.below (by repeat (first | (with_reducible first | exact HI0.out | apply IsS89.alloc | apply IsS89.drewN | apply IsS89.drew | apply IsS89.set_1) | exact HI0.out)) hb); clear hb hbox hg) | ((with_reducible refine gate_callee (f := 66) rfl ?_); refine goesL_ (some 6) rfl rfl Try.func66 (by kernel_rfl) rfl #[.pointer (some ⟨g, 0, none⟩)] rfl (by (try simp only [List.map_toArray, List.map_cons, List.map_nil]); first | done | rfl | (simp only [List.length_drop, List.length_take]; rfl)) ?_; (with_reducible refine (spec_l30Net.calls k g s0_0 s0_1 t246 t247 t250 w0 _ ?side1 ?side2 A2.out).mono ?_); (case side1 => repeat (first | (with_reducible first | exact HI0.out | apply IsS89.alloc | apply IsS89.drewN | apply IsS89.drew | apply IsS89.set_1 | refine IsS89.far ?_ NB0_245.out _) | exact HI0.out)); (case side2 => repeat (first | (with_reducible first | exact HB.out | apply below_alloc | apply pw_below_drewN | apply below_drew1 | refine below_set ?_ (IsS89.ge HI0.out) | refine below_set ?_ GE245.out) | exact HB.out)); rintro e w85 ⟨v248, rfl, ho0, hi, hb, hk⟩; refine ⟨_, rfl, ?_⟩; replace BK245 := ak (KeepBut.blk hk (g' := gb245) (o := .cells #[.int .i64 0, .slice none 0 0] 25 (0, 0)) (bk BK245) NB245_0.out (by simp)); have HO249 := ak (Kd.R_lower ho0 (keep_size (w := w) (g := g) (row := none) (by repeat (first | (with_reducible first | exact HK.out | apply KeepBut.set_ | apply keep_drewN | apply keep_drew | apply keep_alloc | refine keep_far ?_ GW245.out _) | exact HK.out)))); replace HK := ak (KeepBut.trans (by repeat (first | (with_reducible first | exact HK.out | apply KeepBut.set_ | apply keep_drewN | apply keep_drew | apply keep_alloc | refine keep_far ?_ GW245.out _) | exact HK.out)) hk (.inl rfl)); replace HB := ak (hb); replace HI0 := ak (hi); (try clear hb); (try clear hb2); (try clear hk); (try clear hi); (try clear ho0)) | ((with_reducible refine gate_dst (N := 3) rfl ?_); refine box_event ?hg (N := 3) ?hd (cs := #[.int .i64 0, .slice none 0 0]) (t := 25) ?hr ?_; (case hd => rfl); (case hg => rfl); (case hr => first | (go_simp; done) | (go_simp; rfl)); intro gb251 hg w86 hbox hb; replace HO249 := ak (Kd.R_below (rk HO249) hb); replace HB := ak (below_step (by repeat (first | (with_reducible first | exact HB.out | apply below_alloc | apply pw_below_drewN | apply below_drew1 | refine below_set ?_ (IsS89.ge HI0.out) | refine below_set ?_ GE245.out) | exact HB.out)) hb); have BK251 := ak (hbox); have GW251 := ak ((by rw [hg]; exact (keep_size (w := w) (g := g) (row := none) (by repeat (first | (with_reducible first | exact HK.out | apply KeepBut.set_ | apply keep_drewN | apply keep_drew | apply keep_alloc | refine keep_far ?_ GW245.out _) | exact HK.out))) : w.heap.size ≤ gb251)); have GE251 := ak ((Nat.le_trans HW0.out (by rw [hg]; exact (keep_size (w := w) (g := g) (row := none) (by repeat (first | (with_reducible first | exact HK.out | apply KeepBut.set_ | apply keep_drewN | apply keep_drew | apply keep_alloc | refine keep_far ?_ GW245.out _) | exact HK.out))) : w.heap.size ≤ gb251) : w0.heap.size ≤ gb251)); replace HK := ak (KeepBut.trans (by repeat (first | (with_reducible first | exact HK.out | apply KeepBut.set_ | apply keep_drewN | apply keep_drew | apply keep_alloc | refine keep_far ?_ GW245.out _) | exact HK.out)) (KeepBut.of_below hb g none) (.inl rfl)); have NB245_251 := ak ((by rw [hg]; exact Nat.ne_of_lt (blk_lt (bk BK245)) : gb245 ≠ gb251)); have NB251_245 := ak ((by rw [hg]; exact Nat.ne_of_gt (blk_lt (bk BK245)) : gb251 ≠ gb245)); replace BK245 := ak (blk_below (bk BK245) hb); have NB0_251 := ak ((by rw [hg]; exact Nat.ne_of_lt (IsS89.lt (show IsS89 w0 _ g s0_0 t250 from by repeat (first | (with_reducible first | exact HI0.out | apply IsS89.alloc | apply IsS89.drewN | apply IsS89.drew | apply IsS89.set_1 | refine IsS89.far ?_ NB0_245.out _) | exact HI0.out))) : g ≠ gb251)); have NB251_0 := ak ((by rw [hg]; exact Nat.ne_of_gt (IsS89.lt (show IsS89 w0 _ g s0_0 t250 from by repeat (first | (with_reducible first | exact HI0.out | apply IsS89.alloc | apply IsS89.drewN | apply IsS89.drew | apply IsS89.set_1 | refine IsS89.far ?_ NB0_245.out _) | exact HI0.out))) : gb251 ≠ g)); replace HI0 := ak (IsS89.below (by repeat (first | (with_reducible first | exact HI0.out | apply IsS89.alloc | apply IsS89.drewN | apply IsS89.drew | apply IsS89.set_1 | refine IsS89.far ?_ NB0_245.out _) | exact HI0.out)) hb); clear hb hbox hg; have hnb87 := NB251_245.out; have hnc87 := NB245_251.out; have hnb88 := NB251_0.out; have hnc88 := NB0_251.out; have hcz89_0 := bc w86 BK251 0 (.int .i64 0) rfl; have hcz89_1 := bc w86 BK251 1 (.slice none 0 0) rfl; have hfz89_0 := fz BK251 0; have hfz89_1 := fz BK251 1; obtain ⟨Ao90, co90, eo90⟩ := Kd.R_slice HO249.out; subst eo90; have hnb91 := NB245_0.out; have hnc91 := NB0_245.out; have hcz92_0 := bc w86 BK245 0 (.int .i64 0) rfl; have hcz92_1 := bc w86 BK245 1 (.slice none 0 0) rfl; have hfz92_0 := fz BK245 0; have hfz92_1 := fz BK245 1))
  refine bodyPost_ret (results_cell_row rfl _ _ gb245 25 #[.int .i64 t246, .slice Ao90 t247.length co90] (0, 0) _ rfl (by (with_reducible repeat (first | refine blk_drewN ?_ _ | refine blk_drew ?_ | refine blk_alloc ?_ _)); refine blk_put (cs := #[.int .i64 t246, .slice none 0 0]) ?_ 1 _ rfl; refine blk_put (cs := #[.int .i64 0, .slice none 0 0]) ?_ 0 _ rfl; refine blk_far ?_ NB245_251.out _; refine blk_far ?_ NB245_251.out _; (with_reducible repeat (first | refine blk_drewN ?_ _ | refine blk_drew ?_ | refine blk_alloc ?_ _)); exact BK245.out) Try.underlying25 rfl (by kernel_rfl)) rfl ?_
  exact ⟨_, by first | rfl | (simp [errW_none, errW_some] <;> rfl) | (simp [*, errW_none, errW_some] <;> rfl), by (with_reducible repeat (first | apply Kd.R_alloc | apply Kd.R_drewN | apply Kd.R_drew)); exact Kd.R_mono (Kd.R_far (p := ⟨gb245, 1, none⟩) (Kd.R_far (p := ⟨gb245, 0, none⟩) (Kd.R_far (p := ⟨gb251, 1, none⟩) (Kd.R_far (p := ⟨gb251, 0, none⟩) (Kd.R_types (Kd.R_types HO249.out BK251.out (by decide)) BK245.out (by decide)) (fun _ hk => hk.1.2) (.int .i64 t246)) (fun _ hk => hk.1.2) (.slice Ao90 t247.length co90)) (fun _ hk => hk.2) (.int .i64 t246)) (fun _ hk => hk.2) (.slice Ao90 t247.length co90)) (fun _ hk => trivial), by repeat (first | (with_reducible first | exact HI0.out | apply IsS89.alloc | apply IsS89.drewN | apply IsS89.drew | apply IsS89.set_1 | refine IsS89.far ?_ NB0_245.out _ | refine IsS89.far ?_ NB0_251.out _) | exact HI0.out), by repeat (first | (with_reducible first | exact HB.out | apply below_alloc | apply pw_below_drewN | apply below_drew1 | refine below_set ?_ (IsS89.ge HI0.out) | refine below_set ?_ GE245.out | refine below_set ?_ GE251.out) | exact HB.out), by repeat (first | (with_reducible first | exact HK.out | apply KeepBut.set_ | apply keep_drewN | apply keep_drew | apply keep_alloc | refine keep_far ?_ GW245.out _ | refine keep_far ?_ GW251.out _) | exact HK.out)⟩
 rw [if_pos c3] at H
 have c3b0 : decide (0 < (t247.length : Int)) = true := decide_eq_true c3
 have c3b1 : decide (0 < t247.length) = true := decide_eq_true (by omega)
 clear c3
 replace H := Option.bind_eq_some_iff.mp H
 obtain ⟨⟨t252, t253⟩, A40, H⟩ := H
 have A4 := ak A40
 clear A40
 replace H := Option.bind_eq_some_iff.mp H
 obtain ⟨⟨t254, t255⟩, A50, H⟩ := H
 have A5 := ak A50
 clear A50
 by_cases c6 : t254 = 0
 ·rw [if_pos c6] at H
  have c6b0 : (t254 == 0) = true := beq_iff_eq.mpr c6
  have c6b1 : (t254 != 0) = false := bne_eq_false_iff_eq.mpr c6
  clear c6
  by_cases c7 : 0 ≤ t252
  rotate_left
  ·rw [if_neg c7] at H
   exact absurd H (by simp)
  rw [if_pos c7] at H
  have c7b0 : decide (0 ≤ t252) = true := decide_eq_true c7
  clear c7
  by_cases c8 : t252 < (t247.length : Int)
  rotate_left
  ·rw [if_neg c8] at H
   exact absurd H (by simp)
  rw [if_pos c8] at H
  have c8b0 : decide (t252 < (t247.length : Int)) = true := decide_eq_true c8
  clear c8
  obtain ⟨y257, hy257⟩ : ∃ y_ : List Int, y_ = (([(-1), 8, (rd_T33 t247 t252).f0] : List Int)) := ⟨_, rfl⟩
  replace H : ((spec_l30Rd_one.f k s0_0 t255 y257).bind fun bt260 => (some (t246, (t247.set (t252 : Int).toNat (⟨(rd_T33 t247 t252).f0, bt260.1, (rd_T33 t247 t252).f2, (rd_T33 t247 t252).f3, (rd_T33 t247 t252).f4⟩ : S33)), bt260.2))) = some (r1, r2, r3) := by first | (rw [hy257]; with_reducible exact H) | (have H2_ := (Option.bind_some _ _).symm.trans H; rw [hy257]; with_reducible exact H2_) | (have H2_ := (Option.bind_some _ _).symm.trans H; with_reducible exact H2_) | with_reducible exact H | (rw [hy257]; exact H) | exact H
  have Ny257 := ak hy257
  clear hy257
  replace H := Option.bind_eq_some_iff.mp H
  obtain ⟨⟨t260, t261⟩, A90, H⟩ := H
  have A9 := ak A90
  clear A90
  obtain ⟨y262, hy262⟩ : ∃ y_ : List (S33), y_ = (t247.set (t252 : Int).toNat (⟨(rd_T33 t247 t252).f0, t260, (rd_T33 t247 t252).f2, (rd_T33 t247 t252).f3, (rd_T33 t247 t252).f4⟩ : S33)) := ⟨_, rfl⟩
  replace H : (some (t246, y262, t261)) = some (r1, r2, r3) := by first | (rw [hy262]; with_reducible exact H) | (have H2_ := (Option.bind_some _ _).symm.trans H; rw [hy262]; with_reducible exact H2_) | (have H2_ := (Option.bind_some _ _).symm.trans H; with_reducible exact H2_) | with_reducible exact H | (rw [hy262]; exact H) | exact H
  have Ny262 := ak hy262
  clear hy262
  simp only [Option.some.injEq, Prod.mk.injEq] at H
  obtain ⟨rfl, rfl, rfl⟩ := H
  go_enter Try.func39, Try.ntmps39
  try go_wp2_with (first | ((with_reducible refine gate_dst (N := 2) rfl ?_); refine box_event ?hg (N := 2) ?hd (cs := #[.int .i64 0, .slice none 0 0]) (t := 25) ?hr ?_; (case hd => rfl); (case hg => rfl); (case hr => first | (go_simp; done) | (go_simp; rfl)); intro gb245 hg w11 hbox hb; replace HB := ak (below_step (by repeat (first | (with_reducible first | exact HB.out | apply below_alloc | apply pw_below_drewN | apply below_drew1 | refine below_set ?_ (IsS89.ge HI0.out)) | exact HB.out)) hb); have BK245 := ak (hbox); have GW245 := ak ((by rw [hg]; exact (keep_size (w := w) (g := g) (row := none) (by repeat (first | (with_reducible first | exact HK.out | apply KeepBut.set_ | apply keep_drewN | apply keep_drew | apply keep_alloc) | exact HK.out))) : w.heap.size ≤ gb245)); have GE245 := ak ((Nat.le_trans HW0.out (by rw [hg]; exact (keep_size (w := w) (g := g) (row := none) (by repeat (first | (with_reducible first | exact HK.out | apply KeepBut.set_ | apply keep_drewN | apply keep_drew | apply keep_alloc) | exact HK.out))) : w.heap.size ≤ gb245) : w0.heap.size ≤ gb245)); replace HK := ak (KeepBut.trans (by repeat (first | (with_reducible first | exact HK.out | apply KeepBut.set_ | apply keep_drewN | apply keep_drew | apply keep_alloc) | exact HK.out)) (KeepBut.of_below hb g none) (.inl rfl)); have NB0_245 := ak ((by rw [hg]; exact Nat.ne_of_lt (IsS89.lt (show IsS89 w0 _ g s0_0 s0_1 from by repeat (first | (with_reducible first | exact HI0.out | apply IsS89.alloc | apply IsS89.drewN | apply IsS89.drew | apply IsS89.set_1) | exact HI0.out))) : g ≠ gb245)); have NB245_0 := ak ((by rw [hg]; exact Nat.ne_of_gt (IsS89.lt (show IsS89 w0 _ g s0_0 s0_1 from by repeat (first | (with_reducible first | exact HI0.out | apply IsS89.alloc | apply IsS89.drewN | apply IsS89.drew | apply IsS89.set_1) | exact HI0.out))) : gb245 ≠ g)); replace HI0 := ak (IsS89.below (by repeat (first | (with_reducible first | exact HI0.out | apply IsS89.alloc | apply IsS89.drewN | apply IsS89.drew | apply IsS89.set_1) | exact HI0.out)) hb); clear hb hbox hg) | ((with_reducible refine gate_callee (f := 66) rfl ?_); refine goesL_ (some 6) rfl rfl Try.func66 (by kernel_rfl) rfl #[.pointer (some ⟨g, 0, none⟩)] rfl (by (try simp only [List.map_toArray, List.map_cons, List.map_nil]); first | done | rfl | (simp only [List.length_drop, List.length_take]; rfl)) ?_; (with_reducible refine (spec_l30Net.calls k g s0_0 s0_1 t246 t247 t250 w0 _ ?side1 ?side2 A2.out).mono ?_); (case side1 => repeat (first | (with_reducible first | exact HI0.out | apply IsS89.alloc | apply IsS89.drewN | apply IsS89.drew | apply IsS89.set_1 | refine IsS89.far ?_ NB0_245.out _) | exact HI0.out)); (case side2 => repeat (first | (with_reducible first | exact HB.out | apply below_alloc | apply pw_below_drewN | apply below_drew1 | refine below_set ?_ (IsS89.ge HI0.out) | refine below_set ?_ GE245.out) | exact HB.out)); rintro e w12 ⟨v248, rfl, ho0, hi, hb, hk⟩; refine ⟨_, rfl, ?_⟩; replace BK245 := ak (KeepBut.blk hk (g' := gb245) (o := .cells #[.int .i64 0, .slice none 0 0] 25 (0, 0)) (bk BK245) NB245_0.out (by simp)); have HO249 := ak (Kd.R_lower ho0 (keep_size (w := w) (g := g) (row := none) (by repeat (first | (with_reducible first | exact HK.out | apply KeepBut.set_ | apply keep_drewN | apply keep_drew | apply keep_alloc | refine keep_far ?_ GW245.out _) | exact HK.out)))); replace HK := ak (KeepBut.trans (by repeat (first | (with_reducible first | exact HK.out | apply KeepBut.set_ | apply keep_drewN | apply keep_drew | apply keep_alloc | refine keep_far ?_ GW245.out _) | exact HK.out)) hk (.inl rfl)); replace HB := ak (hb); replace HI0 := ak (hi); (try clear hb); (try clear hb2); (try clear hk); (try clear hi); (try clear ho0)) | ((with_reducible refine gate_dst (N := 3) rfl ?_); refine box_event ?hg (N := 3) ?hd (cs := #[.int .i64 0, .slice none 0 0]) (t := 25) ?hr ?_; (case hd => rfl); (case hg => rfl); (case hr => first | (go_simp; done) | (go_simp; rfl)); intro gb251 hg w13 hbox hb; replace HO249 := ak (Kd.R_below (rk HO249) hb); replace HB := ak (below_step (by repeat (first | (with_reducible first | exact HB.out | apply below_alloc | apply pw_below_drewN | apply below_drew1 | refine below_set ?_ (IsS89.ge HI0.out) | refine below_set ?_ GE245.out) | exact HB.out)) hb); have BK251 := ak (hbox); have GW251 := ak ((by rw [hg]; exact (keep_size (w := w) (g := g) (row := none) (by repeat (first | (with_reducible first | exact HK.out | apply KeepBut.set_ | apply keep_drewN | apply keep_drew | apply keep_alloc | refine keep_far ?_ GW245.out _) | exact HK.out))) : w.heap.size ≤ gb251)); have GE251 := ak ((Nat.le_trans HW0.out (by rw [hg]; exact (keep_size (w := w) (g := g) (row := none) (by repeat (first | (with_reducible first | exact HK.out | apply KeepBut.set_ | apply keep_drewN | apply keep_drew | apply keep_alloc | refine keep_far ?_ GW245.out _) | exact HK.out))) : w.heap.size ≤ gb251) : w0.heap.size ≤ gb251)); replace HK := ak (KeepBut.trans (by repeat (first | (with_reducible first | exact HK.out | apply KeepBut.set_ | apply keep_drewN | apply keep_drew | apply keep_alloc | refine keep_far ?_ GW245.out _) | exact HK.out)) (KeepBut.of_below hb g none) (.inl rfl)); have NB245_251 := ak ((by rw [hg]; exact Nat.ne_of_lt (blk_lt (bk BK245)) : gb245 ≠ gb251)); have NB251_245 := ak ((by rw [hg]; exact Nat.ne_of_gt (blk_lt (bk BK245)) : gb251 ≠ gb245)); replace BK245 := ak (blk_below (bk BK245) hb); have NB0_251 := ak ((by rw [hg]; exact Nat.ne_of_lt (IsS89.lt (show IsS89 w0 _ g s0_0 t250 from by repeat (first | (with_reducible first | exact HI0.out | apply IsS89.alloc | apply IsS89.drewN | apply IsS89.drew | apply IsS89.set_1 | refine IsS89.far ?_ NB0_245.out _) | exact HI0.out))) : g ≠ gb251)); have NB251_0 := ak ((by rw [hg]; exact Nat.ne_of_gt (IsS89.lt (show IsS89 w0 _ g s0_0 t250 from by repeat (first | (with_reducible first | exact HI0.out | apply IsS89.alloc | apply IsS89.drewN | apply IsS89.drew | apply IsS89.set_1 | refine IsS89.far ?_ NB0_245.out _) | exact HI0.out))) : gb251 ≠ g)); replace HI0 := ak (IsS89.below (by repeat (first | (with_reducible first | exact HI0.out | apply IsS89.alloc | apply IsS89.drewN | apply IsS89.drew | apply IsS89.set_1 | refine IsS89.far ?_ NB0_245.out _) | exact HI0.out)) hb); clear hb hbox hg; have hnb14 := NB251_245.out; have hnc14 := NB245_251.out; have hnb15 := NB251_0.out; have hnc15 := NB0_251.out; have hcz16_0 := bc w13 BK251 0 (.int .i64 0) rfl; have hcz16_1 := bc w13 BK251 1 (.slice none 0 0) rfl; have hfz16_0 := fz BK251 0; have hfz16_1 := fz BK251 1; obtain ⟨Ao17, co17, eo17⟩ := Kd.R_slice HO249.out; subst eo17) | ((with_reducible refine gate_callee (f := 67) rfl ?_); refine goesL_ (some 15) rfl rfl Try.func67 (by kernel_rfl) rfl #[.pointer (some ⟨g, 0, none⟩), .int .i64 (t247.length : Int)] rfl (by (try simp only [List.map_toArray, List.map_cons, List.map_nil]); first | done | rfl | (simp only [List.length_drop, List.length_take]; rfl)) ?_; (with_reducible refine (spec_l30Rd_pick.calls k g s0_0 t250 (t247.length : Int) t252 t253 w0 _ ?side1 ?side2 A4.out).mono ?_); (case side1 => repeat (first | (with_reducible first | exact HI0.out | apply IsS89.alloc | apply IsS89.drewN | apply IsS89.drew | apply IsS89.set_1 | refine IsS89.far ?_ NB0_245.out _ | refine IsS89.far ?_ NB0_251.out _) | exact HI0.out)); (case side2 => repeat (first | (with_reducible first | exact HB.out | apply below_alloc | apply pw_below_drewN | apply below_drew1 | refine below_set ?_ (IsS89.ge HI0.out) | refine below_set ?_ GE245.out | refine below_set ?_ GE251.out) | exact HB.out)); rintro e w18 ⟨rfl, hi, hb, hk⟩; refine ⟨_, rfl, ?_⟩; replace BK245 := ak (KeepBut.blk hk (g' := gb245) (o := .cells #[.int .i64 0, .slice none 0 0] 25 (0, 0)) (by (with_reducible repeat (first | refine blk_drewN ?_ _ | refine blk_drew ?_ | refine blk_alloc ?_ _)); refine blk_far ?_ NB245_251.out _; refine blk_far ?_ NB245_251.out _; (with_reducible repeat (first | refine blk_drewN ?_ _ | refine blk_drew ?_ | refine blk_alloc ?_ _)); exact BK245.out) NB245_0.out (by simp)); replace HO249 := ak (Kd.R_mono (Kd.R_keep (IsS89.apart (show IsS89 w0 _ g s0_0 t250 from by repeat (first | (with_reducible first | exact HI0.out | apply IsS89.alloc | apply IsS89.drewN | apply IsS89.drew | apply IsS89.set_1 | refine IsS89.far ?_ NB0_245.out _ | refine IsS89.far ?_ NB0_251.out _) | exact HI0.out)) (by (with_reducible repeat (first | apply Kd.R_alloc | apply Kd.R_drewN | apply Kd.R_drew)); exact (Kd.R_mono (Kd.R_far (p := ⟨gb251, 1, none⟩) (Kd.R_far (p := ⟨gb251, 0, none⟩) (Kd.R_types HO249.out BK251.out (by decide)) (fun _ hk => hk.2) (.int .i64 t246)) (fun _ hk => hk.2) (.slice Ao17 t247.length co17)) (fun _ h_ => h_.1))) (by decide)) hk (fun _ h => h.2)) (fun _ h => h.1)); replace BK251 := ak (KeepBut.blk hk (g' := gb251) (o := .cells #[.int .i64 t246, .slice Ao17 t247.length co17] 25 (0, 0)) (by (with_reducible repeat (first | refine blk_drewN ?_ _ | refine blk_drew ?_ | refine blk_alloc ?_ _)); refine blk_put (cs := #[.int .i64 t246, .slice none 0 0]) ?_ 1 _ rfl; refine blk_put (cs := #[.int .i64 0, .slice none 0 0]) ?_ 0 _ rfl; (with_reducible repeat (first | refine blk_drewN ?_ _ | refine blk_drew ?_ | refine blk_alloc ?_ _)); exact BK251.out) NB251_0.out (by simp)); replace HK := ak (KeepBut.trans (by repeat (first | (with_reducible first | exact HK.out | apply KeepBut.set_ | apply keep_drewN | apply keep_drew | apply keep_alloc | refine keep_far ?_ GW245.out _ | refine keep_far ?_ GW251.out _) | exact HK.out)) hk (.inl rfl)); replace HB := ak (hb); replace HI0 := ak (hi); (try clear hb); (try clear hb2); (try clear hk); (try clear hi)) | ((with_reducible refine gate_callee (f := 67) rfl ?_); refine goesL_ (some 17) rfl rfl Try.func67 (by kernel_rfl) rfl #[.pointer (some ⟨g, 0, none⟩), .int .i64 16] rfl (by (try simp only [List.map_toArray, List.map_cons, List.map_nil]); first | done | rfl | (simp only [List.length_drop, List.length_take]; rfl)) ?_; (with_reducible refine (spec_l30Rd_pick.calls k g s0_0 t253 16 t254 t255 w0 _ ?side1 ?side2 A5.out).mono ?_); (case side1 => repeat (first | (with_reducible first | exact HI0.out | apply IsS89.alloc | apply IsS89.drewN | apply IsS89.drew | apply IsS89.set_1 | refine IsS89.far ?_ NB0_245.out _ | refine IsS89.far ?_ NB0_251.out _) | exact HI0.out)); (case side2 => repeat (first | (with_reducible first | exact HB.out | apply below_alloc | apply pw_below_drewN | apply below_drew1 | refine below_set ?_ (IsS89.ge HI0.out) | refine below_set ?_ GE245.out | refine below_set ?_ GE251.out) | exact HB.out)); rintro e w19 ⟨rfl, hi, hb, hk⟩; refine ⟨_, rfl, ?_⟩; replace BK245 := ak (KeepBut.blk hk (g' := gb245) (o := .cells #[.int .i64 0, .slice none 0 0] 25 (0, 0)) (bk BK245) NB245_0.out (by simp)); replace HO249 := ak (Kd.R_mono (Kd.R_keep (IsS89.apart (show IsS89 w0 _ g s0_0 t253 from by repeat (first | (with_reducible first | exact HI0.out | apply IsS89.alloc | apply IsS89.drewN | apply IsS89.drew | apply IsS89.set_1 | refine IsS89.far ?_ NB0_245.out _ | refine IsS89.far ?_ NB0_251.out _) | exact HI0.out)) (rk HO249) (by decide)) hk (fun _ h => h.2)) (fun _ h => h.1)); replace BK251 := ak (KeepBut.blk hk (g' := gb251) (o := .cells #[.int .i64 t246, .slice Ao17 t247.length co17] 25 (0, 0)) (bk BK251) NB251_0.out (by simp)); replace HK := ak (KeepBut.trans (by repeat (first | (with_reducible first | exact HK.out | apply KeepBut.set_ | apply keep_drewN | apply keep_drew | apply keep_alloc | refine keep_far ?_ GW245.out _ | refine keep_far ?_ GW251.out _) | exact HK.out)) hk (.inl rfl)); replace HB := ak (hb); replace HI0 := ak (hi); (try clear hb); (try clear hb2); (try clear hk); (try clear hi)))
  replace HO249 := ak (Kd.R_drew HO249.out)
  replace BK245 := ak (blk_drew BK245.out)
  replace BK251 := ak (blk_drew BK251.out)
  replace HI0 := ak (IsS89.drew HI0.out)
  replace HK := ak (keep_drew HK.out)
  replace HB := ak (below_drew1 HB.out)
  have p256 : 0 ≤ (t252 : Int) := oT (by first | (with_reducible assumption) | assumption)
  have q256 : t252 < (t247.length : Int) := oT (by first | (with_reducible assumption) | assumption)
  obtain ⟨ad256, e256, hx256_0, hx256_1, hx256_2, hx256_3, hx256_4⟩ := at_T33 (Kd.R_reads' HO249.out).2.2 t252 p256 q256
  cases e256
  replace p256 := eq_true p256
  replace q256 := eq_true q256
  refine start_ (n := 15) (S := fun w' => w'.cell? ⟨gb251, 0, none⟩ = some (.int .i64 t246) ∧ w'.cell? ⟨gb251, 1, none⟩ = some (.slice (some ad256) t247.length co17) ∧ w'.cell? (ad256.add ((t252).toNat * 5)) = some (.int .i64 ((rd_T33 t247 t252).f0)) ∧ w'.cell? ⟨(ad256.add ((t252).toNat * 5)).block, (ad256.add ((t252).toNat * 5)).off + 1, none⟩ = some (.int .i64 ((rd_T33 t247 t252).f1)) ∧ w'.cell? ⟨(ad256.add ((t252).toNat * 5)).block, (ad256.add ((t252).toNat * 5)).off + 2, none⟩ = some (.int .i64 ((rd_T33 t247 t252).f2)) ∧ w'.cell? ⟨(ad256.add ((t252).toNat * 5)).block, (ad256.add ((t252).toNat * 5)).off + 3, none⟩ = some (.int .i64 ((rd_T33 t247 t252).f3)) ∧ w'.cell? ⟨(ad256.add ((t252).toNat * 5)).block, (ad256.add ((t252).toNat * 5)).off + 4, none⟩ = some (.int .i64 ((rd_T33 t247 t252).f4))) (ds := [14]) (ms 15 0) (by kernel_rfl) rfl (by kernel_rfl) ⟨(blk_cell BK251.out 0).trans rfl, (blk_cell BK251.out 1).trans rfl, hx256_0, hx256_1, hx256_2, hx256_3, hx256_4⟩ (fun hHeld => ?_); refine with_tabW spec_l30AnyNet.tab6 spec_l30AnyNet.bits6 (fun HT_ HW_ => ?_)
  generalize w19.drew = w20 at HO249 BK245 BK251 HI0 HK HB hx256_0 hx256_1 hx256_2 hx256_3 hx256_4 hHeld ⊢
  refine pu 0 20 ?_ (ms 15 1) rfl rfl HT_ (by kernel_rfl) (fun _ _ _ h => h) (by rfl) ?_ ?_ ?_ ?_
  rotate_left
  ·intro w'
   go_simp
   with_reducible rfl
  rotate_left
  ·simp only [SX]
   rfl
  refine pu 2 22 ?_ (ms 15 5) rfl rfl HT_ (by kernel_rfl) (fun _ _ _ h => h) (by rfl) ?_ ?_ ?_ ?_
  rotate_left
  ·intro w'
   go_simp
   with_reducible rfl
  rotate_left
  ·simp only [SX]
   rfl
  refine pu 3 23 ?_ (ms 15 13) rfl rfl HT_ (by kernel_rfl) (fun _ _ _ h => h) (by rfl) ?_ ?_ ?_ ?_
  rotate_left
  ·intro w'
   go_simp
   with_reducible rfl
  rotate_left
  ·simp only [SX]
   rfl
  refine pu 4 24 ?_ (ms 15 29) rfl rfl HT_ (by kernel_rfl) (fun _ _ _ h => h) (by rfl) ?_ ?_ ?_ ?_
  rotate_left
  ·intro w'
   go_simp
   with_reducible rfl
  rotate_left
  ·simp only [SX]
   rfl
  refine pu 6 26 ?_ (ms 15 93) rfl rfl HT_ (by kernel_rfl) (fun _ _ _ h => h) (by rfl) ?_ ?_ ?_ ?_
  rotate_left
  ·intro w'
   go_simp
   with_reducible rfl
  rotate_left
  ·simp only [SX]
   rfl
  refine tk 1 21 ?_ (ms 15 95) rfl rfl HT_ HW_ (by kernel_rfl) (fun _ _ _ h => h) (by rfl) ?_ hHeld ?_ ?_ ?_
  rotate_left
  ·rintro w' ⟨s0, s1, s2, s3, s4, s5, s6⟩
   go_simp
   with_reducible rfl
  rotate_left
  ·simp only [SX]
   rfl
  refine tk 5 25 ?_ (ms 15 127) rfl rfl HT_ HW_ (by kernel_rfl) (fun _ _ _ h => h) (by rfl) ?_ hHeld ?_ ?_ ?_
  rotate_left
  ·rintro w' ⟨s0, s1, s2, s3, s4, s5, s6⟩
   go_simp
   with_reducible rfl
  rotate_left
  ·simp only [SX]
   rfl
  refine pu 7 27 ?_ (ms 15 255) rfl rfl HT_ (by kernel_rfl) (fun _ _ _ h => h) (by rfl) ?_ ?_ ?_ ?_
  rotate_left
  ·intro w'
   go_simp
   with_reducible rfl
  rotate_left
  ·simp only [SX]
   rfl
  refine pu 8 28 ?_ (ms 15 511) rfl rfl HT_ (by kernel_rfl) (fun _ _ _ h => h) (by rfl) ?_ ?_ ?_ ?_
  rotate_left
  ·intro w'
   go_simp
   with_reducible rfl
  rotate_left
  ·simp only [SX]
   rfl
  refine tk 9 29 ?_ (ms 15 1023) rfl rfl HT_ HW_ (by kernel_rfl) (fun _ _ _ h => h) (by rfl) ?_ hHeld ?_ ?_ ?_
  rotate_left
  ·rintro w' ⟨s0, s1, s2, s3, s4, s5, s6⟩
   go_simp
   with_reducible rfl
  rotate_left
  ·simp only [SX]
   rfl
  refine one_ (i := 10) (N := some 30) (ms 15 2047) rfl rfl (one_of HT_.out (by kernel_rfl)) (by decide) (fun K hK => ?_)
  refine Kd.R_lit_step (Kd.int .i64) _ 3 ?hg (N := 30) ?hd (xs := ([(-1), 8, (rd_T33 t247 t252).f0] : List Int)) (inner := [.int .i64 (-1), .int .i64 8, .int .i64 ((rd_T33 t247 t252).f0)]) (ok := fun _ => True) (okp := fun _ => True) ?hr ?hp (fun _ hk => hk) trivial (Below.refl _ _) (Nat.le_refl _) (by simp) ?_; (case hd => rfl); (case hg => rfl); (case hr => first | (go_simp; done) | (go_simp; rfl)); (case hp => exact (Reps.one (show Kd.M (Kd.int .i64) _ _ _ (-1) [.int .i64 (-1)] from rfl) (Reps.one (show Kd.M (Kd.int .i64) _ _ _ 8 [.int .i64 8] from rfl) (Reps.one (show Kd.M (Kd.int .i64) _ _ _ ((rd_T33 t247 t252).f0) [.int .i64 ((rd_T33 t247 t252).f0)] from rfl) (Reps.none _ _)))))
  intro v258 w21 ho22 hb hg_ hnew_
  have HS2_ := (hb.cell (World.block_lt_of_cell? _ _ (hHeld.2.2.1))).trans (hHeld.2.2.1)
  have HS3_ := (hb.cell (World.block_lt_of_cell? _ _ (hHeld.2.2.2.1))).trans (hHeld.2.2.2.1)
  have HS4_ := (hb.cell (World.block_lt_of_cell? _ _ (hHeld.2.2.2.2.1))).trans (hHeld.2.2.2.2.1)
  have HS5_ := (hb.cell (World.block_lt_of_cell? _ _ (hHeld.2.2.2.2.2.1))).trans (hHeld.2.2.2.2.2.1)
  have HS6_ := (hb.cell (World.block_lt_of_cell? _ _ (hHeld.2.2.2.2.2.2))).trans (hHeld.2.2.2.2.2.2)
  clear hg_ hnew_
  (first | rw [← Ny257.out] at ho22 | (simp only [Int.reduceToNat] at ho22; rw [← Ny257.out] at ho22))
  replace HO249 := ak (Kd.R_below (rk HO249) hb)
  have HO259 := ak (Kd.R_lower ho22 (keep_size (w := w) (g := g) (row := none) (by repeat (first | (with_reducible first | exact HK.out | apply KeepBut.set_ | apply keep_drewN | apply keep_drew | apply keep_alloc | refine keep_far ?_ GW245.out _ | refine keep_far ?_ GW251.out _) | exact HK.out))))
  replace BK245 := ak (blk_below (bk BK245) hb)
  replace BK251 := ak (blk_below (bk BK251) hb)
  replace HK := ak (KeepBut.trans (by repeat (first | (with_reducible first | exact HK.out | apply KeepBut.set_ | apply keep_drewN | apply keep_drew | apply keep_alloc | refine keep_far ?_ GW245.out _ | refine keep_far ?_ GW251.out _) | exact HK.out)) (KeepBut.of_below hb g none) (.inl rfl))
  replace HB := ak (below_step (by repeat (first | (with_reducible first | exact HB.out | apply below_alloc | apply pw_below_drewN | apply below_drew1 | refine below_set ?_ (IsS89.ge HI0.out) | refine below_set ?_ GE245.out | refine below_set ?_ GE251.out) | exact HB.out)) hb)
  replace HI0 := ak (IsS89.below (by repeat (first | (with_reducible first | exact HI0.out | apply IsS89.alloc | apply IsS89.drewN | apply IsS89.drew | apply IsS89.set_1 | refine IsS89.far ?_ NB0_245.out _ | refine IsS89.far ?_ NB0_251.out _) | exact HI0.out)) hb)
  clear hb ho22
  obtain ⟨Ao23, co23, eo23⟩ := Kd.R_slice HO259.out
  (first | subst eo23 | (injection eo23 with f1_ f2_ f3_; have f4_ := f1_.symm; have f5_ := f3_.symm; clear f1_ f2_ f3_; subst f4_; subst f5_))
  refine hK.out _ _ ⟨(blk_cell BK251.out 0).trans rfl, (blk_cell BK251.out 1).trans rfl, HS2_, HS3_, HS4_, HS5_, HS6_⟩ (fun hHeld => ?_)
  clear hK K
  refine norm_ (a' := ?_) ?_ ?_
  rotate_left
  ·show Act.put _ (some 30) _ = _
   simp only [SX]
   rfl
  refine one_ (i := 11) (N := some 31) (ms 15 4095) rfl rfl (one_of HT_.out (by kernel_rfl)) (by decide) (fun K hK => ?_)
  refine goes_ Try.func58 (by kernel_rfl) rfl #[.pointer (some ⟨g, 0, none⟩), .slice Ao23 y257.length co23] (by rfl) rfl rfl (by (try simp only [List.map_toArray, List.map_cons, List.map_nil]); first | done | rfl | (simp only [List.length_drop, List.length_take]; rfl)) ?_
  with_reducible refine (spec_l30Rd_one.calls k g s0_0 t255 _ _ y257 t260 t261 w0 _ ?side1 ?side2 ?side3 ?side4 ?side5 A9.out).mono ?_
  (case side1 => repeat (first | (with_reducible first | exact HI0.out | apply IsS89.alloc | apply IsS89.drewN | apply IsS89.drew | apply IsS89.set_1 | refine IsS89.far ?_ NB0_245.out _ | refine IsS89.far ?_ NB0_251.out _) | exact HI0.out))
  (case side2 => repeat (first | (with_reducible first | exact HB.out | apply below_alloc | apply pw_below_drewN | apply below_drew1 | refine below_set ?_ (IsS89.ge HI0.out) | refine below_set ?_ GE245.out | refine below_set ?_ GE251.out) | exact HB.out))
  (case side3 => repeat (first | exact (Kd.R_reads' HO259.out).2.2 | (with_reducible refine Kd.C_alloc ?_ _) | (with_reducible refine Kd.C_drewN ?_ _) | (with_reducible refine Kd.C_drew ?_)))
  (case side4 => exact (Kd.R_reads' HO259.out).2.1)
  (case side5 => exact far_slice (IsS89.own_ne HI0.out HO259.out (by decide)))
  rintro e w24 ⟨rfl, hi, hb, hk⟩
  have HS2_ := keep_cell hk (hHeld.2.2.1) (by first | (rw [add_block]; exact Kd.own_blk (IsS89.own_ne HI0.out HO249.out (by decide))) | (show (Addr.add _ _).block ≠ _; rw [add_block]; exact Kd.own_blk (IsS89.own_ne HI0.out HO249.out (by decide))) | exact Kd.own_blk (IsS89.own_ne HI0.out HO249.out (by decide)))
  have HS3_ := keep_cell hk (hHeld.2.2.2.1) (by first | (rw [add_block]; exact Kd.own_blk (IsS89.own_ne HI0.out HO249.out (by decide))) | (show (Addr.add _ _).block ≠ _; rw [add_block]; exact Kd.own_blk (IsS89.own_ne HI0.out HO249.out (by decide))) | exact Kd.own_blk (IsS89.own_ne HI0.out HO249.out (by decide)))
  have HS4_ := keep_cell hk (hHeld.2.2.2.2.1) (by first | (rw [add_block]; exact Kd.own_blk (IsS89.own_ne HI0.out HO249.out (by decide))) | (show (Addr.add _ _).block ≠ _; rw [add_block]; exact Kd.own_blk (IsS89.own_ne HI0.out HO249.out (by decide))) | exact Kd.own_blk (IsS89.own_ne HI0.out HO249.out (by decide)))
  have HS5_ := keep_cell hk (hHeld.2.2.2.2.2.1) (by first | (rw [add_block]; exact Kd.own_blk (IsS89.own_ne HI0.out HO249.out (by decide))) | (show (Addr.add _ _).block ≠ _; rw [add_block]; exact Kd.own_blk (IsS89.own_ne HI0.out HO249.out (by decide))) | exact Kd.own_blk (IsS89.own_ne HI0.out HO249.out (by decide)))
  have HS6_ := keep_cell hk (hHeld.2.2.2.2.2.2) (by first | (rw [add_block]; exact Kd.own_blk (IsS89.own_ne HI0.out HO249.out (by decide))) | (show (Addr.add _ _).block ≠ _; rw [add_block]; exact Kd.own_blk (IsS89.own_ne HI0.out HO249.out (by decide))) | exact Kd.own_blk (IsS89.own_ne HI0.out HO249.out (by decide)))
  refine ⟨_, rfl, ?_⟩
  replace BK245 := ak (KeepBut.blk hk (g' := gb245) (o := .cells #[.int .i64 0, .slice none 0 0] 25 (0, 0)) (bk BK245) NB245_0.out (by simp))
  replace HO249 := ak (Kd.R_mono (Kd.R_keep (IsS89.apart (show IsS89 w0 _ g s0_0 t255 from by repeat (first | (with_reducible first | exact HI0.out | apply IsS89.alloc | apply IsS89.drewN | apply IsS89.drew | apply IsS89.set_1 | refine IsS89.far ?_ NB0_245.out _ | refine IsS89.far ?_ NB0_251.out _) | exact HI0.out)) (rk HO249) (by decide)) hk (fun _ h => h.2)) (fun _ h => h.1))
  replace BK251 := ak (KeepBut.blk hk (g' := gb251) (o := .cells #[.int .i64 t246, .slice (some ad256) t247.length co17] 25 (0, 0)) (bk BK251) NB251_0.out (by simp))
  replace HO259 := ak (Kd.R_mono (Kd.R_keep (IsS89.apart (show IsS89 w0 _ g s0_0 t255 from by repeat (first | (with_reducible first | exact HI0.out | apply IsS89.alloc | apply IsS89.drewN | apply IsS89.drew | apply IsS89.set_1 | refine IsS89.far ?_ NB0_245.out _ | refine IsS89.far ?_ NB0_251.out _) | exact HI0.out)) (rk HO259) (by decide)) hk (fun _ h => h.2)) (fun _ h => h.1))
  replace HK := ak (KeepBut.trans (by repeat (first | (with_reducible first | exact HK.out | apply KeepBut.set_ | apply keep_drewN | apply keep_drew | apply keep_alloc | refine keep_far ?_ GW245.out _ | refine keep_far ?_ GW251.out _) | exact HK.out)) hk (.inl rfl))
  replace HB := ak (hb)
  replace HI0 := ak (hi)
  (try clear hb)
  (try clear hb2)
  (try clear hk)
  (try clear hi)
  have p10 : 0 ≤ (t252 : Int) := oT (by first | (with_reducible assumption) | assumption)
  have q10 : (t252 : Int) < ((t247.length : Int) : Int) := oT (by first | (with_reducible assumption) | assumption)
  obtain ⟨go10, co10, eo10, gb10, gl10, cl10, HG10⟩ := Kd.R_form HO249.out (by omega)
  (first | cases eo10 | (injection eo10 with ea_ en_ ec_; (first | subst ea_ | (injection ea_ with ea_; subst ea_)); subst ec_; clear en_))
  have GB10 := ak gb10
  have GG10 := ak HG10
  clear gb10 gl10 HG10
  (first | simp only [add_plain] at hx256_0 | skip)
  (first | simp only [add_plain] at hx256_1 | skip)
  (first | simp only [add_plain] at hx256_2 | skip)
  (first | simp only [add_plain] at hx256_3 | skip)
  (first | simp only [add_plain] at hx256_4 | skip)
  obtain ⟨ce10, hcl10, hM10, hcc10, hfr10⟩ := Kd.R_elem HO249.out z33 (t252 : Int) p10 q10
  obtain rfl := k33_openM hM10
  have hx10_0 : World.cell? _ ⟨go10, (t252 : Int).toNat * 5, none⟩ = some (.int .i64 ((rd_T33 t247 t252).f0)) := hcc10 0 _ rfl
  have hx10_1 : World.cell? _ ⟨go10, (t252 : Int).toNat * 5 + 1, none⟩ = some (.int .i64 ((rd_T33 t247 t252).f1)) := hcc10 1 _ rfl
  have hx10_2 : World.cell? _ ⟨go10, (t252 : Int).toNat * 5 + 2, none⟩ = some (.int .i64 ((rd_T33 t247 t252).f2)) := hcc10 2 _ rfl
  have hx10_3 : World.cell? _ ⟨go10, (t252 : Int).toNat * 5 + 3, none⟩ = some (.int .i64 ((rd_T33 t247 t252).f3)) := hcc10 3 _ rfl
  have hx10_4 : World.cell? _ ⟨go10, (t252 : Int).toNat * 5 + 4, none⟩ = some (.int .i64 ((rd_T33 t247 t252).f4)) := hcc10 4 _ rfl
  have hf10_0 : World.frozen? _ ⟨go10, (t252 : Int).toNat * 5, none⟩ = false := hfr10 0
  have hf10_1 : World.frozen? _ ⟨go10, (t252 : Int).toNat * 5 + 1, none⟩ = false := hfr10 1
  have hf10_2 : World.frozen? _ ⟨go10, (t252 : Int).toNat * 5 + 2, none⟩ = false := hfr10 2
  have hf10_3 : World.frozen? _ ⟨go10, (t252 : Int).toNat * 5 + 3, none⟩ = false := hfr10 3
  have hf10_4 : World.frozen? _ ⟨go10, (t252 : Int).toNat * 5 + 4, none⟩ = false := hfr10 4
  clear hcl10 hcc10 hfr10 hM10
  replace p10 := eq_true p10
  replace q10 := eq_true q10
  have HN0_go10 := ak (show g ≠ go10 from by have h_ := IsS89.own_ne HI0.out HO249.out (by decide); intro e_; exact h_ (by rw [e_]; rfl))
  obtain ⟨ce25, hcl25, hM25, hcc25, hfr25⟩ := Kd.R_elem HO249.out z33 (t252 : Int) (oT (by first | (with_reducible assumption) | assumption)) (by have h_ : (t252 : Int) < ((t247.length : Int) : Int) := oT (by first | (with_reducible assumption) | assumption); first | exact h_ | (have e_ := (Kd.R_reads' HO249.out).1; omega) | simpa using h_)
  obtain rfl := k33_openM hM25
  have HP25 := (Kd.R_seg HO249.out (t252 : Int) (oT (by first | (with_reducible assumption) | assumption)) (by have h_ : (t252 : Int) < ((t247.length : Int) : Int) := oT (by first | (with_reducible assumption) | assumption); first | exact h_ | (have e_ := (Kd.R_reads' HO249.out).1; omega) | simpa using h_) (seg := [.int .i64 t260]) (j := 1) hcl25 hcc25 (show 2 ≤ 5 from by decide) (x' := (⟨(rd_T33 t247 t252).f0, t260, (rd_T33 t247 t252).f2, (rd_T33 t247 t252).f3, (rd_T33 t247 t252).f4⟩ : S33)) (k33_mkM _ _ _ (⟨(rd_T33 t247 t252).f0, t260, (rd_T33 t247 t252).f2, (rd_T33 t247 t252).f3, (rd_T33 t247 t252).f4⟩ : S33) ) (fun _ hk => hk)).1
  rw [← Ny262.out] at HP25
  have HQ25 := ak HP25
  clear hcl25 hcc25 hfr25 hM25 HP25
  refine hK.out _ _ ⟨(blk_cell BK251.out 0).trans rfl, (blk_cell BK251.out 1).trans rfl, HS2_, HS3_, HS4_, HS5_, HS6_⟩ (fun hHeld => ?_)
  clear hK K
  refine norm_ (a' := ?_) ?_ ?_
  rotate_left
  ·show Act.put _ (some 31) _ = _
   simp only [SX]
   rfl
  refine pu 12 32 ?_ (ms 15 8191) rfl rfl HT_ (by kernel_rfl) (fun _ _ _ h => h) (by rfl) ?_ ?_ ?_ ?_
  rotate_left
  ·intro w'
   go_simp
   with_reducible rfl
  rotate_left
  ·simp only [SX]
   rfl
  refine pu 13 33 ?_ (ms 15 16383) rfl rfl HT_ (by kernel_rfl) (fun _ _ _ h => h) (by rfl) ?_ ?_ ?_ ?_
  rotate_left
  ·intro w'
   go_simp
   with_reducible rfl
  rotate_left
  ·simp only [SX]
   rfl
  refine last_ (i := 14) (N := none) (ms 15 32767) rfl rfl (one_of HT_.out (by kernel_rfl)) (by decide) (fun K hK => ?_)
  refine skip_ (w1 := ?_) (by rfl) rfl ?_ ?_
  rotate_left
  ·go_simp
   rfl
  refine hK.out _ _ ?_
  clear hK K
  refine done_ (done_of HT_.out (by kernel_rfl)) ?_
  have n0_ : Aside0 (Kd.R k33 33 (w24.setCell ⟨go10, (t252 : Int).toNat * 5 + 1, none⟩ (.int .i64 t260)) w.heap.size (fun _ => True) (.slice (some ⟨go10, 0, none⟩) t247.length co17) y262) := ⟨by (with_reducible repeat (first | apply Kd.R_alloc | apply Kd.R_drewN | apply Kd.R_drew)); exact HQ25.out⟩
  have n1_ : Aside0 (Kd.R (Kd.int .i64) 3 (w24.setCell ⟨go10, (t252 : Int).toNat * 5 + 1, none⟩ (.int .i64 t260)) w.heap.size (fun _ => True) (.slice Ao23 y257.length co23) y257) := ⟨by (with_reducible repeat (first | apply Kd.R_alloc | apply Kd.R_drewN | apply Kd.R_drew)); exact Kd.R_mono (Kd.R_far (p := ⟨go10, (t252 : Int).toNat * 5 + 1, none⟩) (Kd.R_types HO259.out GG10.out (by decide)) (fun _ hk => hk.2) (.int .i64 t260)) (fun _ hk => trivial)⟩
  have n2_ : Aside0 ((w24.setCell ⟨go10, (t252 : Int).toNat * 5 + 1, none⟩ (.int .i64 t260)).heap[gb245]? = some (.cells #[.int .i64 0, .slice none 0 0] 25 (0, 0))) := ⟨by (with_reducible repeat (first | refine blk_drewN ?_ _ | refine blk_drew ?_ | refine blk_alloc ?_ _)); refine blk_far ?_ (by have h_ := Kd.R_ne HO249.out BK245.out (by decide); intro e_; exact h_ (by rw [e_]; rfl)) _; (with_reducible repeat (first | refine blk_drewN ?_ _ | refine blk_drew ?_ | refine blk_alloc ?_ _)); exact BK245.out⟩
  have n3_ : Aside0 ((w24.setCell ⟨go10, (t252 : Int).toNat * 5 + 1, none⟩ (.int .i64 t260)).heap[gb251]? = some (.cells #[.int .i64 t246, .slice (some ⟨go10, 0, none⟩) t247.length co17] 25 (0, 0))) := ⟨by (with_reducible repeat (first | refine blk_drewN ?_ _ | refine blk_drew ?_ | refine blk_alloc ?_ _)); refine blk_far ?_ (by have h_ := Kd.R_ne HO249.out BK251.out (by decide); intro e_; exact h_ (by rw [e_]; rfl)) _; (with_reducible repeat (first | refine blk_drewN ?_ _ | refine blk_drew ?_ | refine blk_alloc ?_ _)); exact BK251.out⟩
  have n4_ : Aside0 (IsS89 w0 (w24.setCell ⟨go10, (t252 : Int).toNat * 5 + 1, none⟩ (.int .i64 t260)) g s0_0 t261) := ⟨by repeat (first | (with_reducible first | exact HI0.out | apply IsS89.alloc | apply IsS89.drewN | apply IsS89.drew | apply IsS89.set_1 | refine IsS89.far ?_ HN0_go10.out _ | refine IsS89.far ?_ NB0_245.out _ | refine IsS89.far ?_ NB0_251.out _) | exact HI0.out)⟩
  have n5_ : Aside0 (KeepBut w (w24.setCell ⟨go10, (t252 : Int).toNat * 5 + 1, none⟩ (.int .i64 t260)) g none) := ⟨by repeat (first | (with_reducible first | exact HK.out | apply KeepBut.set_ | apply keep_drewN | apply keep_drew | apply keep_alloc | refine keep_far ?_ GB10.out _ | refine keep_far ?_ GW245.out _ | refine keep_far ?_ GW251.out _) | exact HK.out)⟩
  have n6_ : Aside0 (Below w0.heap.size w0 (w24.setCell ⟨go10, (t252 : Int).toNat * 5 + 1, none⟩ (.int .i64 t260))) := ⟨by repeat (first | (with_reducible first | exact HB.out | apply below_alloc | apply pw_below_drewN | apply below_drew1 | refine below_set ?_ (Nat.le_trans HL.out GB10.out) | refine below_set ?_ (IsS89.ge HI0.out) | refine below_set ?_ GE245.out | refine below_set ?_ GE251.out) | exact HB.out)⟩
  (try clear HO249)
  (try clear HO259)
  (try clear BK245)
  (try clear BK251)
  (try clear HI0)
  (try clear HK)
  (try clear HB)
  generalize (w24.setCell ⟨go10, (t252 : Int).toNat * 5 + 1, none⟩ (.int .i64 t260)) = w26 at n0_ n1_ n2_ n3_ n4_ n5_ n6_ ⊢
  have HO249 := n0_
  have HO259 := n1_
  have BK245 := n2_
  have BK251 := n3_
  have HI0 := n4_
  have HK := n5_
  have HB := n6_
  clear n0_ n1_ n2_ n3_ n4_ n5_ n6_
  have hcz27_0 := bc w26 BK251 0 (.int .i64 t246) rfl
  have hcz27_1 := bc w26 BK251 1 (.slice (some ⟨go10, 0, none⟩) t247.length co17) rfl
  have hfz27_0 := fz BK251 0
  have hfz27_1 := fz BK251 1
  have hnb28 := NB245_0.out
  have hnc28 := NB0_245.out
  have hcz29_0 := bc w26 BK245 0 (.int .i64 0) rfl
  have hcz29_1 := bc w26 BK245 1 (.slice none 0 0) rfl
  have hfz29_0 := fz BK245 0
  have hfz29_1 := fz BK245 1
  try go_wp2
  refine bodyPost_ret (results_cell_row rfl _ _ gb245 25 #[.int .i64 t246, .slice (some ⟨go10, 0, none⟩) t247.length co17] (0, 0) _ rfl (by (with_reducible repeat (first | refine blk_drewN ?_ _ | refine blk_drew ?_ | refine blk_alloc ?_ _)); refine blk_put (cs := #[.int .i64 t246, .slice none 0 0]) ?_ 1 _ rfl; refine blk_put (cs := #[.int .i64 0, .slice none 0 0]) ?_ 0 _ rfl; (with_reducible repeat (first | refine blk_drewN ?_ _ | refine blk_drew ?_ | refine blk_alloc ?_ _)); exact BK245.out) Try.underlying25 rfl (by kernel_rfl)) rfl ?_
  exact ⟨_, by first | rfl | (simp [errW_none, errW_some] <;> rfl) | (simp [*, errW_none, errW_some] <;> rfl), by (with_reducible repeat (first | apply Kd.R_alloc | apply Kd.R_drewN | apply Kd.R_drew)); exact Kd.R_mono (Kd.R_far (p := ⟨gb245, 1, none⟩) (Kd.R_far (p := ⟨gb245, 0, none⟩) (Kd.R_types HO249.out BK245.out (by decide)) (fun _ hk => hk.2) (.int .i64 t246)) (fun _ hk => hk.2) (.slice (some ⟨go10, 0, none⟩) t247.length co17)) (fun _ hk => trivial), by repeat (first | (with_reducible first | exact HI0.out | apply IsS89.alloc | apply IsS89.drewN | apply IsS89.drew | apply IsS89.set_1 | refine IsS89.far ?_ NB0_245.out _ | refine IsS89.far ?_ NB0_251.out _) | exact HI0.out), by repeat (first | (with_reducible first | exact HB.out | apply below_alloc | apply pw_below_drewN | apply below_drew1 | refine below_set ?_ (IsS89.ge HI0.out) | refine below_set ?_ GE245.out | refine below_set ?_ GE251.out) | exact HB.out), by repeat (first | (with_reducible first | exact HK.out | apply KeepBut.set_ | apply keep_drewN | apply keep_drew | apply keep_alloc | refine keep_far ?_ GW245.out _ | refine keep_far ?_ GW251.out _) | exact HK.out)⟩
 rw [if_neg c6] at H
 have c6b0 : (t254 == 0) = false := beq_eq_false_iff_ne.mpr c6
 have c6b1 : (t254 != 0) = true := bne_iff_ne.mpr c6
 by_cases c30 : t254 = 1
 ·rw [if_pos c30] at H
  have c30b0 : (t254 == 1) = true := beq_iff_eq.mpr c30
  have c30b1 : (t254 != 1) = false := bne_eq_false_iff_eq.mpr c30
  clear c30
  obtain ⟨y263, hy263⟩ : ∃ y_ : List Int, y_ = (([(-1), 100] : List Int)) := ⟨_, rfl⟩
  replace H : ((spec_l30Rd_one.f k s0_0 t255 y263).bind fun bt266 => (if 0 ≤ t252 then (if t252 < (t247.length : Int) then (some (t246, (t247.set (t252 : Int).toNat (⟨(rd_T33 t247 t252).f0, (rd_T33 t247 t252).f1, bt266.1, (rd_T33 t247 t252).f3, (rd_T33 t247 t252).f4⟩ : S33)), bt266.2)) else (none)) else (none))) = some (r1, r2, r3) := by first | (rw [hy263]; with_reducible exact H) | (have H2_ := (Option.bind_some _ _).symm.trans H; rw [hy263]; with_reducible exact H2_) | (have H2_ := (Option.bind_some _ _).symm.trans H; with_reducible exact H2_) | with_reducible exact H | (rw [hy263]; exact H) | exact H
  have Ny263 := ak hy263
  clear hy263
  replace H := Option.bind_eq_some_iff.mp H
  obtain ⟨⟨t266, t267⟩, A310, H⟩ := H
  have A31 := ak A310
  clear A310
  by_cases c32 : 0 ≤ t252
  rotate_left
  ·rw [if_neg c32] at H
   exact absurd H (by simp)
  rw [if_pos c32] at H
  have c32b0 : decide (0 ≤ t252) = true := decide_eq_true c32
  clear c32
  by_cases c33 : t252 < (t247.length : Int)
  rotate_left
  ·rw [if_neg c33] at H
   exact absurd H (by simp)
  rw [if_pos c33] at H
  have c33b0 : decide (t252 < (t247.length : Int)) = true := decide_eq_true c33
  clear c33
  obtain ⟨y268, hy268⟩ : ∃ y_ : List (S33), y_ = (t247.set (t252 : Int).toNat (⟨(rd_T33 t247 t252).f0, (rd_T33 t247 t252).f1, t266, (rd_T33 t247 t252).f3, (rd_T33 t247 t252).f4⟩ : S33)) := ⟨_, rfl⟩
  replace H : (some (t246, y268, t267)) = some (r1, r2, r3) := by first | (rw [hy268]; with_reducible exact H) | (have H2_ := (Option.bind_some _ _).symm.trans H; rw [hy268]; with_reducible exact H2_) | (have H2_ := (Option.bind_some _ _).symm.trans H; with_reducible exact H2_) | with_reducible exact H | (rw [hy268]; exact H) | exact H
  have Ny268 := ak hy268
  clear hy268
  simp only [Option.some.injEq, Prod.mk.injEq] at H
  obtain ⟨rfl, rfl, rfl⟩ := H
  go_enter Try.func39, Try.ntmps39
  try go_wp2_with (first | ((with_reducible refine gate_dst (N := 2) rfl ?_); refine box_event ?hg (N := 2) ?hd (cs := #[.int .i64 0, .slice none 0 0]) (t := 25) ?hr ?_; (case hd => rfl); (case hg => rfl); (case hr => first | (go_simp; done) | (go_simp; rfl)); intro gb245 hg w35 hbox hb; replace HB := ak (below_step (by repeat (first | (with_reducible first | exact HB.out | apply below_alloc | apply pw_below_drewN | apply below_drew1 | refine below_set ?_ (IsS89.ge HI0.out)) | exact HB.out)) hb); have BK245 := ak (hbox); have GW245 := ak ((by rw [hg]; exact (keep_size (w := w) (g := g) (row := none) (by repeat (first | (with_reducible first | exact HK.out | apply KeepBut.set_ | apply keep_drewN | apply keep_drew | apply keep_alloc) | exact HK.out))) : w.heap.size ≤ gb245)); have GE245 := ak ((Nat.le_trans HW0.out (by rw [hg]; exact (keep_size (w := w) (g := g) (row := none) (by repeat (first | (with_reducible first | exact HK.out | apply KeepBut.set_ | apply keep_drewN | apply keep_drew | apply keep_alloc) | exact HK.out))) : w.heap.size ≤ gb245) : w0.heap.size ≤ gb245)); replace HK := ak (KeepBut.trans (by repeat (first | (with_reducible first | exact HK.out | apply KeepBut.set_ | apply keep_drewN | apply keep_drew | apply keep_alloc) | exact HK.out)) (KeepBut.of_below hb g none) (.inl rfl)); have NB0_245 := ak ((by rw [hg]; exact Nat.ne_of_lt (IsS89.lt (show IsS89 w0 _ g s0_0 s0_1 from by repeat (first | (with_reducible first | exact HI0.out | apply IsS89.alloc | apply IsS89.drewN | apply IsS89.drew | apply IsS89.set_1) | exact HI0.out))) : g ≠ gb245)); have NB245_0 := ak ((by rw [hg]; exact Nat.ne_of_gt (IsS89.lt (show IsS89 w0 _ g s0_0 s0_1 from by repeat (first | (with_reducible first | exact HI0.out | apply IsS89.alloc | apply IsS89.drewN | apply IsS89.drew | apply IsS89.set_1) | exact HI0.out))) : gb245 ≠ g)); replace HI0 := ak (IsS89.below (by repeat (first | (with_reducible first | exact HI0.out | apply IsS89.alloc | apply IsS89.drewN | apply IsS89.drew | apply IsS89.set_1) | exact HI0.out)) hb); clear hb hbox hg) | ((with_reducible refine gate_callee (f := 66) rfl ?_); refine goesL_ (some 6) rfl rfl Try.func66 (by kernel_rfl) rfl #[.pointer (some ⟨g, 0, none⟩)] rfl (by (try simp only [List.map_toArray, List.map_cons, List.map_nil]); first | done | rfl | (simp only [List.length_drop, List.length_take]; rfl)) ?_; (with_reducible refine (spec_l30Net.calls k g s0_0 s0_1 t246 t247 t250 w0 _ ?side1 ?side2 A2.out).mono ?_); (case side1 => repeat (first | (with_reducible first | exact HI0.out | apply IsS89.alloc | apply IsS89.drewN | apply IsS89.drew | apply IsS89.set_1 | refine IsS89.far ?_ NB0_245.out _) | exact HI0.out)); (case side2 => repeat (first | (with_reducible first | exact HB.out | apply below_alloc | apply pw_below_drewN | apply below_drew1 | refine below_set ?_ (IsS89.ge HI0.out) | refine below_set ?_ GE245.out) | exact HB.out)); rintro e w36 ⟨v248, rfl, ho0, hi, hb, hk⟩; refine ⟨_, rfl, ?_⟩; replace BK245 := ak (KeepBut.blk hk (g' := gb245) (o := .cells #[.int .i64 0, .slice none 0 0] 25 (0, 0)) (bk BK245) NB245_0.out (by simp)); have HO249 := ak (Kd.R_lower ho0 (keep_size (w := w) (g := g) (row := none) (by repeat (first | (with_reducible first | exact HK.out | apply KeepBut.set_ | apply keep_drewN | apply keep_drew | apply keep_alloc | refine keep_far ?_ GW245.out _) | exact HK.out)))); replace HK := ak (KeepBut.trans (by repeat (first | (with_reducible first | exact HK.out | apply KeepBut.set_ | apply keep_drewN | apply keep_drew | apply keep_alloc | refine keep_far ?_ GW245.out _) | exact HK.out)) hk (.inl rfl)); replace HB := ak (hb); replace HI0 := ak (hi); (try clear hb); (try clear hb2); (try clear hk); (try clear hi); (try clear ho0)) | ((with_reducible refine gate_dst (N := 3) rfl ?_); refine box_event ?hg (N := 3) ?hd (cs := #[.int .i64 0, .slice none 0 0]) (t := 25) ?hr ?_; (case hd => rfl); (case hg => rfl); (case hr => first | (go_simp; done) | (go_simp; rfl)); intro gb251 hg w37 hbox hb; replace HO249 := ak (Kd.R_below (rk HO249) hb); replace HB := ak (below_step (by repeat (first | (with_reducible first | exact HB.out | apply below_alloc | apply pw_below_drewN | apply below_drew1 | refine below_set ?_ (IsS89.ge HI0.out) | refine below_set ?_ GE245.out) | exact HB.out)) hb); have BK251 := ak (hbox); have GW251 := ak ((by rw [hg]; exact (keep_size (w := w) (g := g) (row := none) (by repeat (first | (with_reducible first | exact HK.out | apply KeepBut.set_ | apply keep_drewN | apply keep_drew | apply keep_alloc | refine keep_far ?_ GW245.out _) | exact HK.out))) : w.heap.size ≤ gb251)); have GE251 := ak ((Nat.le_trans HW0.out (by rw [hg]; exact (keep_size (w := w) (g := g) (row := none) (by repeat (first | (with_reducible first | exact HK.out | apply KeepBut.set_ | apply keep_drewN | apply keep_drew | apply keep_alloc | refine keep_far ?_ GW245.out _) | exact HK.out))) : w.heap.size ≤ gb251) : w0.heap.size ≤ gb251)); replace HK := ak (KeepBut.trans (by repeat (first | (with_reducible first | exact HK.out | apply KeepBut.set_ | apply keep_drewN | apply keep_drew | apply keep_alloc | refine keep_far ?_ GW245.out _) | exact HK.out)) (KeepBut.of_below hb g none) (.inl rfl)); have NB245_251 := ak ((by rw [hg]; exact Nat.ne_of_lt (blk_lt (bk BK245)) : gb245 ≠ gb251)); have NB251_245 := ak ((by rw [hg]; exact Nat.ne_of_gt (blk_lt (bk BK245)) : gb251 ≠ gb245)); replace BK245 := ak (blk_below (bk BK245) hb); have NB0_251 := ak ((by rw [hg]; exact Nat.ne_of_lt (IsS89.lt (show IsS89 w0 _ g s0_0 t250 from by repeat (first | (with_reducible first | exact HI0.out | apply IsS89.alloc | apply IsS89.drewN | apply IsS89.drew | apply IsS89.set_1 | refine IsS89.far ?_ NB0_245.out _) | exact HI0.out))) : g ≠ gb251)); have NB251_0 := ak ((by rw [hg]; exact Nat.ne_of_gt (IsS89.lt (show IsS89 w0 _ g s0_0 t250 from by repeat (first | (with_reducible first | exact HI0.out | apply IsS89.alloc | apply IsS89.drewN | apply IsS89.drew | apply IsS89.set_1 | refine IsS89.far ?_ NB0_245.out _) | exact HI0.out))) : gb251 ≠ g)); replace HI0 := ak (IsS89.below (by repeat (first | (with_reducible first | exact HI0.out | apply IsS89.alloc | apply IsS89.drewN | apply IsS89.drew | apply IsS89.set_1 | refine IsS89.far ?_ NB0_245.out _) | exact HI0.out)) hb); clear hb hbox hg; have hnb38 := NB251_245.out; have hnc38 := NB245_251.out; have hnb39 := NB251_0.out; have hnc39 := NB0_251.out; have hcz40_0 := bc w37 BK251 0 (.int .i64 0) rfl; have hcz40_1 := bc w37 BK251 1 (.slice none 0 0) rfl; have hfz40_0 := fz BK251 0; have hfz40_1 := fz BK251 1; obtain ⟨Ao41, co41, eo41⟩ := Kd.R_slice HO249.out; subst eo41) | ((with_reducible refine gate_callee (f := 67) rfl ?_); refine goesL_ (some 15) rfl rfl Try.func67 (by kernel_rfl) rfl #[.pointer (some ⟨g, 0, none⟩), .int .i64 (t247.length : Int)] rfl (by (try simp only [List.map_toArray, List.map_cons, List.map_nil]); first | done | rfl | (simp only [List.length_drop, List.length_take]; rfl)) ?_; (with_reducible refine (spec_l30Rd_pick.calls k g s0_0 t250 (t247.length : Int) t252 t253 w0 _ ?side1 ?side2 A4.out).mono ?_); (case side1 => repeat (first | (with_reducible first | exact HI0.out | apply IsS89.alloc | apply IsS89.drewN | apply IsS89.drew | apply IsS89.set_1 | refine IsS89.far ?_ NB0_245.out _ | refine IsS89.far ?_ NB0_251.out _) | exact HI0.out)); (case side2 => repeat (first | (with_reducible first | exact HB.out | apply below_alloc | apply pw_below_drewN | apply below_drew1 | refine below_set ?_ (IsS89.ge HI0.out) | refine below_set ?_ GE245.out | refine below_set ?_ GE251.out) | exact HB.out)); rintro e w42 ⟨rfl, hi, hb, hk⟩; refine ⟨_, rfl, ?_⟩; replace BK245 := ak (KeepBut.blk hk (g' := gb245) (o := .cells #[.int .i64 0, .slice none 0 0] 25 (0, 0)) (by (with_reducible repeat (first | refine blk_drewN ?_ _ | refine blk_drew ?_ | refine blk_alloc ?_ _)); refine blk_far ?_ NB245_251.out _; refine blk_far ?_ NB245_251.out _; (with_reducible repeat (first | refine blk_drewN ?_ _ | refine blk_drew ?_ | refine blk_alloc ?_ _)); exact BK245.out) NB245_0.out (by simp)); replace HO249 := ak (Kd.R_mono (Kd.R_keep (IsS89.apart (show IsS89 w0 _ g s0_0 t250 from by repeat (first | (with_reducible first | exact HI0.out | apply IsS89.alloc | apply IsS89.drewN | apply IsS89.drew | apply IsS89.set_1 | refine IsS89.far ?_ NB0_245.out _ | refine IsS89.far ?_ NB0_251.out _) | exact HI0.out)) (by (with_reducible repeat (first | apply Kd.R_alloc | apply Kd.R_drewN | apply Kd.R_drew)); exact (Kd.R_mono (Kd.R_far (p := ⟨gb251, 1, none⟩) (Kd.R_far (p := ⟨gb251, 0, none⟩) (Kd.R_types HO249.out BK251.out (by decide)) (fun _ hk => hk.2) (.int .i64 t246)) (fun _ hk => hk.2) (.slice Ao41 t247.length co41)) (fun _ h_ => h_.1))) (by decide)) hk (fun _ h => h.2)) (fun _ h => h.1)); replace BK251 := ak (KeepBut.blk hk (g' := gb251) (o := .cells #[.int .i64 t246, .slice Ao41 t247.length co41] 25 (0, 0)) (by (with_reducible repeat (first | refine blk_drewN ?_ _ | refine blk_drew ?_ | refine blk_alloc ?_ _)); refine blk_put (cs := #[.int .i64 t246, .slice none 0 0]) ?_ 1 _ rfl; refine blk_put (cs := #[.int .i64 0, .slice none 0 0]) ?_ 0 _ rfl; (with_reducible repeat (first | refine blk_drewN ?_ _ | refine blk_drew ?_ | refine blk_alloc ?_ _)); exact BK251.out) NB251_0.out (by simp)); replace HK := ak (KeepBut.trans (by repeat (first | (with_reducible first | exact HK.out | apply KeepBut.set_ | apply keep_drewN | apply keep_drew | apply keep_alloc | refine keep_far ?_ GW245.out _ | refine keep_far ?_ GW251.out _) | exact HK.out)) hk (.inl rfl)); replace HB := ak (hb); replace HI0 := ak (hi); (try clear hb); (try clear hb2); (try clear hk); (try clear hi)) | ((with_reducible refine gate_callee (f := 67) rfl ?_); refine goesL_ (some 17) rfl rfl Try.func67 (by kernel_rfl) rfl #[.pointer (some ⟨g, 0, none⟩), .int .i64 16] rfl (by (try simp only [List.map_toArray, List.map_cons, List.map_nil]); first | done | rfl | (simp only [List.length_drop, List.length_take]; rfl)) ?_; (with_reducible refine (spec_l30Rd_pick.calls k g s0_0 t253 16 t254 t255 w0 _ ?side1 ?side2 A5.out).mono ?_); (case side1 => repeat (first | (with_reducible first | exact HI0.out | apply IsS89.alloc | apply IsS89.drewN | apply IsS89.drew | apply IsS89.set_1 | refine IsS89.far ?_ NB0_245.out _ | refine IsS89.far ?_ NB0_251.out _) | exact HI0.out)); (case side2 => repeat (first | (with_reducible first | exact HB.out | apply below_alloc | apply pw_below_drewN | apply below_drew1 | refine below_set ?_ (IsS89.ge HI0.out) | refine below_set ?_ GE245.out | refine below_set ?_ GE251.out) | exact HB.out)); rintro e w43 ⟨rfl, hi, hb, hk⟩; refine ⟨_, rfl, ?_⟩; replace BK245 := ak (KeepBut.blk hk (g' := gb245) (o := .cells #[.int .i64 0, .slice none 0 0] 25 (0, 0)) (bk BK245) NB245_0.out (by simp)); replace HO249 := ak (Kd.R_mono (Kd.R_keep (IsS89.apart (show IsS89 w0 _ g s0_0 t253 from by repeat (first | (with_reducible first | exact HI0.out | apply IsS89.alloc | apply IsS89.drewN | apply IsS89.drew | apply IsS89.set_1 | refine IsS89.far ?_ NB0_245.out _ | refine IsS89.far ?_ NB0_251.out _) | exact HI0.out)) (rk HO249) (by decide)) hk (fun _ h => h.2)) (fun _ h => h.1)); replace BK251 := ak (KeepBut.blk hk (g' := gb251) (o := .cells #[.int .i64 t246, .slice Ao41 t247.length co41] 25 (0, 0)) (bk BK251) NB251_0.out (by simp)); replace HK := ak (KeepBut.trans (by repeat (first | (with_reducible first | exact HK.out | apply KeepBut.set_ | apply keep_drewN | apply keep_drew | apply keep_alloc | refine keep_far ?_ GW245.out _ | refine keep_far ?_ GW251.out _) | exact HK.out)) hk (.inl rfl)); replace HB := ak (hb); replace HI0 := ak (hi); (try clear hb); (try clear hb2); (try clear hk); (try clear hi)))
  replace HO249 := ak (Kd.R_drew HO249.out)
  replace BK245 := ak (blk_drew BK245.out)
  replace BK251 := ak (blk_drew BK251.out)
  replace HI0 := ak (IsS89.drew HI0.out)
  replace HK := ak (keep_drew HK.out)
  replace HB := ak (below_drew1 HB.out)
  refine start_ (n := 9) (S := fun w' => w'.cell? ⟨gb251, 0, none⟩ = some (.int .i64 t246) ∧ w'.cell? ⟨gb251, 1, none⟩ = some (.slice Ao41 t247.length co41)) (ds := [8]) (ms 9 0) (by kernel_rfl) rfl (by kernel_rfl) ⟨(blk_cell BK251.out 0).trans rfl, (blk_cell BK251.out 1).trans rfl⟩ (fun hHeld => ?_); refine with_tabW spec_l30AnyNet.tab8 spec_l30AnyNet.bits8 (fun HT_ HW_ => ?_)
  generalize w43.drew = w44 at HO249 BK245 BK251 HI0 HK HB hHeld ⊢
  refine pu 0 36 ?_ (ms 9 1) rfl rfl HT_ (by kernel_rfl) (fun _ _ _ h => h) (by rfl) ?_ ?_ ?_ ?_
  rotate_left
  ·intro w'
   go_simp
   with_reducible rfl
  rotate_left
  ·simp only [SX]
   rfl
  refine pu 2 38 ?_ (ms 9 5) rfl rfl HT_ (by kernel_rfl) (fun _ _ _ h => h) (by rfl) ?_ ?_ ?_ ?_
  rotate_left
  ·intro w'
   go_simp
   with_reducible rfl
  rotate_left
  ·simp only [SX]
   rfl
  refine pu 3 39 ?_ (ms 9 13) rfl rfl HT_ (by kernel_rfl) (fun _ _ _ h => h) (by rfl) ?_ ?_ ?_ ?_
  rotate_left
  ·intro w'
   go_simp
   with_reducible rfl
  rotate_left
  ·simp only [SX]
   rfl
  refine tk 1 37 ?_ (ms 9 15) rfl rfl HT_ HW_ (by kernel_rfl) (fun _ _ _ h => h) (by rfl) ?_ hHeld ?_ ?_ ?_
  rotate_left
  ·rintro w' ⟨s0, s1⟩
   go_simp
   with_reducible rfl
  rotate_left
  ·simp only [SX]
   rfl
  refine one_ (i := 4) (N := some 40) (ms 9 31) rfl rfl (one_of HT_.out (by kernel_rfl)) (by decide) (fun K hK => ?_)
  refine Kd.R_lit_step (Kd.int .i64) _ 3 ?hg (N := 40) ?hd (xs := ([(-1), 100] : List Int)) (inner := [.int .i64 (-1), .int .i64 100]) (ok := fun _ => True) (okp := fun _ => True) ?hr ?hp (fun _ hk => hk) trivial (Below.refl _ _) (Nat.le_refl _) (by simp) ?_; (case hd => rfl); (case hg => rfl); (case hr => first | (go_simp; done) | (go_simp; rfl)); (case hp => exact (Reps.one (show Kd.M (Kd.int .i64) _ _ _ (-1) [.int .i64 (-1)] from rfl) (Reps.one (show Kd.M (Kd.int .i64) _ _ _ 100 [.int .i64 100] from rfl) (Reps.none _ _))))
  intro v264 w45 ho46 hb hg_ hnew_
  clear hg_ hnew_
  (first | rw [← Ny263.out] at ho46 | (simp only [Int.reduceToNat] at ho46; rw [← Ny263.out] at ho46))
  replace HO249 := ak (Kd.R_below (rk HO249) hb)
  have HO265 := ak (Kd.R_lower ho46 (keep_size (w := w) (g := g) (row := none) (by repeat (first | (with_reducible first | exact HK.out | apply KeepBut.set_ | apply keep_drewN | apply keep_drew | apply keep_alloc | refine keep_far ?_ GW245.out _ | refine keep_far ?_ GW251.out _) | exact HK.out))))
  replace BK245 := ak (blk_below (bk BK245) hb)
  replace BK251 := ak (blk_below (bk BK251) hb)
  replace HK := ak (KeepBut.trans (by repeat (first | (with_reducible first | exact HK.out | apply KeepBut.set_ | apply keep_drewN | apply keep_drew | apply keep_alloc | refine keep_far ?_ GW245.out _ | refine keep_far ?_ GW251.out _) | exact HK.out)) (KeepBut.of_below hb g none) (.inl rfl))
  replace HB := ak (below_step (by repeat (first | (with_reducible first | exact HB.out | apply below_alloc | apply pw_below_drewN | apply below_drew1 | refine below_set ?_ (IsS89.ge HI0.out) | refine below_set ?_ GE245.out | refine below_set ?_ GE251.out) | exact HB.out)) hb)
  replace HI0 := ak (IsS89.below (by repeat (first | (with_reducible first | exact HI0.out | apply IsS89.alloc | apply IsS89.drewN | apply IsS89.drew | apply IsS89.set_1 | refine IsS89.far ?_ NB0_245.out _ | refine IsS89.far ?_ NB0_251.out _) | exact HI0.out)) hb)
  clear hb ho46
  obtain ⟨Ao47, co47, eo47⟩ := Kd.R_slice HO265.out
  (first | subst eo47 | (injection eo47 with f1_ f2_ f3_; have f4_ := f1_.symm; have f5_ := f3_.symm; clear f1_ f2_ f3_; subst f4_; subst f5_))
  refine hK.out _ _ ⟨(blk_cell BK251.out 0).trans rfl, (blk_cell BK251.out 1).trans rfl⟩ (fun hHeld => ?_)
  clear hK K
  refine norm_ (a' := ?_) ?_ ?_
  rotate_left
  ·show Act.put _ (some 40) _ = _
   simp only [SX]
   rfl
  refine one_ (i := 5) (N := some 41) (ms 9 63) rfl rfl (one_of HT_.out (by kernel_rfl)) (by decide) (fun K hK => ?_)
  refine goes_ Try.func58 (by kernel_rfl) rfl #[.pointer (some ⟨g, 0, none⟩), .slice Ao47 y263.length co47] (by rfl) rfl rfl (by (try simp only [List.map_toArray, List.map_cons, List.map_nil]); first | done | rfl | (simp only [List.length_drop, List.length_take]; rfl)) ?_
  with_reducible refine (spec_l30Rd_one.calls k g s0_0 t255 _ _ y263 t266 t267 w0 _ ?side1 ?side2 ?side3 ?side4 ?side5 A31.out).mono ?_
  (case side1 => repeat (first | (with_reducible first | exact HI0.out | apply IsS89.alloc | apply IsS89.drewN | apply IsS89.drew | apply IsS89.set_1 | refine IsS89.far ?_ NB0_245.out _ | refine IsS89.far ?_ NB0_251.out _) | exact HI0.out))
  (case side2 => repeat (first | (with_reducible first | exact HB.out | apply below_alloc | apply pw_below_drewN | apply below_drew1 | refine below_set ?_ (IsS89.ge HI0.out) | refine below_set ?_ GE245.out | refine below_set ?_ GE251.out) | exact HB.out))
  (case side3 => repeat (first | exact (Kd.R_reads' HO265.out).2.2 | (with_reducible refine Kd.C_alloc ?_ _) | (with_reducible refine Kd.C_drewN ?_ _) | (with_reducible refine Kd.C_drew ?_)))
  (case side4 => exact (Kd.R_reads' HO265.out).2.1)
  (case side5 => exact far_slice (IsS89.own_ne HI0.out HO265.out (by decide)))
  rintro e w48 ⟨rfl, hi, hb, hk⟩
  refine ⟨_, rfl, ?_⟩
  replace BK245 := ak (KeepBut.blk hk (g' := gb245) (o := .cells #[.int .i64 0, .slice none 0 0] 25 (0, 0)) (bk BK245) NB245_0.out (by simp))
  replace HO249 := ak (Kd.R_mono (Kd.R_keep (IsS89.apart (show IsS89 w0 _ g s0_0 t255 from by repeat (first | (with_reducible first | exact HI0.out | apply IsS89.alloc | apply IsS89.drewN | apply IsS89.drew | apply IsS89.set_1 | refine IsS89.far ?_ NB0_245.out _ | refine IsS89.far ?_ NB0_251.out _) | exact HI0.out)) (rk HO249) (by decide)) hk (fun _ h => h.2)) (fun _ h => h.1))
  replace BK251 := ak (KeepBut.blk hk (g' := gb251) (o := .cells #[.int .i64 t246, .slice Ao41 t247.length co41] 25 (0, 0)) (bk BK251) NB251_0.out (by simp))
  replace HO265 := ak (Kd.R_mono (Kd.R_keep (IsS89.apart (show IsS89 w0 _ g s0_0 t255 from by repeat (first | (with_reducible first | exact HI0.out | apply IsS89.alloc | apply IsS89.drewN | apply IsS89.drew | apply IsS89.set_1 | refine IsS89.far ?_ NB0_245.out _ | refine IsS89.far ?_ NB0_251.out _) | exact HI0.out)) (rk HO265) (by decide)) hk (fun _ h => h.2)) (fun _ h => h.1))
  replace HK := ak (KeepBut.trans (by repeat (first | (with_reducible first | exact HK.out | apply KeepBut.set_ | apply keep_drewN | apply keep_drew | apply keep_alloc | refine keep_far ?_ GW245.out _ | refine keep_far ?_ GW251.out _) | exact HK.out)) hk (.inl rfl))
  replace HB := ak (hb)
  replace HI0 := ak (hi)
  (try clear hb)
  (try clear hb2)
  (try clear hk)
  (try clear hi)
  have p34 : 0 ≤ (t252 : Int) := oT (by first | (with_reducible assumption) | assumption)
  have q34 : (t252 : Int) < ((t247.length : Int) : Int) := oT (by first | (with_reducible assumption) | assumption)
  obtain ⟨go34, co34, eo34, gb34, gl34, cl34, HG34⟩ := Kd.R_form HO249.out (by omega)
  (first | cases eo34 | (injection eo34 with ea_ en_ ec_; (first | subst ea_ | (injection ea_ with ea_; subst ea_)); subst ec_; clear en_))
  have GB34 := ak gb34
  have GG34 := ak HG34
  clear gb34 gl34 HG34
  obtain ⟨ce34, hcl34, hM34, hcc34, hfr34⟩ := Kd.R_elem HO249.out z33 (t252 : Int) p34 q34
  obtain rfl := k33_openM hM34
  have hx34_0 : World.cell? _ ⟨go34, (t252 : Int).toNat * 5, none⟩ = some (.int .i64 ((rd_T33 t247 t252).f0)) := hcc34 0 _ rfl
  have hx34_1 : World.cell? _ ⟨go34, (t252 : Int).toNat * 5 + 1, none⟩ = some (.int .i64 ((rd_T33 t247 t252).f1)) := hcc34 1 _ rfl
  have hx34_2 : World.cell? _ ⟨go34, (t252 : Int).toNat * 5 + 2, none⟩ = some (.int .i64 ((rd_T33 t247 t252).f2)) := hcc34 2 _ rfl
  have hx34_3 : World.cell? _ ⟨go34, (t252 : Int).toNat * 5 + 3, none⟩ = some (.int .i64 ((rd_T33 t247 t252).f3)) := hcc34 3 _ rfl
  have hx34_4 : World.cell? _ ⟨go34, (t252 : Int).toNat * 5 + 4, none⟩ = some (.int .i64 ((rd_T33 t247 t252).f4)) := hcc34 4 _ rfl
  have hf34_0 : World.frozen? _ ⟨go34, (t252 : Int).toNat * 5, none⟩ = false := hfr34 0
  have hf34_1 : World.frozen? _ ⟨go34, (t252 : Int).toNat * 5 + 1, none⟩ = false := hfr34 1
  have hf34_2 : World.frozen? _ ⟨go34, (t252 : Int).toNat * 5 + 2, none⟩ = false := hfr34 2
  have hf34_3 : World.frozen? _ ⟨go34, (t252 : Int).toNat * 5 + 3, none⟩ = false := hfr34 3
  have hf34_4 : World.frozen? _ ⟨go34, (t252 : Int).toNat * 5 + 4, none⟩ = false := hfr34 4
  clear hcl34 hcc34 hfr34 hM34
  replace p34 := eq_true p34
  replace q34 := eq_true q34
  have HN0_go34 := ak (show g ≠ go34 from by have h_ := IsS89.own_ne HI0.out HO249.out (by decide); intro e_; exact h_ (by rw [e_]; rfl))
  obtain ⟨ce49, hcl49, hM49, hcc49, hfr49⟩ := Kd.R_elem HO249.out z33 (t252 : Int) (oT (by first | (with_reducible assumption) | assumption)) (by have h_ : (t252 : Int) < ((t247.length : Int) : Int) := oT (by first | (with_reducible assumption) | assumption); first | exact h_ | (have e_ := (Kd.R_reads' HO249.out).1; omega) | simpa using h_)
  obtain rfl := k33_openM hM49
  have HP49 := (Kd.R_seg HO249.out (t252 : Int) (oT (by first | (with_reducible assumption) | assumption)) (by have h_ : (t252 : Int) < ((t247.length : Int) : Int) := oT (by first | (with_reducible assumption) | assumption); first | exact h_ | (have e_ := (Kd.R_reads' HO249.out).1; omega) | simpa using h_) (seg := [.int .i64 t266]) (j := 2) hcl49 hcc49 (show 3 ≤ 5 from by decide) (x' := (⟨(rd_T33 t247 t252).f0, (rd_T33 t247 t252).f1, t266, (rd_T33 t247 t252).f3, (rd_T33 t247 t252).f4⟩ : S33)) (k33_mkM _ _ _ (⟨(rd_T33 t247 t252).f0, (rd_T33 t247 t252).f1, t266, (rd_T33 t247 t252).f3, (rd_T33 t247 t252).f4⟩ : S33) ) (fun _ hk => hk)).1
  rw [← Ny268.out] at HP49
  have HQ49 := ak HP49
  clear hcl49 hcc49 hfr49 hM49 HP49
  refine hK.out _ _ ⟨(blk_cell BK251.out 0).trans rfl, (blk_cell BK251.out 1).trans rfl⟩ (fun hHeld => ?_)
  clear hK K
  refine norm_ (a' := ?_) ?_ ?_
  rotate_left
  ·show Act.put _ (some 41) _ = _
   simp only [SX]
   rfl
  refine pu 6 42 ?_ (ms 9 127) rfl rfl HT_ (by kernel_rfl) (fun _ _ _ h => h) (by rfl) ?_ ?_ ?_ ?_
  rotate_left
  ·intro w'
   go_simp
   with_reducible rfl
  rotate_left
  ·simp only [SX]
   rfl
  refine pu 7 43 ?_ (ms 9 255) rfl rfl HT_ (by kernel_rfl) (fun _ _ _ h => h) (by rfl) ?_ ?_ ?_ ?_
  rotate_left
  ·intro w'
   go_simp
   with_reducible rfl
  rotate_left
  ·simp only [SX]
   rfl
  refine last_ (i := 8) (N := none) (ms 9 511) rfl rfl (one_of HT_.out (by kernel_rfl)) (by decide) (fun K hK => ?_)
  refine skip_ (w1 := ?_) (by rfl) rfl ?_ ?_
  rotate_left
  ·go_simp
   rfl
  refine hK.out _ _ ?_
  clear hK K
  refine done_ (done_of HT_.out (by kernel_rfl)) ?_
  have n0_ : Aside0 (Kd.R k33 33 (w48.setCell ⟨go34, (t252 : Int).toNat * 5 + 2, none⟩ (.int .i64 t266)) w.heap.size (fun _ => True) (.slice (some ⟨go34, 0, none⟩) t247.length co41) y268) := ⟨by (with_reducible repeat (first | apply Kd.R_alloc | apply Kd.R_drewN | apply Kd.R_drew)); exact HQ49.out⟩
  have n1_ : Aside0 (Kd.R (Kd.int .i64) 3 (w48.setCell ⟨go34, (t252 : Int).toNat * 5 + 2, none⟩ (.int .i64 t266)) w.heap.size (fun _ => True) (.slice Ao47 y263.length co47) y263) := ⟨by (with_reducible repeat (first | apply Kd.R_alloc | apply Kd.R_drewN | apply Kd.R_drew)); exact Kd.R_mono (Kd.R_far (p := ⟨go34, (t252 : Int).toNat * 5 + 2, none⟩) (Kd.R_types HO265.out GG34.out (by decide)) (fun _ hk => hk.2) (.int .i64 t266)) (fun _ hk => trivial)⟩
  have n2_ : Aside0 ((w48.setCell ⟨go34, (t252 : Int).toNat * 5 + 2, none⟩ (.int .i64 t266)).heap[gb245]? = some (.cells #[.int .i64 0, .slice none 0 0] 25 (0, 0))) := ⟨by (with_reducible repeat (first | refine blk_drewN ?_ _ | refine blk_drew ?_ | refine blk_alloc ?_ _)); refine blk_far ?_ (by have h_ := Kd.R_ne HO249.out BK245.out (by decide); intro e_; exact h_ (by rw [e_]; rfl)) _; (with_reducible repeat (first | refine blk_drewN ?_ _ | refine blk_drew ?_ | refine blk_alloc ?_ _)); exact BK245.out⟩
  have n3_ : Aside0 ((w48.setCell ⟨go34, (t252 : Int).toNat * 5 + 2, none⟩ (.int .i64 t266)).heap[gb251]? = some (.cells #[.int .i64 t246, .slice (some ⟨go34, 0, none⟩) t247.length co41] 25 (0, 0))) := ⟨by (with_reducible repeat (first | refine blk_drewN ?_ _ | refine blk_drew ?_ | refine blk_alloc ?_ _)); refine blk_far ?_ (by have h_ := Kd.R_ne HO249.out BK251.out (by decide); intro e_; exact h_ (by rw [e_]; rfl)) _; (with_reducible repeat (first | refine blk_drewN ?_ _ | refine blk_drew ?_ | refine blk_alloc ?_ _)); exact BK251.out⟩
  have n4_ : Aside0 (IsS89 w0 (w48.setCell ⟨go34, (t252 : Int).toNat * 5 + 2, none⟩ (.int .i64 t266)) g s0_0 t267) := ⟨by repeat (first | (with_reducible first | exact HI0.out | apply IsS89.alloc | apply IsS89.drewN | apply IsS89.drew | apply IsS89.set_1 | refine IsS89.far ?_ HN0_go34.out _ | refine IsS89.far ?_ NB0_245.out _ | refine IsS89.far ?_ NB0_251.out _) | exact HI0.out)⟩
  have n5_ : Aside0 (KeepBut w (w48.setCell ⟨go34, (t252 : Int).toNat * 5 + 2, none⟩ (.int .i64 t266)) g none) := ⟨by repeat (first | (with_reducible first | exact HK.out | apply KeepBut.set_ | apply keep_drewN | apply keep_drew | apply keep_alloc | refine keep_far ?_ GB34.out _ | refine keep_far ?_ GW245.out _ | refine keep_far ?_ GW251.out _) | exact HK.out)⟩
  have n6_ : Aside0 (Below w0.heap.size w0 (w48.setCell ⟨go34, (t252 : Int).toNat * 5 + 2, none⟩ (.int .i64 t266))) := ⟨by repeat (first | (with_reducible first | exact HB.out | apply below_alloc | apply pw_below_drewN | apply below_drew1 | refine below_set ?_ (Nat.le_trans HL.out GB34.out) | refine below_set ?_ (IsS89.ge HI0.out) | refine below_set ?_ GE245.out | refine below_set ?_ GE251.out) | exact HB.out)⟩
  (try clear HO249)
  (try clear HO265)
  (try clear BK245)
  (try clear BK251)
  (try clear HI0)
  (try clear HK)
  (try clear HB)
  generalize (w48.setCell ⟨go34, (t252 : Int).toNat * 5 + 2, none⟩ (.int .i64 t266)) = w50 at n0_ n1_ n2_ n3_ n4_ n5_ n6_ ⊢
  have HO249 := n0_
  have HO265 := n1_
  have BK245 := n2_
  have BK251 := n3_
  have HI0 := n4_
  have HK := n5_
  have HB := n6_
  clear n0_ n1_ n2_ n3_ n4_ n5_ n6_
  have hcz51_0 := bc w50 BK251 0 (.int .i64 t246) rfl
  have hcz51_1 := bc w50 BK251 1 (.slice (some ⟨go34, 0, none⟩) t247.length co41) rfl
  have hfz51_0 := fz BK251 0
  have hfz51_1 := fz BK251 1
  have hnb52 := NB245_0.out
  have hnc52 := NB0_245.out
  have hcz53_0 := bc w50 BK245 0 (.int .i64 0) rfl
  have hcz53_1 := bc w50 BK245 1 (.slice none 0 0) rfl
  have hfz53_0 := fz BK245 0
  have hfz53_1 := fz BK245 1
  try go_wp2
  refine bodyPost_ret (results_cell_row rfl _ _ gb245 25 #[.int .i64 t246, .slice (some ⟨go34, 0, none⟩) t247.length co41] (0, 0) _ rfl (by (with_reducible repeat (first | refine blk_drewN ?_ _ | refine blk_drew ?_ | refine blk_alloc ?_ _)); refine blk_put (cs := #[.int .i64 t246, .slice none 0 0]) ?_ 1 _ rfl; refine blk_put (cs := #[.int .i64 0, .slice none 0 0]) ?_ 0 _ rfl; (with_reducible repeat (first | refine blk_drewN ?_ _ | refine blk_drew ?_ | refine blk_alloc ?_ _)); exact BK245.out) Try.underlying25 rfl (by kernel_rfl)) rfl ?_
  exact ⟨_, by first | rfl | (simp [errW_none, errW_some] <;> rfl) | (simp [*, errW_none, errW_some] <;> rfl), by (with_reducible repeat (first | apply Kd.R_alloc | apply Kd.R_drewN | apply Kd.R_drew)); exact Kd.R_mono (Kd.R_far (p := ⟨gb245, 1, none⟩) (Kd.R_far (p := ⟨gb245, 0, none⟩) (Kd.R_types HO249.out BK245.out (by decide)) (fun _ hk => hk.2) (.int .i64 t246)) (fun _ hk => hk.2) (.slice (some ⟨go34, 0, none⟩) t247.length co41)) (fun _ hk => trivial), by repeat (first | (with_reducible first | exact HI0.out | apply IsS89.alloc | apply IsS89.drewN | apply IsS89.drew | apply IsS89.set_1 | refine IsS89.far ?_ NB0_245.out _ | refine IsS89.far ?_ NB0_251.out _) | exact HI0.out), by repeat (first | (with_reducible first | exact HB.out | apply below_alloc | apply pw_below_drewN | apply below_drew1 | refine below_set ?_ (IsS89.ge HI0.out) | refine below_set ?_ GE245.out | refine below_set ?_ GE251.out) | exact HB.out), by repeat (first | (with_reducible first | exact HK.out | apply KeepBut.set_ | apply keep_drewN | apply keep_drew | apply keep_alloc | refine keep_far ?_ GW245.out _ | refine keep_far ?_ GW251.out _) | exact HK.out)⟩
 rw [if_neg c30] at H
 have c30b0 : (t254 == 1) = false := beq_eq_false_iff_ne.mpr c30
 have c30b1 : (t254 != 1) = true := bne_iff_ne.mpr c30
 by_cases c54 : t254 = 2
 rotate_left
 ·rw [if_neg c54] at H
  have c54b0 : (t254 == 2) = false := beq_eq_false_iff_ne.mpr c54
  have c54b1 : (t254 != 2) = true := bne_iff_ne.mpr c54
  simp only [Option.some.injEq, Prod.mk.injEq] at H
  obtain ⟨rfl, rfl, rfl⟩ := H
  go_enter Try.func39, Try.ntmps39
  go_wp2_with (first | ((with_reducible refine gate_dst (N := 2) rfl ?_); refine box_event ?hg (N := 2) ?hd (cs := #[.int .i64 0, .slice none 0 0]) (t := 25) ?hr ?_; (case hd => rfl); (case hg => rfl); (case hr => first | (go_simp; done) | (go_simp; rfl)); intro gb245 hg w72 hbox hb; replace HB := ak (below_step (by repeat (first | (with_reducible first | exact HB.out | apply below_alloc | apply pw_below_drewN | apply below_drew1 | refine below_set ?_ (IsS89.ge HI0.out)) | exact HB.out)) hb); have BK245 := ak (hbox); have GW245 := ak ((by rw [hg]; exact (keep_size (w := w) (g := g) (row := none) (by repeat (first | (with_reducible first | exact HK.out | apply KeepBut.set_ | apply keep_drewN | apply keep_drew | apply keep_alloc) | exact HK.out))) : w.heap.size ≤ gb245)); have GE245 := ak ((Nat.le_trans HW0.out (by rw [hg]; exact (keep_size (w := w) (g := g) (row := none) (by repeat (first | (with_reducible first | exact HK.out | apply KeepBut.set_ | apply keep_drewN | apply keep_drew | apply keep_alloc) | exact HK.out))) : w.heap.size ≤ gb245) : w0.heap.size ≤ gb245)); replace HK := ak (KeepBut.trans (by repeat (first | (with_reducible first | exact HK.out | apply KeepBut.set_ | apply keep_drewN | apply keep_drew | apply keep_alloc) | exact HK.out)) (KeepBut.of_below hb g none) (.inl rfl)); have NB0_245 := ak ((by rw [hg]; exact Nat.ne_of_lt (IsS89.lt (show IsS89 w0 _ g s0_0 s0_1 from by repeat (first | (with_reducible first | exact HI0.out | apply IsS89.alloc | apply IsS89.drewN | apply IsS89.drew | apply IsS89.set_1) | exact HI0.out))) : g ≠ gb245)); have NB245_0 := ak ((by rw [hg]; exact Nat.ne_of_gt (IsS89.lt (show IsS89 w0 _ g s0_0 s0_1 from by repeat (first | (with_reducible first | exact HI0.out | apply IsS89.alloc | apply IsS89.drewN | apply IsS89.drew | apply IsS89.set_1) | exact HI0.out))) : gb245 ≠ g)); replace HI0 := ak (IsS89.below (by repeat (first | (with_reducible first | exact HI0.out | apply IsS89.alloc | apply IsS89.drewN | apply IsS89.drew | apply IsS89.set_1) | exact HI0.out)) hb); clear hb hbox hg) | ((with_reducible refine gate_callee (f := 66) rfl ?_); refine goesL_ (some 6) rfl rfl Try.func66 (by kernel_rfl) rfl #[.pointer (some ⟨g, 0, none⟩)] rfl (by (try simp only [List.map_toArray, List.map_cons, List.map_nil]); first | done | rfl | (simp only [List.length_drop, List.length_take]; rfl)) ?_; (with_reducible refine (spec_l30Net.calls k g s0_0 s0_1 t246 t247 t250 w0 _ ?side1 ?side2 A2.out).mono ?_); (case side1 => repeat (first | (with_reducible first | exact HI0.out | apply IsS89.alloc | apply IsS89.drewN | apply IsS89.drew | apply IsS89.set_1 | refine IsS89.far ?_ NB0_245.out _) | exact HI0.out)); (case side2 => repeat (first | (with_reducible first | exact HB.out | apply below_alloc | apply pw_below_drewN | apply below_drew1 | refine below_set ?_ (IsS89.ge HI0.out) | refine below_set ?_ GE245.out) | exact HB.out)); rintro e w73 ⟨v248, rfl, ho0, hi, hb, hk⟩; refine ⟨_, rfl, ?_⟩; replace BK245 := ak (KeepBut.blk hk (g' := gb245) (o := .cells #[.int .i64 0, .slice none 0 0] 25 (0, 0)) (bk BK245) NB245_0.out (by simp)); have HO249 := ak (Kd.R_lower ho0 (keep_size (w := w) (g := g) (row := none) (by repeat (first | (with_reducible first | exact HK.out | apply KeepBut.set_ | apply keep_drewN | apply keep_drew | apply keep_alloc | refine keep_far ?_ GW245.out _) | exact HK.out)))); replace HK := ak (KeepBut.trans (by repeat (first | (with_reducible first | exact HK.out | apply KeepBut.set_ | apply keep_drewN | apply keep_drew | apply keep_alloc | refine keep_far ?_ GW245.out _) | exact HK.out)) hk (.inl rfl)); replace HB := ak (hb); replace HI0 := ak (hi); (try clear hb); (try clear hb2); (try clear hk); (try clear hi); (try clear ho0)) | ((with_reducible refine gate_dst (N := 3) rfl ?_); refine box_event ?hg (N := 3) ?hd (cs := #[.int .i64 0, .slice none 0 0]) (t := 25) ?hr ?_; (case hd => rfl); (case hg => rfl); (case hr => first | (go_simp; done) | (go_simp; rfl)); intro gb251 hg w74 hbox hb; replace HO249 := ak (Kd.R_below (rk HO249) hb); replace HB := ak (below_step (by repeat (first | (with_reducible first | exact HB.out | apply below_alloc | apply pw_below_drewN | apply below_drew1 | refine below_set ?_ (IsS89.ge HI0.out) | refine below_set ?_ GE245.out) | exact HB.out)) hb); have BK251 := ak (hbox); have GW251 := ak ((by rw [hg]; exact (keep_size (w := w) (g := g) (row := none) (by repeat (first | (with_reducible first | exact HK.out | apply KeepBut.set_ | apply keep_drewN | apply keep_drew | apply keep_alloc | refine keep_far ?_ GW245.out _) | exact HK.out))) : w.heap.size ≤ gb251)); have GE251 := ak ((Nat.le_trans HW0.out (by rw [hg]; exact (keep_size (w := w) (g := g) (row := none) (by repeat (first | (with_reducible first | exact HK.out | apply KeepBut.set_ | apply keep_drewN | apply keep_drew | apply keep_alloc | refine keep_far ?_ GW245.out _) | exact HK.out))) : w.heap.size ≤ gb251) : w0.heap.size ≤ gb251)); replace HK := ak (KeepBut.trans (by repeat (first | (with_reducible first | exact HK.out | apply KeepBut.set_ | apply keep_drewN | apply keep_drew | apply keep_alloc | refine keep_far ?_ GW245.out _) | exact HK.out)) (KeepBut.of_below hb g none) (.inl rfl)); have NB245_251 := ak ((by rw [hg]; exact Nat.ne_of_lt (blk_lt (bk BK245)) : gb245 ≠ gb251)); have NB251_245 := ak ((by rw [hg]; exact Nat.ne_of_gt (blk_lt (bk BK245)) : gb251 ≠ gb245)); replace BK245 := ak (blk_below (bk BK245) hb); have NB0_251 := ak ((by rw [hg]; exact Nat.ne_of_lt (IsS89.lt (show IsS89 w0 _ g s0_0 t250 from by repeat (first | (with_reducible first | exact HI0.out | apply IsS89.alloc | apply IsS89.drewN | apply IsS89.drew | apply IsS89.set_1 | refine IsS89.far ?_ NB0_245.out _) | exact HI0.out))) : g ≠ gb251)); have NB251_0 := ak ((by rw [hg]; exact Nat.ne_of_gt (IsS89.lt (show IsS89 w0 _ g s0_0 t250 from by repeat (first | (with_reducible first | exact HI0.out | apply IsS89.alloc | apply IsS89.drewN | apply IsS89.drew | apply IsS89.set_1 | refine IsS89.far ?_ NB0_245.out _) | exact HI0.out))) : gb251 ≠ g)); replace HI0 := ak (IsS89.below (by repeat (first | (with_reducible first | exact HI0.out | apply IsS89.alloc | apply IsS89.drewN | apply IsS89.drew | apply IsS89.set_1 | refine IsS89.far ?_ NB0_245.out _) | exact HI0.out)) hb); clear hb hbox hg; have hnb75 := NB251_245.out; have hnc75 := NB245_251.out; have hnb76 := NB251_0.out; have hnc76 := NB0_251.out; have hcz77_0 := bc w74 BK251 0 (.int .i64 0) rfl; have hcz77_1 := bc w74 BK251 1 (.slice none 0 0) rfl; have hfz77_0 := fz BK251 0; have hfz77_1 := fz BK251 1; obtain ⟨Ao78, co78, eo78⟩ := Kd.R_slice HO249.out; subst eo78) | ((with_reducible refine gate_callee (f := 67) rfl ?_); refine goesL_ (some 15) rfl rfl Try.func67 (by kernel_rfl) rfl #[.pointer (some ⟨g, 0, none⟩), .int .i64 (t247.length : Int)] rfl (by (try simp only [List.map_toArray, List.map_cons, List.map_nil]); first | done | rfl | (simp only [List.length_drop, List.length_take]; rfl)) ?_; (with_reducible refine (spec_l30Rd_pick.calls k g s0_0 t250 (t247.length : Int) t252 t253 w0 _ ?side1 ?side2 A4.out).mono ?_); (case side1 => repeat (first | (with_reducible first | exact HI0.out | apply IsS89.alloc | apply IsS89.drewN | apply IsS89.drew | apply IsS89.set_1 | refine IsS89.far ?_ NB0_245.out _ | refine IsS89.far ?_ NB0_251.out _) | exact HI0.out)); (case side2 => repeat (first | (with_reducible first | exact HB.out | apply below_alloc | apply pw_below_drewN | apply below_drew1 | refine below_set ?_ (IsS89.ge HI0.out) | refine below_set ?_ GE245.out | refine below_set ?_ GE251.out) | exact HB.out)); rintro e w79 ⟨rfl, hi, hb, hk⟩; refine ⟨_, rfl, ?_⟩; replace BK245 := ak (KeepBut.blk hk (g' := gb245) (o := .cells #[.int .i64 0, .slice none 0 0] 25 (0, 0)) (by (with_reducible repeat (first | refine blk_drewN ?_ _ | refine blk_drew ?_ | refine blk_alloc ?_ _)); refine blk_far ?_ NB245_251.out _; refine blk_far ?_ NB245_251.out _; (with_reducible repeat (first | refine blk_drewN ?_ _ | refine blk_drew ?_ | refine blk_alloc ?_ _)); exact BK245.out) NB245_0.out (by simp)); replace HO249 := ak (Kd.R_mono (Kd.R_keep (IsS89.apart (show IsS89 w0 _ g s0_0 t250 from by repeat (first | (with_reducible first | exact HI0.out | apply IsS89.alloc | apply IsS89.drewN | apply IsS89.drew | apply IsS89.set_1 | refine IsS89.far ?_ NB0_245.out _ | refine IsS89.far ?_ NB0_251.out _) | exact HI0.out)) (by (with_reducible repeat (first | apply Kd.R_alloc | apply Kd.R_drewN | apply Kd.R_drew)); exact (Kd.R_mono (Kd.R_far (p := ⟨gb251, 1, none⟩) (Kd.R_far (p := ⟨gb251, 0, none⟩) (Kd.R_types HO249.out BK251.out (by decide)) (fun _ hk => hk.2) (.int .i64 t246)) (fun _ hk => hk.2) (.slice Ao78 t247.length co78)) (fun _ h_ => h_.1))) (by decide)) hk (fun _ h => h.2)) (fun _ h => h.1)); replace BK251 := ak (KeepBut.blk hk (g' := gb251) (o := .cells #[.int .i64 t246, .slice Ao78 t247.length co78] 25 (0, 0)) (by (with_reducible repeat (first | refine blk_drewN ?_ _ | refine blk_drew ?_ | refine blk_alloc ?_ _)); refine blk_put (cs := #[.int .i64 t246, .slice none 0 0]) ?_ 1 _ rfl; refine blk_put (cs := #[.int .i64 0, .slice none 0 0]) ?_ 0 _ rfl; (with_reducible repeat (first | refine blk_drewN ?_ _ | refine blk_drew ?_ | refine blk_alloc ?_ _)); exact BK251.out) NB251_0.out (by simp)); replace HK := ak (KeepBut.trans (by repeat (first | (with_reducible first | exact HK.out | apply KeepBut.set_ | apply keep_drewN | apply keep_drew | apply keep_alloc | refine keep_far ?_ GW245.out _ | refine keep_far ?_ GW251.out _) | exact HK.out)) hk (.inl rfl)); replace HB := ak (hb); replace HI0 := ak (hi); (try clear hb); (try clear hb2); (try clear hk); (try clear hi)) | ((with_reducible refine gate_callee (f := 67) rfl ?_); refine goesL_ (some 17) rfl rfl Try.func67 (by kernel_rfl) rfl #[.pointer (some ⟨g, 0, none⟩), .int .i64 16] rfl (by (try simp only [List.map_toArray, List.map_cons, List.map_nil]); first | done | rfl | (simp only [List.length_drop, List.length_take]; rfl)) ?_; (with_reducible refine (spec_l30Rd_pick.calls k g s0_0 t253 16 t254 t255 w0 _ ?side1 ?side2 A5.out).mono ?_); (case side1 => repeat (first | (with_reducible first | exact HI0.out | apply IsS89.alloc | apply IsS89.drewN | apply IsS89.drew | apply IsS89.set_1 | refine IsS89.far ?_ NB0_245.out _ | refine IsS89.far ?_ NB0_251.out _) | exact HI0.out)); (case side2 => repeat (first | (with_reducible first | exact HB.out | apply below_alloc | apply pw_below_drewN | apply below_drew1 | refine below_set ?_ (IsS89.ge HI0.out) | refine below_set ?_ GE245.out | refine below_set ?_ GE251.out) | exact HB.out)); rintro e w80 ⟨rfl, hi, hb, hk⟩; refine ⟨_, rfl, ?_⟩; replace BK245 := ak (KeepBut.blk hk (g' := gb245) (o := .cells #[.int .i64 0, .slice none 0 0] 25 (0, 0)) (bk BK245) NB245_0.out (by simp)); replace HO249 := ak (Kd.R_mono (Kd.R_keep (IsS89.apart (show IsS89 w0 _ g s0_0 t253 from by repeat (first | (with_reducible first | exact HI0.out | apply IsS89.alloc | apply IsS89.drewN | apply IsS89.drew | apply IsS89.set_1 | refine IsS89.far ?_ NB0_245.out _ | refine IsS89.far ?_ NB0_251.out _) | exact HI0.out)) (rk HO249) (by decide)) hk (fun _ h => h.2)) (fun _ h => h.1)); replace BK251 := ak (KeepBut.blk hk (g' := gb251) (o := .cells #[.int .i64 t246, .slice Ao78 t247.length co78] 25 (0, 0)) (bk BK251) NB251_0.out (by simp)); replace HK := ak (KeepBut.trans (by repeat (first | (with_reducible first | exact HK.out | apply KeepBut.set_ | apply keep_drewN | apply keep_drew | apply keep_alloc | refine keep_far ?_ GW245.out _ | refine keep_far ?_ GW251.out _) | exact HK.out)) hk (.inl rfl)); replace HB := ak (hb); replace HI0 := ak (hi); (try clear hb); (try clear hb2); (try clear hk); (try clear hi); have hcz81_0 := bc w80 BK251 0 (.int .i64 t246) rfl; have hcz81_1 := bc w80 BK251 1 (.slice Ao78 t247.length co78) rfl; have hfz81_0 := fz BK251 0; have hfz81_1 := fz BK251 1; have hnb82 := NB245_0.out; have hnc82 := NB0_245.out; have hcz83_0 := bc w80 BK245 0 (.int .i64 0) rfl; have hcz83_1 := bc w80 BK245 1 (.slice none 0 0) rfl; have hfz83_0 := fz BK245 0; have hfz83_1 := fz BK245 1))
  refine bodyPost_ret (results_cell_row rfl _ _ gb245 25 #[.int .i64 t246, .slice Ao78 t247.length co78] (0, 0) _ rfl (by (with_reducible repeat (first | refine blk_drewN ?_ _ | refine blk_drew ?_ | refine blk_alloc ?_ _)); refine blk_put (cs := #[.int .i64 t246, .slice none 0 0]) ?_ 1 _ rfl; refine blk_put (cs := #[.int .i64 0, .slice none 0 0]) ?_ 0 _ rfl; (with_reducible repeat (first | refine blk_drewN ?_ _ | refine blk_drew ?_ | refine blk_alloc ?_ _)); exact BK245.out) Try.underlying25 rfl (by kernel_rfl)) rfl ?_
  exact ⟨_, by first | rfl | (simp [errW_none, errW_some] <;> rfl) | (simp [*, errW_none, errW_some] <;> rfl), by (with_reducible repeat (first | apply Kd.R_alloc | apply Kd.R_drewN | apply Kd.R_drew)); exact Kd.R_mono (Kd.R_far (p := ⟨gb245, 1, none⟩) (Kd.R_far (p := ⟨gb245, 0, none⟩) (Kd.R_types HO249.out BK245.out (by decide)) (fun _ hk => hk.2) (.int .i64 t246)) (fun _ hk => hk.2) (.slice Ao78 t247.length co78)) (fun _ hk => trivial), by repeat (first | (with_reducible first | exact HI0.out | apply IsS89.alloc | apply IsS89.drewN | apply IsS89.drew | apply IsS89.set_1 | refine IsS89.far ?_ NB0_245.out _ | refine IsS89.far ?_ NB0_251.out _) | exact HI0.out), by repeat (first | (with_reducible first | exact HB.out | apply below_alloc | apply pw_below_drewN | apply below_drew1 | refine below_set ?_ (IsS89.ge HI0.out) | refine below_set ?_ GE245.out | refine below_set ?_ GE251.out) | exact HB.out), by repeat (first | (with_reducible first | exact HK.out | apply KeepBut.set_ | apply keep_drewN | apply keep_drew | apply keep_alloc | refine keep_far ?_ GW245.out _ | refine keep_far ?_ GW251.out _) | exact HK.out)⟩
 rw [if_pos c54] at H
 have c54b0 : (t254 == 2) = true := beq_iff_eq.mpr c54
 have c54b1 : (t254 != 2) = false := bne_eq_false_iff_eq.mpr c54
 clear c54
 obtain ⟨y269, hy269⟩ : ∃ y_ : List Int, y_ = (([0, 1, 9, 8] : List Int)) := ⟨_, rfl⟩
 replace H : ((spec_l30Rd_one.f k s0_0 t255 y269).bind fun bt272 => (some (bt272.1, t247, bt272.2))) = some (r1, r2, r3) := by first | (rw [hy269]; with_reducible exact H) | (have H2_ := (Option.bind_some _ _).symm.trans H; rw [hy269]; with_reducible exact H2_) | (have H2_ := (Option.bind_some _ _).symm.trans H; with_reducible exact H2_) | with_reducible exact H | (rw [hy269]; exact H) | exact H
 have Ny269 := ak hy269
 clear hy269
 replace H := Option.bind_eq_some_iff.mp H
 obtain ⟨⟨t272, t273⟩, A550, H⟩ := H
 have A55 := ak A550
 clear A550
 simp only [Option.some.injEq, Prod.mk.injEq] at H
 obtain ⟨rfl, rfl, rfl⟩ := H
 go_enter Try.func39, Try.ntmps39
 go_wp2_with (first | ((with_reducible refine gate_dst (N := 2) rfl ?_); refine box_event ?hg (N := 2) ?hd (cs := #[.int .i64 0, .slice none 0 0]) (t := 25) ?hr ?_; (case hd => rfl); (case hg => rfl); (case hr => first | (go_simp; done) | (go_simp; rfl)); intro gb245 hg w56 hbox hb; replace HB := ak (below_step (by repeat (first | (with_reducible first | exact HB.out | apply below_alloc | apply pw_below_drewN | apply below_drew1 | refine below_set ?_ (IsS89.ge HI0.out)) | exact HB.out)) hb); have BK245 := ak (hbox); have GW245 := ak ((by rw [hg]; exact (keep_size (w := w) (g := g) (row := none) (by repeat (first | (with_reducible first | exact HK.out | apply KeepBut.set_ | apply keep_drewN | apply keep_drew | apply keep_alloc) | exact HK.out))) : w.heap.size ≤ gb245)); have GE245 := ak ((Nat.le_trans HW0.out (by rw [hg]; exact (keep_size (w := w) (g := g) (row := none) (by repeat (first | (with_reducible first | exact HK.out | apply KeepBut.set_ | apply keep_drewN | apply keep_drew | apply keep_alloc) | exact HK.out))) : w.heap.size ≤ gb245) : w0.heap.size ≤ gb245)); replace HK := ak (KeepBut.trans (by repeat (first | (with_reducible first | exact HK.out | apply KeepBut.set_ | apply keep_drewN | apply keep_drew | apply keep_alloc) | exact HK.out)) (KeepBut.of_below hb g none) (.inl rfl)); have NB0_245 := ak ((by rw [hg]; exact Nat.ne_of_lt (IsS89.lt (show IsS89 w0 _ g s0_0 s0_1 from by repeat (first | (with_reducible first | exact HI0.out | apply IsS89.alloc | apply IsS89.drewN | apply IsS89.drew | apply IsS89.set_1) | exact HI0.out))) : g ≠ gb245)); have NB245_0 := ak ((by rw [hg]; exact Nat.ne_of_gt (IsS89.lt (show IsS89 w0 _ g s0_0 s0_1 from by repeat (first | (with_reducible first | exact HI0.out | apply IsS89.alloc | apply IsS89.drewN | apply IsS89.drew | apply IsS89.set_1) | exact HI0.out))) : gb245 ≠ g)); replace HI0 := ak (IsS89.below (by repeat (first | (with_reducible first | exact HI0.out | apply IsS89.alloc | apply IsS89.drewN | apply IsS89.drew | apply IsS89.set_1) | exact HI0.out)) hb); clear hb hbox hg) | ((with_reducible refine gate_callee (f := 66) rfl ?_); refine goesL_ (some 6) rfl rfl Try.func66 (by kernel_rfl) rfl #[.pointer (some ⟨g, 0, none⟩)] rfl (by (try simp only [List.map_toArray, List.map_cons, List.map_nil]); first | done | rfl | (simp only [List.length_drop, List.length_take]; rfl)) ?_; (with_reducible refine (spec_l30Net.calls k g s0_0 s0_1 t246 t247 t250 w0 _ ?side1 ?side2 A2.out).mono ?_); (case side1 => repeat (first | (with_reducible first | exact HI0.out | apply IsS89.alloc | apply IsS89.drewN | apply IsS89.drew | apply IsS89.set_1 | refine IsS89.far ?_ NB0_245.out _) | exact HI0.out)); (case side2 => repeat (first | (with_reducible first | exact HB.out | apply below_alloc | apply pw_below_drewN | apply below_drew1 | refine below_set ?_ (IsS89.ge HI0.out) | refine below_set ?_ GE245.out) | exact HB.out)); rintro e w57 ⟨v248, rfl, ho0, hi, hb, hk⟩; refine ⟨_, rfl, ?_⟩; replace BK245 := ak (KeepBut.blk hk (g' := gb245) (o := .cells #[.int .i64 0, .slice none 0 0] 25 (0, 0)) (bk BK245) NB245_0.out (by simp)); have HO249 := ak (Kd.R_lower ho0 (keep_size (w := w) (g := g) (row := none) (by repeat (first | (with_reducible first | exact HK.out | apply KeepBut.set_ | apply keep_drewN | apply keep_drew | apply keep_alloc | refine keep_far ?_ GW245.out _) | exact HK.out)))); replace HK := ak (KeepBut.trans (by repeat (first | (with_reducible first | exact HK.out | apply KeepBut.set_ | apply keep_drewN | apply keep_drew | apply keep_alloc | refine keep_far ?_ GW245.out _) | exact HK.out)) hk (.inl rfl)); replace HB := ak (hb); replace HI0 := ak (hi); (try clear hb); (try clear hb2); (try clear hk); (try clear hi); (try clear ho0)) | ((with_reducible refine gate_dst (N := 3) rfl ?_); refine box_event ?hg (N := 3) ?hd (cs := #[.int .i64 0, .slice none 0 0]) (t := 25) ?hr ?_; (case hd => rfl); (case hg => rfl); (case hr => first | (go_simp; done) | (go_simp; rfl)); intro gb251 hg w58 hbox hb; replace HO249 := ak (Kd.R_below (rk HO249) hb); replace HB := ak (below_step (by repeat (first | (with_reducible first | exact HB.out | apply below_alloc | apply pw_below_drewN | apply below_drew1 | refine below_set ?_ (IsS89.ge HI0.out) | refine below_set ?_ GE245.out) | exact HB.out)) hb); have BK251 := ak (hbox); have GW251 := ak ((by rw [hg]; exact (keep_size (w := w) (g := g) (row := none) (by repeat (first | (with_reducible first | exact HK.out | apply KeepBut.set_ | apply keep_drewN | apply keep_drew | apply keep_alloc | refine keep_far ?_ GW245.out _) | exact HK.out))) : w.heap.size ≤ gb251)); have GE251 := ak ((Nat.le_trans HW0.out (by rw [hg]; exact (keep_size (w := w) (g := g) (row := none) (by repeat (first | (with_reducible first | exact HK.out | apply KeepBut.set_ | apply keep_drewN | apply keep_drew | apply keep_alloc | refine keep_far ?_ GW245.out _) | exact HK.out))) : w.heap.size ≤ gb251) : w0.heap.size ≤ gb251)); replace HK := ak (KeepBut.trans (by repeat (first | (with_reducible first | exact HK.out | apply KeepBut.set_ | apply keep_drewN | apply keep_drew | apply keep_alloc | refine keep_far ?_ GW245.out _) | exact HK.out)) (KeepBut.of_below hb g none) (.inl rfl)); have NB245_251 := ak ((by rw [hg]; exact Nat.ne_of_lt (blk_lt (bk BK245)) : gb245 ≠ gb251)); have NB251_245 := ak ((by rw [hg]; exact Nat.ne_of_gt (blk_lt (bk BK245)) : gb251 ≠ gb245)); replace BK245 := ak (blk_below (bk BK245) hb); have NB0_251 := ak ((by rw [hg]; exact Nat.ne_of_lt (IsS89.lt (show IsS89 w0 _ g s0_0 t250 from by repeat (first | (with_reducible first | exact HI0.out | apply IsS89.alloc | apply IsS89.drewN | apply IsS89.drew | apply IsS89.set_1 | refine IsS89.far ?_ NB0_245.out _) | exact HI0.out))) : g ≠ gb251)); have NB251_0 := ak ((by rw [hg]; exact Nat.ne_of_gt (IsS89.lt (show IsS89 w0 _ g s0_0 t250 from by repeat (first | (with_reducible first | exact HI0.out | apply IsS89.alloc | apply IsS89.drewN | apply IsS89.drew | apply IsS89.set_1 | refine IsS89.far ?_ NB0_245.out _) | exact HI0.out))) : gb251 ≠ g)); replace HI0 := ak (IsS89.below (by repeat (first | (with_reducible first | exact HI0.out | apply IsS89.alloc | apply IsS89.drewN | apply IsS89.drew | apply IsS89.set_1 | refine IsS89.far ?_ NB0_245.out _) | exact HI0.out)) hb); clear hb hbox hg; have hnb59 := NB251_245.out; have hnc59 := NB245_251.out; have hnb60 := NB251_0.out; have hnc60 := NB0_251.out; have hcz61_0 := bc w58 BK251 0 (.int .i64 0) rfl; have hcz61_1 := bc w58 BK251 1 (.slice none 0 0) rfl; have hfz61_0 := fz BK251 0; have hfz61_1 := fz BK251 1; obtain ⟨Ao62, co62, eo62⟩ := Kd.R_slice HO249.out; subst eo62) | ((with_reducible refine gate_callee (f := 67) rfl ?_); refine goesL_ (some 15) rfl rfl Try.func67 (by kernel_rfl) rfl #[.pointer (some ⟨g, 0, none⟩), .int .i64 (t247.length : Int)] rfl (by (try simp only [List.map_toArray, List.map_cons, List.map_nil]); first | done | rfl | (simp only [List.length_drop, List.length_take]; rfl)) ?_; (with_reducible refine (spec_l30Rd_pick.calls k g s0_0 t250 (t247.length : Int) t252 t253 w0 _ ?side1 ?side2 A4.out).mono ?_); (case side1 => repeat (first | (with_reducible first | exact HI0.out | apply IsS89.alloc | apply IsS89.drewN | apply IsS89.drew | apply IsS89.set_1 | refine IsS89.far ?_ NB0_245.out _ | refine IsS89.far ?_ NB0_251.out _) | exact HI0.out)); (case side2 => repeat (first | (with_reducible first | exact HB.out | apply below_alloc | apply pw_below_drewN | apply below_drew1 | refine below_set ?_ (IsS89.ge HI0.out) | refine below_set ?_ GE245.out | refine below_set ?_ GE251.out) | exact HB.out)); rintro e w63 ⟨rfl, hi, hb, hk⟩; refine ⟨_, rfl, ?_⟩; replace BK245 := ak (KeepBut.blk hk (g' := gb245) (o := .cells #[.int .i64 0, .slice none 0 0] 25 (0, 0)) (by (with_reducible repeat (first | refine blk_drewN ?_ _ | refine blk_drew ?_ | refine blk_alloc ?_ _)); refine blk_far ?_ NB245_251.out _; refine blk_far ?_ NB245_251.out _; (with_reducible repeat (first | refine blk_drewN ?_ _ | refine blk_drew ?_ | refine blk_alloc ?_ _)); exact BK245.out) NB245_0.out (by simp)); replace HO249 := ak (Kd.R_mono (Kd.R_keep (IsS89.apart (show IsS89 w0 _ g s0_0 t250 from by repeat (first | (with_reducible first | exact HI0.out | apply IsS89.alloc | apply IsS89.drewN | apply IsS89.drew | apply IsS89.set_1 | refine IsS89.far ?_ NB0_245.out _ | refine IsS89.far ?_ NB0_251.out _) | exact HI0.out)) (by (with_reducible repeat (first | apply Kd.R_alloc | apply Kd.R_drewN | apply Kd.R_drew)); exact (Kd.R_mono (Kd.R_far (p := ⟨gb251, 1, none⟩) (Kd.R_far (p := ⟨gb251, 0, none⟩) (Kd.R_types HO249.out BK251.out (by decide)) (fun _ hk => hk.2) (.int .i64 t246)) (fun _ hk => hk.2) (.slice Ao62 t247.length co62)) (fun _ h_ => h_.1))) (by decide)) hk (fun _ h => h.2)) (fun _ h => h.1)); replace BK251 := ak (KeepBut.blk hk (g' := gb251) (o := .cells #[.int .i64 t246, .slice Ao62 t247.length co62] 25 (0, 0)) (by (with_reducible repeat (first | refine blk_drewN ?_ _ | refine blk_drew ?_ | refine blk_alloc ?_ _)); refine blk_put (cs := #[.int .i64 t246, .slice none 0 0]) ?_ 1 _ rfl; refine blk_put (cs := #[.int .i64 0, .slice none 0 0]) ?_ 0 _ rfl; (with_reducible repeat (first | refine blk_drewN ?_ _ | refine blk_drew ?_ | refine blk_alloc ?_ _)); exact BK251.out) NB251_0.out (by simp)); replace HK := ak (KeepBut.trans (by repeat (first | (with_reducible first | exact HK.out | apply KeepBut.set_ | apply keep_drewN | apply keep_drew | apply keep_alloc | refine keep_far ?_ GW245.out _ | refine keep_far ?_ GW251.out _) | exact HK.out)) hk (.inl rfl)); replace HB := ak (hb); replace HI0 := ak (hi); (try clear hb); (try clear hb2); (try clear hk); (try clear hi)) | ((with_reducible refine gate_callee (f := 67) rfl ?_); refine goesL_ (some 17) rfl rfl Try.func67 (by kernel_rfl) rfl #[.pointer (some ⟨g, 0, none⟩), .int .i64 16] rfl (by (try simp only [List.map_toArray, List.map_cons, List.map_nil]); first | done | rfl | (simp only [List.length_drop, List.length_take]; rfl)) ?_; (with_reducible refine (spec_l30Rd_pick.calls k g s0_0 t253 16 t254 t255 w0 _ ?side1 ?side2 A5.out).mono ?_); (case side1 => repeat (first | (with_reducible first | exact HI0.out | apply IsS89.alloc | apply IsS89.drewN | apply IsS89.drew | apply IsS89.set_1 | refine IsS89.far ?_ NB0_245.out _ | refine IsS89.far ?_ NB0_251.out _) | exact HI0.out)); (case side2 => repeat (first | (with_reducible first | exact HB.out | apply below_alloc | apply pw_below_drewN | apply below_drew1 | refine below_set ?_ (IsS89.ge HI0.out) | refine below_set ?_ GE245.out | refine below_set ?_ GE251.out) | exact HB.out)); rintro e w64 ⟨rfl, hi, hb, hk⟩; refine ⟨_, rfl, ?_⟩; replace BK245 := ak (KeepBut.blk hk (g' := gb245) (o := .cells #[.int .i64 0, .slice none 0 0] 25 (0, 0)) (bk BK245) NB245_0.out (by simp)); replace HO249 := ak (Kd.R_mono (Kd.R_keep (IsS89.apart (show IsS89 w0 _ g s0_0 t253 from by repeat (first | (with_reducible first | exact HI0.out | apply IsS89.alloc | apply IsS89.drewN | apply IsS89.drew | apply IsS89.set_1 | refine IsS89.far ?_ NB0_245.out _ | refine IsS89.far ?_ NB0_251.out _) | exact HI0.out)) (rk HO249) (by decide)) hk (fun _ h => h.2)) (fun _ h => h.1)); replace BK251 := ak (KeepBut.blk hk (g' := gb251) (o := .cells #[.int .i64 t246, .slice Ao62 t247.length co62] 25 (0, 0)) (bk BK251) NB251_0.out (by simp)); replace HK := ak (KeepBut.trans (by repeat (first | (with_reducible first | exact HK.out | apply KeepBut.set_ | apply keep_drewN | apply keep_drew | apply keep_alloc | refine keep_far ?_ GW245.out _ | refine keep_far ?_ GW251.out _) | exact HK.out)) hk (.inl rfl)); replace HB := ak (hb); replace HI0 := ak (hi); (try clear hb); (try clear hb2); (try clear hk); (try clear hi)) | ((with_reducible refine gate_dst (N := 47) rfl ?_); refine Kd.R_lit (Kd.int .i64) _ 3 ?hg (N := 47) ?hd (xs := ([0, 1, 9, 8] : List Int)) (inner := [.int .i64 0, .int .i64 1, .int .i64 9, .int .i64 8]) (ok := fun _ => True) (okp := fun _ => True) ?hr ?hp (fun _ hk => hk) trivial (Below.refl _ _) (Nat.le_refl _) (by simp) ?_; (case hd => rfl); (case hg => rfl); (case hr => first | (go_simp; done) | (go_simp; rfl)); (case hp => exact (Reps.one (show Kd.M (Kd.int .i64) _ _ _ 0 [.int .i64 0] from rfl) (Reps.one (show Kd.M (Kd.int .i64) _ _ _ 1 [.int .i64 1] from rfl) (Reps.one (show Kd.M (Kd.int .i64) _ _ _ 9 [.int .i64 9] from rfl) (Reps.one (show Kd.M (Kd.int .i64) _ _ _ 8 [.int .i64 8] from rfl) (Reps.none _ _)))))); intro v270 w65 ho66 hb hg_ hnew_; clear hg_ hnew_; (first | rw [← Ny269.out] at ho66 | (simp only [Int.reduceToNat] at ho66; rw [← Ny269.out] at ho66)); replace HO249 := ak (Kd.R_below (rk HO249) hb); have HO271 := ak (Kd.R_lower ho66 (keep_size (w := w) (g := g) (row := none) (by repeat (first | (with_reducible first | exact HK.out | apply KeepBut.set_ | apply keep_drewN | apply keep_drew | apply keep_alloc | refine keep_far ?_ GW245.out _ | refine keep_far ?_ GW251.out _) | exact HK.out)))); replace BK245 := ak (blk_below (bk BK245) hb); replace BK251 := ak (blk_below (bk BK251) hb); replace HK := ak (KeepBut.trans (by repeat (first | (with_reducible first | exact HK.out | apply KeepBut.set_ | apply keep_drewN | apply keep_drew | apply keep_alloc | refine keep_far ?_ GW245.out _ | refine keep_far ?_ GW251.out _) | exact HK.out)) (KeepBut.of_below hb g none) (.inl rfl)); replace HB := ak (below_step (by repeat (first | (with_reducible first | exact HB.out | apply below_alloc | apply pw_below_drewN | apply below_drew1 | refine below_set ?_ (IsS89.ge HI0.out) | refine below_set ?_ GE245.out | refine below_set ?_ GE251.out) | exact HB.out)) hb); replace HI0 := ak (IsS89.below (by repeat (first | (with_reducible first | exact HI0.out | apply IsS89.alloc | apply IsS89.drewN | apply IsS89.drew | apply IsS89.set_1 | refine IsS89.far ?_ NB0_245.out _ | refine IsS89.far ?_ NB0_251.out _) | exact HI0.out)) hb); clear hb ho66; obtain ⟨Ao67, co67, eo67⟩ := Kd.R_slice HO271.out; subst eo67) | ((with_reducible refine gate_callee (f := 58) rfl ?_); refine goesL_ (some 48) rfl rfl Try.func58 (by kernel_rfl) rfl #[.pointer (some ⟨g, 0, none⟩), .slice Ao67 y269.length co67] rfl (by (try simp only [List.map_toArray, List.map_cons, List.map_nil]); first | done | rfl | (simp only [List.length_drop, List.length_take]; rfl)) ?_; (with_reducible refine (spec_l30Rd_one.calls k g s0_0 t255 _ _ y269 t272 t273 w0 _ ?side1 ?side2 ?side3 ?side4 ?side5 A55.out).mono ?_); (case side1 => repeat (first | (with_reducible first | exact HI0.out | apply IsS89.alloc | apply IsS89.drewN | apply IsS89.drew | apply IsS89.set_1 | refine IsS89.far ?_ NB0_245.out _ | refine IsS89.far ?_ NB0_251.out _) | exact HI0.out)); (case side2 => repeat (first | (with_reducible first | exact HB.out | apply below_alloc | apply pw_below_drewN | apply below_drew1 | refine below_set ?_ (IsS89.ge HI0.out) | refine below_set ?_ GE245.out | refine below_set ?_ GE251.out) | exact HB.out)); (case side3 => repeat (first | exact (Kd.R_reads' HO271.out).2.2 | (with_reducible refine Kd.C_alloc ?_ _) | (with_reducible refine Kd.C_drewN ?_ _) | (with_reducible refine Kd.C_drew ?_))); (case side4 => exact (Kd.R_reads' HO271.out).2.1); (case side5 => exact far_slice (IsS89.own_ne HI0.out HO271.out (by decide))); rintro e w68 ⟨rfl, hi, hb, hk⟩; refine ⟨_, rfl, ?_⟩; replace BK245 := ak (KeepBut.blk hk (g' := gb245) (o := .cells #[.int .i64 0, .slice none 0 0] 25 (0, 0)) (bk BK245) NB245_0.out (by simp)); replace HO249 := ak (Kd.R_mono (Kd.R_keep (IsS89.apart (show IsS89 w0 _ g s0_0 t255 from by repeat (first | (with_reducible first | exact HI0.out | apply IsS89.alloc | apply IsS89.drewN | apply IsS89.drew | apply IsS89.set_1 | refine IsS89.far ?_ NB0_245.out _ | refine IsS89.far ?_ NB0_251.out _) | exact HI0.out)) (rk HO249) (by decide)) hk (fun _ h => h.2)) (fun _ h => h.1)); replace BK251 := ak (KeepBut.blk hk (g' := gb251) (o := .cells #[.int .i64 t246, .slice Ao62 t247.length co62] 25 (0, 0)) (bk BK251) NB251_0.out (by simp)); replace HO271 := ak (Kd.R_mono (Kd.R_keep (IsS89.apart (show IsS89 w0 _ g s0_0 t255 from by repeat (first | (with_reducible first | exact HI0.out | apply IsS89.alloc | apply IsS89.drewN | apply IsS89.drew | apply IsS89.set_1 | refine IsS89.far ?_ NB0_245.out _ | refine IsS89.far ?_ NB0_251.out _) | exact HI0.out)) (rk HO271) (by decide)) hk (fun _ h => h.2)) (fun _ h => h.1)); replace HK := ak (KeepBut.trans (by repeat (first | (with_reducible first | exact HK.out | apply KeepBut.set_ | apply keep_drewN | apply keep_drew | apply keep_alloc | refine keep_far ?_ GW245.out _ | refine keep_far ?_ GW251.out _) | exact HK.out)) hk (.inl rfl)); replace HB := ak (hb); replace HI0 := ak (hi); (try clear hb); (try clear hb2); (try clear hk); (try clear hi); have hcz69_0 := bc w68 BK251 0 (.int .i64 t246) rfl; have hcz69_1 := bc w68 BK251 1 (.slice Ao62 t247.length co62) rfl; have hfz69_0 := fz BK251 0; have hfz69_1 := fz BK251 1; have hnb70 := NB245_0.out; have hnc70 := NB0_245.out; have hcz71_0 := bc w68 BK245 0 (.int .i64 0) rfl; have hcz71_1 := bc w68 BK245 1 (.slice none 0 0) rfl; have hfz71_0 := fz BK245 0; have hfz71_1 := fz BK245 1))
 refine bodyPost_ret (results_cell_row rfl _ _ gb245 25 #[.int .i64 t272, .slice Ao62 t247.length co62] (0, 0) _ rfl (by (with_reducible repeat (first | refine blk_drewN ?_ _ | refine blk_drew ?_ | refine blk_alloc ?_ _)); refine blk_put (cs := #[.int .i64 t272, .slice none 0 0]) ?_ 1 _ rfl; refine blk_put (cs := #[.int .i64 0, .slice none 0 0]) ?_ 0 _ rfl; refine blk_far ?_ NB245_251.out _; (with_reducible repeat (first | refine blk_drewN ?_ _ | refine blk_drew ?_ | refine blk_alloc ?_ _)); exact BK245.out) Try.underlying25 rfl (by kernel_rfl)) rfl ?_
 exact ⟨_, by first | rfl | (simp [errW_none, errW_some] <;> rfl) | (simp [*, errW_none, errW_some] <;> rfl), by (with_reducible repeat (first | apply Kd.R_alloc | apply Kd.R_drewN | apply Kd.R_drew)); exact Kd.R_mono (Kd.R_far (p := ⟨gb245, 1, none⟩) (Kd.R_far (p := ⟨gb245, 0, none⟩) (Kd.R_far (p := ⟨gb251, 0, none⟩) (Kd.R_types (Kd.R_types HO249.out BK251.out (by decide)) BK245.out (by decide)) (fun _ hk => hk.1.2) (.int .i64 t272)) (fun _ hk => hk.2) (.int .i64 t272)) (fun _ hk => hk.2) (.slice Ao62 t247.length co62)) (fun _ hk => trivial), by repeat (first | (with_reducible first | exact HI0.out | apply IsS89.alloc | apply IsS89.drewN | apply IsS89.drew | apply IsS89.set_1 | refine IsS89.far ?_ NB0_245.out _ | refine IsS89.far ?_ NB0_251.out _) | exact HI0.out), by repeat (first | (with_reducible first | exact HB.out | apply below_alloc | apply pw_below_drewN | apply below_drew1 | refine below_set ?_ (IsS89.ge HI0.out) | refine below_set ?_ GE245.out | refine below_set ?_ GE251.out) | exact HB.out), by repeat (first | (with_reducible first | exact HK.out | apply KeepBut.set_ | apply keep_drewN | apply keep_drew | apply keep_alloc | refine keep_far ?_ GW245.out _ | refine keep_far ?_ GW251.out _) | exact HK.out)⟩

end Go.Proofs.Ytddkaiegnohkcaa.F
