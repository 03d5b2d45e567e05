-- Printed by wip/px/px.py of this claim's repository (the kit's printer, extended there). Lean checks it.
import Derived.Test.YthgihpbpebbebaaFKinds
import Derived.Test.YthgihpbpebbebaaFspecl30Open
import Derived.Test.YthgihpbpebbebaaFspecl30Rdpick
import Derived.Test.YthgihpbpebbebaaFspecl30Rdone
import Derived.Test.YthgihpbpebbebaaFspecl30Net
import Derived.Test.YthgihpbpebbebaaFspecl16Copy
import Derived.Test.YthgihpbpebbebaaFspecLiveTell
import Derived.Test.YthgihpbpebbebaaFspecl30News
namespace Go.Proofs.Ythgihpbpebbebaa.F
open Go.RowKit Go.Proofs.YthgihpbpebbebaaW.PrintWords Go.Proofs.YthgihpbpebbebaaW.PrintLast Go.Proofs.YthgihpbpebbebaaW.PrintMore
attribute [local go_sem] max2_int min2_int max_two min_two max_three min_three max_four min_four   -- for this text's walks alone
set_option linter.unusedVariables false
set_option linter.unusedSimpArgs false

/-! ### spec_l30Live: function 86 -/
def spec_l30Live.l0 : Nat → Int → List Int → Int → Int → List (S31) → List (S64) → Option (Int × (List (S31)) × (List (S64)) × Int)
 | 0, _, _, _, _, _, _ => none
 | k + 1, x4, x1000, x1001, x702000, x702001, x702002 => if x4 > 0 then ((spec_l30News.f k x1000 x1001 x702000 x702001).bind fun bt704 => ((spec_LiveTell.f k x702000 x702001 x702002 bt704.1 bt704.2.1 bt704.2.2.1).bind fun bt708 => (spec_l30Live.l0 k (wrap64 (x4 - 1)) x1000 bt704.2.2.2 bt708.1 bt708.2.1 bt708.2.2.1))) else (if (x702002.length : Int) > 0 then ((spec_l30Rd_pick.f k x1000 x1001 (x702002.length : Int)).bind fun bt717 => ((spec_l30Rd_pick.f k x1000 bt717.2 14).bind fun bt719 => (if bt719.1 = 0 then ((spec_l30Rd_one.f k x1000 bt719.2 (([(-2), 100] : List Int))).bind fun bt724 => (if 0 ≤ bt717.1 then (if bt717.1 < (x702002.length : Int) then ((spec_l16Copy.f x702000 x702001 (x702002.set (bt717.1 : Int).toNat (⟨(rd_T64 x702002 bt717.1).f0, (rd_T64 x702002 bt717.1).f1, bt724.1⟩ : S64))).bind fun bt727 => (some (bt727.1, bt727.2.1, bt727.2.2, bt724.2))) else (none)) else (none))) else (if bt719.1 = 1 then (if 0 ≤ bt717.1 then (if bt717.1 < (x702002.length : Int) then (if x702002.length < 5864062014805 then ((spec_l16Copy.f x702000 x702001 (x702002 ++ [(⟨(rd_T64 x702002 bt717.1).f0, (rd_T64 x702002 bt717.1).f1, (rd_T64 x702002 bt717.1).f2⟩ : S64)])).bind fun bt738 => (some (bt738.1, bt738.2.1, bt738.2.2, bt719.2))) else (none)) else (none)) else (none)) else ((spec_l16Copy.f x702000 x702001 x702002).bind fun bt745 => (some (bt745.1, bt745.2.1, bt745.2.2, bt719.2))))))) else ((spec_l16Copy.f x702000 x702001 x702002).bind fun bt752 => (some (bt752.1, bt752.2.1, bt752.2.2, x1001))))
def spec_l30Live.f (k : Nat) (s0_0 : List Int) (s0_1 : Int) : Option (Int × (List (S31)) × (List (S64)) × Int) := (spec_l30Net.f k s0_0 s0_1).bind fun bt696 => ((spec_l30Rd_pick.f k s0_0 bt696.2.2 7).bind fun bt702 => (spec_l30Live.l0 k bt702.1 s0_0 bt702.2 bt696.1 bt696.2.1 ([] : List (S64))))
theorem spec_l30Live.mono_l : ∀ k, (∀ y0 y1 y2 y3 y4 y5, LeO (spec_l30Live.l0 k y0 y1 y2 y3 y4 y5) (spec_l30Live.l0 (k + 1) y0 y1 y2 y3 y4 y5))
 | 0 => fun _ _ _ _ _ _ r h => by simp [spec_l30Live.l0] at h
 | k + 1 => by
  have ih0 := spec_l30Live.mono_l k
  ·intro y0 y1 y2 y3 y4 y5
   unfold spec_l30Live.l0
   repeat' first
   | (with_reducible exact ih0 _ _ _ _ _ _)
   | (with_reducible exact spec_LiveTell.mono _ _ _ _ _ _ _)
   | (with_reducible exact spec_l30Net.mono _ _ _)
   | (with_reducible exact spec_l30News.mono _ _ _ _ _)
   | (with_reducible exact spec_l30Rd_one.mono _ _ _ _)
   | (with_reducible exact spec_l30Rd_pick.mono _ _ _ _)
   | (with_reducible exact LeO.refl _)
   | (with_reducible exact LeO.none _)
   | (with_reducible refine LeO.ite ?_ ?_)
   | (with_reducible refine LeO.bind ?_ (fun _ => ?_))
   | exact ih0 _ _ _ _ _ _
   | exact spec_LiveTell.mono _ _ _ _ _ _ _
   | exact spec_l30Net.mono _ _ _
   | exact spec_l30News.mono _ _ _ _ _
   | exact spec_l30Rd_one.mono _ _ _ _
   | exact spec_l30Rd_pick.mono _ _ _ _
   | exact LeO.none _
   | refine LeO.ite ?_ ?_
   | refine LeO.bind ?_ (fun _ => ?_)
theorem spec_l30Live.mono : ∀ a0 a1 k, LeO (spec_l30Live.f k a0 a1) (spec_l30Live.f (k + 1) a0 a1) := by
 intro a0 a1 k
 have ih0 := spec_l30Live.mono_l k
 unfold spec_l30Live.f
 repeat' first
   | (with_reducible exact ih0 _ _ _ _ _ _)
   | (with_reducible exact spec_LiveTell.mono _ _ _ _ _ _ _)
   | (with_reducible exact spec_l30Net.mono _ _ _)
   | (with_reducible exact spec_l30News.mono _ _ _ _ _)
   | (with_reducible exact spec_l30Rd_one.mono _ _ _ _)
   | (with_reducible exact spec_l30Rd_pick.mono _ _ _ _)
   | (with_reducible exact LeO.refl _)
   | (with_reducible exact LeO.none _)
   | (with_reducible refine LeO.ite ?_ ?_)
   | (with_reducible refine LeO.bind ?_ (fun _ => ?_))
   | exact ih0 _ _ _ _ _ _
   | exact spec_LiveTell.mono _ _ _ _ _ _ _
   | exact spec_l30Net.mono _ _ _
   | exact spec_l30News.mono _ _ _ _ _
   | exact spec_l30Rd_one.mono _ _ _ _
   | exact spec_l30Rd_pick.mono _ _ _ _
   | exact LeO.none _
   | refine LeO.ite ?_ ?_
   | refine LeO.bind ?_ (fun _ => ?_)
def spec_l30Live.T5 : Bool × List (List Nat × List Nat) := (true, [([], []), ([], []), ([], []), ([2], [2]), ([1, 3], [1, 3]), ([0, 4, 4], [0, 4]), ([5], [5]), ([6], [6]), ([6], [6]), ([], []), ([9, 7, 5, 0, 1, 2, 3, 4, 5, 6, 7, 9], [7, 9]), ([8, 10, 0, 1, 2, 3, 4, 5, 6, 7, 8, 9, 10], [8])])
def spec_l30Live.B5 : List Nat := [0, 0, 0, 4, 14, 31, 63, 127, 127, 0, 767, 2047]
theorem spec_l30Live.tab5 : rtab .any (opsOf Try.f86 5) = spec_l30Live.T5 := by kernel_rfl
theorem spec_l30Live.bits5 : waitsOk spec_l30Live.T5.2 spec_l30Live.B5 = true := by kernel_rfl
def spec_l30Live.T11 : Bool × List (List Nat × List Nat) := (true, [([], []), ([0], [0]), ([], []), ([], []), ([], []), ([3, 4], [3, 4]), ([1, 2, 0, 1, 2, 3, 4, 5], [1, 2]), ([6, 0, 1, 2, 3, 4, 5], [6]), ([7, 5, 5, 0, 1, 2, 3, 4, 5], [5, 7])])
def spec_l30Live.B11 : List Nat := [0, 1, 0, 0, 0, 24, 63, 127, 255]
theorem spec_l30Live.tab11 : rtab .any (opsOf Try.f86 11) = spec_l30Live.T11 := by kernel_rfl
theorem spec_l30Live.bits11 : waitsOk spec_l30Live.T11.2 spec_l30Live.B11 = true := by kernel_rfl
def spec_l30Live.T13 : Bool × List (List Nat × List Nat) := (true, [([], []), ([0], [0]), ([], []), ([2], [2]), ([], []), ([3, 4], [3, 4]), ([5], [5]), ([6], [6]), ([1, 7], [1, 7]), ([0, 1, 2, 3, 4, 5, 6, 7, 8], []), ([9, 8, 8, 0, 1, 2, 3, 4, 5, 6, 7, 8], [8, 9])])
def spec_l30Live.B13 : List Nat := [0, 1, 0, 4, 0, 28, 60, 124, 255, 511, 1023]
theorem spec_l30Live.tab13 : rtab .any (opsOf Try.f86 13) = spec_l30Live.T13 := by kernel_rfl
theorem spec_l30Live.bits13 : waitsOk spec_l30Live.T13.2 spec_l30Live.B13 = true := by kernel_rfl
set_option maxHeartbeats 8000000 in
set_option maxRecDepth 100000 in
theorem spec_l30Live.calls (k : Nat) (g : Nat) (s0_0 : List Int) (s0_1 : Int) (r1 : Int) (r2 : List (S31)) (r3 : List (S64)) (r4 : Int) (w0 w : World) (hI : IsS113 w0 w g s0_0 s0_1) (hB : Below w0.heap.size w0 w) (h : spec_l30Live.f k s0_0 s0_1 = some (r1, r2, r3, r4)) :
  Calls Try.prog 86 #[.pointer (some ⟨g, 0, none⟩)] w fun e w' => ∃ v1_ v2_ : Value, e = .returned (.agg #[.int .i64 r1, v1_, v2_]) ∧ Kd.R k31 31 w' w.heap.size (fun _ => True) v1_ r2 ∧ Kd.R k64 64 w' w.heap.size (fun _ => True) v2_ r3 ∧ IsS113 w0 w' g s0_0 r4 ∧ Below w0.heap.size w0 w' ∧ KeepBut w w' g none := by
 have hu57 := Try.underlying57
 have hu25 := Try.underlying25
 have hu64 := Try.underlying64
 have HI0 := Aside0.mk hI
 have HK := Aside0.mk (KeepBut.refl w g none)
 have HL := Aside0.mk hB.size
 clear hI
 have HW0 := Aside0.mk hB.size
 have HB := Aside0.mk hB
 clear hB
 have H : ((spec_l30Net.f k s0_0 s0_1).bind fun bt696 => ((spec_l30Rd_pick.f k s0_0 bt696.2.2 7).bind fun bt702 => (spec_l30Live.l0 k bt702.1 s0_0 bt702.2 bt696.1 bt696.2.1 ([] : List (S64))))) = some (r1, r2, r3, r4) := h
 clear h
 replace H := Option.bind_eq_some_iff.mp H
 obtain ⟨⟨t696, t697, t700⟩, A20, H⟩ := H
 have A2 := Aside0.mk A20
 clear A20
 replace H := Option.bind_eq_some_iff.mp H
 obtain ⟨⟨t702, t703⟩, A30, H⟩ := H
 have A3 := Aside0.mk A30
 clear A30
 have H' := Aside0.mk H
 clear H
 go_enter Try.func86, Try.ntmps86
 go_wp2_with (first | ((with_reducible refine gate_dst (N := 2) rfl ?_); refine box_event ?hg (N := 2) ?hd (cs := #[.int .i64 0, .slice none 0 0, .slice none 0 0]) (t := 57) ?hr ?_; (case hd => rfl); (case hg => rfl); (case hr => first | (go_simp; done) | (go_simp; rfl)); intro gb695 hg w4 hbox hb; replace HB := Aside0.mk (below_step (by repeat (first | (with_reducible first | exact HB.out | apply below_alloc | apply pw_below_drewN | apply below_drew1 | refine below_set ?_ (IsS113.ge HI0.out)) | exact HB.out)) hb); have BK695 := Aside0.mk (hbox); have GW695 := Aside0.mk ((by rw [hg]; exact (keep_size (w := w) (g := g) (row := none) (by repeat (first | (with_reducible first | exact HK.out | apply KeepBut.set_ | apply keep_drewN | apply keep_drew | apply keep_alloc) | exact HK.out))) : w.heap.size ≤ gb695)); have GE695 := Aside0.mk ((Nat.le_trans HW0.out (by rw [hg]; exact (keep_size (w := w) (g := g) (row := none) (by repeat (first | (with_reducible first | exact HK.out | apply KeepBut.set_ | apply keep_drewN | apply keep_drew | apply keep_alloc) | exact HK.out))) : w.heap.size ≤ gb695) : w0.heap.size ≤ gb695)); replace HK := Aside0.mk (KeepBut.trans (by repeat (first | (with_reducible first | exact HK.out | apply KeepBut.set_ | apply keep_drewN | apply keep_drew | apply keep_alloc) | exact HK.out)) (KeepBut.of_below hb g none) (.inl rfl)); have NB0_695 := Aside0.mk ((by rw [hg]; exact Nat.ne_of_lt (IsS113.lt (show IsS113 w0 _ g s0_0 s0_1 from by repeat (first | (with_reducible first | exact HI0.out | apply IsS113.alloc | apply IsS113.drewN | apply IsS113.drew | apply IsS113.set_1) | exact HI0.out))) : g ≠ gb695)); have NB695_0 := Aside0.mk ((by rw [hg]; exact Nat.ne_of_gt (IsS113.lt (show IsS113 w0 _ g s0_0 s0_1 from by repeat (first | (with_reducible first | exact HI0.out | apply IsS113.alloc | apply IsS113.drewN | apply IsS113.drew | apply IsS113.set_1) | exact HI0.out))) : gb695 ≠ g)); replace HI0 := Aside0.mk (IsS113.below (by repeat (first | (with_reducible first | exact HI0.out | apply IsS113.alloc | apply IsS113.drewN | apply IsS113.drew | apply IsS113.set_1) | exact HI0.out)) hb); clear hb hbox hg) | ((with_reducible refine gate_callee (f := 100) rfl ?_); refine goesL_ (some 9) rfl rfl Try.func100 (by kernel_rfl) rfl #[.pointer (some ⟨g, 0, none⟩)] rfl (by (try simp only [List.map_toArray, List.map_cons, List.map_nil]); first | done | rfl | (simp only [List.length_drop, List.length_take]; rfl)) ?_; (with_reducible refine (spec_l30Net.calls k g s0_0 s0_1 t696 t697 t700 w0 _ ?side1 ?side2 A2.out).mono ?_); (case side1 => repeat (first | (with_reducible first | exact HI0.out | apply IsS113.alloc | apply IsS113.drewN | apply IsS113.drew | apply IsS113.set_1 | refine IsS113.far ?_ NB0_695.out _) | exact HI0.out)); (case side2 => repeat (first | (with_reducible first | exact HB.out | apply below_alloc | apply pw_below_drewN | apply below_drew1 | refine below_set ?_ (IsS113.ge HI0.out) | refine below_set ?_ GE695.out) | exact HB.out)); rintro e w5 ⟨v698, rfl, ho0, hi, hb, hk⟩; refine ⟨_, rfl, ?_⟩; replace BK695 := Aside0.mk (KeepBut.blk hk (g' := gb695) (o := .cells #[.int .i64 0, .slice none 0 0, .slice none 0 0] 57 (0, 0)) (bk BK695) NB695_0.out (by simp)); have HO699 := Aside0.mk (Kd.R_lower ho0 (keep_size (w := w) (g := g) (row := none) (by repeat (first | (with_reducible first | exact HK.out | apply KeepBut.set_ | apply keep_drewN | apply keep_drew | apply keep_alloc | refine keep_far ?_ GW695.out _) | exact HK.out)))); replace HK := Aside0.mk (KeepBut.trans (by repeat (first | (with_reducible first | exact HK.out | apply KeepBut.set_ | apply keep_drewN | apply keep_drew | apply keep_alloc | refine keep_far ?_ GW695.out _) | exact HK.out)) hk (.inl rfl)); replace HB := Aside0.mk (hb); replace HI0 := Aside0.mk (hi); (try clear hb); (try clear hb2); (try clear hk); (try clear hi); (try clear ho0); obtain ⟨Ao6, co6, eo6⟩ := Kd.R_slice HO699.out; subst eo6) | ((with_reducible refine gate_dst (N := 3) rfl ?_); refine box_event ?hg (N := 3) ?hd (cs := #[.int .i64 0, .slice none 0 0, .slice none 0 0]) (t := 57) ?hr ?_; (case hd => rfl); (case hg => rfl); (case hr => first | (go_simp; done) | (go_simp; rfl)); intro gb701 hg w7 hbox hb; replace HO699 := Aside0.mk (Kd.R_below (rk HO699) hb); replace HB := Aside0.mk (below_step (by repeat (first | (with_reducible first | exact HB.out | apply below_alloc | apply pw_below_drewN | apply below_drew1 | refine below_set ?_ (IsS113.ge HI0.out) | refine below_set ?_ GE695.out) | exact HB.out)) hb); have BK701 := Aside0.mk (hbox); have GW701 := Aside0.mk ((by rw [hg]; exact (keep_size (w := w) (g := g) (row := none) (by repeat (first | (with_reducible first | exact HK.out | apply KeepBut.set_ | apply keep_drewN | apply keep_drew | apply keep_alloc | refine keep_far ?_ GW695.out _) | exact HK.out))) : w.heap.size ≤ gb701)); have GE701 := Aside0.mk ((Nat.le_trans HW0.out (by rw [hg]; exact (keep_size (w := w) (g := g) (row := none) (by repeat (first | (with_reducible first | exact HK.out | apply KeepBut.set_ | apply keep_drewN | apply keep_drew | apply keep_alloc | refine keep_far ?_ GW695.out _) | exact HK.out))) : w.heap.size ≤ gb701) : w0.heap.size ≤ gb701)); replace HK := Aside0.mk (KeepBut.trans (by repeat (first | (with_reducible first | exact HK.out | apply KeepBut.set_ | apply keep_drewN | apply keep_drew | apply keep_alloc | refine keep_far ?_ GW695.out _) | exact HK.out)) (KeepBut.of_below hb g none) (.inl rfl)); have NB695_701 := Aside0.mk ((by rw [hg]; exact Nat.ne_of_lt (blk_lt (bk BK695)) : gb695 ≠ gb701)); have NB701_695 := Aside0.mk ((by rw [hg]; exact Nat.ne_of_gt (blk_lt (bk BK695)) : gb701 ≠ gb695)); replace BK695 := Aside0.mk (blk_below (bk BK695) hb); have NB0_701 := Aside0.mk ((by rw [hg]; exact Nat.ne_of_lt (IsS113.lt (show IsS113 w0 _ g s0_0 t700 from by repeat (first | (with_reducible first | exact HI0.out | apply IsS113.alloc | apply IsS113.drewN | apply IsS113.drew | apply IsS113.set_1 | refine IsS113.far ?_ NB0_695.out _) | exact HI0.out))) : g ≠ gb701)); have NB701_0 := Aside0.mk ((by rw [hg]; exact Nat.ne_of_gt (IsS113.lt (show IsS113 w0 _ g s0_0 t700 from by repeat (first | (with_reducible first | exact HI0.out | apply IsS113.alloc | apply IsS113.drewN | apply IsS113.drew | apply IsS113.set_1 | refine IsS113.far ?_ NB0_695.out _) | exact HI0.out))) : gb701 ≠ g)); replace HI0 := Aside0.mk (IsS113.below (by repeat (first | (with_reducible first | exact HI0.out | apply IsS113.alloc | apply IsS113.drewN | apply IsS113.drew | apply IsS113.set_1 | refine IsS113.far ?_ NB0_695.out _) | exact HI0.out)) hb); clear hb hbox hg; have hnb8 := NB701_695.out; have hnc8 := NB695_701.out; have hnb9 := NB701_0.out; have hnc9 := NB0_701.out; have hcz10_0 := bc w7 BK701 0 (.int .i64 0) rfl; have hcz10_1 := bc w7 BK701 1 (.slice none 0 0) rfl; have hcz10_2 := bc w7 BK701 2 (.slice none 0 0) rfl; have hfz10_0 := fz BK701 0; have hfz10_1 := fz BK701 1; have hfz10_2 := fz BK701 2) | ((with_reducible refine gate_callee (f := 59) rfl ?_); refine goesL_ (some 12) rfl rfl Try.func59 (by kernel_rfl) rfl #[.pointer (some ⟨g, 0, none⟩), .int .i64 7] rfl (by (try simp only [List.map_toArray, List.map_cons, List.map_nil]); first | done | rfl | (simp only [List.length_drop, List.length_take]; rfl)) ?_; (with_reducible refine (spec_l30Rd_pick.calls k g s0_0 t700 7 t702 t703 w0 _ ?side1 ?side2 A3.out).mono ?_); (case side1 => repeat (first | (with_reducible first | exact HI0.out | apply IsS113.alloc | apply IsS113.drewN | apply IsS113.drew | apply IsS113.set_1 | refine IsS113.far ?_ NB0_695.out _ | refine IsS113.far ?_ NB0_701.out _) | exact HI0.out)); (case side2 => repeat (first | (with_reducible first | exact HB.out | apply below_alloc | apply pw_below_drewN | apply below_drew1 | refine below_set ?_ (IsS113.ge HI0.out) | refine below_set ?_ GE695.out | refine below_set ?_ GE701.out) | exact HB.out)); rintro e w11 ⟨rfl, hi, hb, hk⟩; refine ⟨_, rfl, ?_⟩; replace BK695 := Aside0.mk (KeepBut.blk hk (g' := gb695) (o := .cells #[.int .i64 0, .slice none 0 0, .slice none 0 0] 57 (0, 0)) (by (with_reducible repeat (first | refine blk_drewN ?_ _ | refine blk_drew ?_ | refine blk_alloc ?_ _)); refine blk_far ?_ NB695_701.out _; refine blk_far ?_ NB695_701.out _; refine blk_far ?_ NB695_701.out _; (with_reducible repeat (first | refine blk_drewN ?_ _ | refine blk_drew ?_ | refine blk_alloc ?_ _)); exact BK695.out) NB695_0.out (by simp)); replace HO699 := Aside0.mk (Kd.R_mono (Kd.R_keep (IsS113.apart (show IsS113 w0 _ g s0_0 t700 from by repeat (first | (with_reducible first | exact HI0.out | apply IsS113.alloc | apply IsS113.drewN | apply IsS113.drew | apply IsS113.set_1 | refine IsS113.far ?_ NB0_695.out _ | refine IsS113.far ?_ NB0_701.out _) | exact HI0.out)) (by (with_reducible repeat (first | apply Kd.R_alloc | apply Kd.R_drewN | apply Kd.R_drew)); exact (Kd.R_mono (Kd.R_far (p := ⟨gb701, 2, none⟩) (Kd.R_far (p := ⟨gb701, 1, none⟩) (Kd.R_far (p := ⟨gb701, 0, none⟩) (Kd.R_types HO699.out BK701.out (by decide)) (fun _ hk => hk.2) (.int .i64 t696)) (fun _ hk => hk.2) (.slice Ao6 t697.length co6)) (fun _ hk => hk.2) (.slice none 0 0)) (fun _ h_ => h_.1))) (by decide)) hk (fun _ h => h.2)) (fun _ h => h.1)); replace BK701 := Aside0.mk (KeepBut.blk hk (g' := gb701) (o := .cells #[.int .i64 t696, .slice Ao6 t697.length co6, .slice none 0 0] 57 (0, 0)) (by (with_reducible repeat (first | refine blk_drewN ?_ _ | refine blk_drew ?_ | refine blk_alloc ?_ _)); refine blk_put (cs := #[.int .i64 t696, .slice Ao6 t697.length co6, .slice none 0 0]) ?_ 2 _ rfl; refine blk_put (cs := #[.int .i64 t696, .slice none 0 0, .slice none 0 0]) ?_ 1 _ rfl; refine blk_put (cs := #[.int .i64 0, .slice none 0 0, .slice none 0 0]) ?_ 0 _ rfl; (with_reducible repeat (first | refine blk_drewN ?_ _ | refine blk_drew ?_ | refine blk_alloc ?_ _)); exact BK701.out) NB701_0.out (by simp)); replace HK := Aside0.mk (KeepBut.trans (by repeat (first | (with_reducible first | exact HK.out | apply KeepBut.set_ | apply keep_drewN | apply keep_drew | apply keep_alloc | refine keep_far ?_ GW695.out _ | refine keep_far ?_ GW701.out _) | exact HK.out)) hk (.inl rfl)); replace HB := Aside0.mk (hb); replace HI0 := Aside0.mk (hi); (try clear hb); (try clear hb2); (try clear hk); (try clear hi)))
 go_loopg [4] k (fun kq v4 w' => ∃ (x4_1 : Int) (x1001_1 : Int) (x702000_1 : Int) (x702001_1 : List (S31)) (x702002_1 : List (S64)) (u702001 : Value) (u702002 : Value), v4 = .int .i64 x4_1 ∧ Aside0 (spec_l30Live.l0 kq x4_1 s0_0 x1001_1 x702000_1 x702001_1 x702002_1 = some (r1, r2, r3, r4)) ∧ Aside0 (kq ≤ k) ∧ Aside0 (Kd.R k31 31 w' w.heap.size (fun _ => True) u702001 x702001_1) ∧ Aside0 (Kd.R k64 64 w' w.heap.size (fun _ => True) u702002 x702002_1) ∧ Aside0 (w'.heap[gb695]? = some (.cells #[.int .i64 0, (.slice none 0 0), (.slice none 0 0)] 57 (0, 0))) ∧ Aside0 (w'.heap[gb701]? = some (.cells #[.int .i64 x702000_1, u702001, u702002] 57 (0, 0))) ∧ Aside0 (IsS113 w0 w' g s0_0 x1001_1) ∧ Aside0 (KeepBut w w' g none) ∧ Aside0 (Below w0.heap.size w0 w'))
 case atStart => exact ⟨(t702), (t703), (t696), (t697), (([] : List (S64))), (.slice Ao6 t697.length co6), (.slice none 0 0), (by first | rfl | (simp; done) | (simp [*]; done)), H', ⟨Nat.le_refl _⟩, ⟨rk HO699⟩, ⟨by first | exact Kd.R_nil _ _ _ _ _ | exact Kd.N_nil _ _ _ _ _ | exact Kd.V_nil _ _ _ _ _ | exact Kd.Q_nil _ _ _ _ _ | exact Kd.S_nil _ _ _ _ _⟩, ⟨bk BK695⟩, ⟨bk BK701⟩, ⟨by repeat (first | (with_reducible first | exact HI0.out | apply IsS113.alloc | apply IsS113.drewN | apply IsS113.drew | apply IsS113.set_1 | refine IsS113.far ?_ NB0_695.out _ | refine IsS113.far ?_ NB0_701.out _) | exact HI0.out)⟩, ⟨by repeat (first | (with_reducible first | exact HK.out | apply KeepBut.set_ | apply keep_drewN | apply keep_drew | apply keep_alloc | refine keep_far ?_ GW695.out _ | refine keep_far ?_ GW701.out _) | exact HK.out)⟩, ⟨by repeat (first | (with_reducible first | exact HB.out | apply below_alloc | apply pw_below_drewN | apply below_drew1 | refine below_set ?_ (IsS113.ge HI0.out) | refine below_set ?_ GE695.out | refine below_set ?_ GE701.out) | exact HB.out)⟩⟩
 clear H'
 try clear c1
 try clear p2
 try clear c5
 try clear c8
 try clear c9
 try clear c10
 try clear hcz10_0
 try clear hcz10_1
 try clear hcz10_2
 try clear hfz10_0
 try clear hfz10_1
 try clear hfz10_2
 obtain ⟨x4_1, x1001_1, x702000_1, x702001_1, x702002_1, u702001, u702002, rfl, HA, HK1, HO_702001, HO_702002, BK695, BK701, HI0, HK, HB⟩ := hrel
 cases gk with
 | zero => exact absurd HA.out (by simp [spec_l30Live.l0])
 | succ k1 =>
  have H := HA.out
  clear HA
  simp only [spec_l30Live.l0] at H
  by_cases c12 : x4_1 > 0
  ·rw [if_pos c12] at H
   have c12b0 : decide (0 < x4_1) = true := decide_eq_true c12
   clear c12
   replace H := Option.bind_eq_some_iff.mp H
   obtain ⟨⟨t704, t705, t706, t707⟩, A130, H⟩ := H
   have A13 := Aside0.mk A130
   clear A130
   replace H := Option.bind_eq_some_iff.mp H
   obtain ⟨⟨t708, t709, t712, t715⟩, A140, H⟩ := H
   have A14 := Aside0.mk A140
   clear A140
   have H' := Aside0.mk H
   clear H
   obtain ⟨Ao15, co15, eo15⟩ := Kd.R_slice HO_702001.out
   subst eo15
   obtain ⟨Ao16, co16, eo16⟩ := Kd.R_slice HO_702002.out
   subst eo16
   try go_wp2
   replace HO_702001 := Aside0.mk (Kd.R_drew HO_702001.out)
   replace HO_702002 := Aside0.mk (Kd.R_drew HO_702002.out)
   replace BK695 := Aside0.mk (blk_drew BK695.out)
   replace BK701 := Aside0.mk (blk_drew BK701.out)
   replace HI0 := Aside0.mk (IsS113.drew HI0.out)
   replace HK := Aside0.mk (keep_drew HK.out)
   replace HB := Aside0.mk (below_drew1 HB.out)
   refine start_ (n := 12) (S := fun w' => w'.cell? ⟨gb701, 0, none⟩ = some (.int .i64 x702000_1) ∧ w'.cell? ⟨gb701, 1, none⟩ = some (.slice Ao15 x702001_1.length co15) ∧ w'.cell? ⟨gb701, 2, none⟩ = some (.slice Ao16 x702002_1.length co16)) (ds := []) (ms 12 0) (by kernel_rfl) rfl (by kernel_rfl) ⟨(blk_cell BK701.out 0).trans rfl, (blk_cell BK701.out 1).trans rfl, (blk_cell BK701.out 2).trans rfl⟩ (fun hHeld => ?_); refine with_tabW spec_l30Live.tab5 spec_l30Live.bits5 (fun HT_ HW_ => ?_)
   generalize wr.drew = w17 at HO_702001 HO_702002 BK695 BK701 HI0 HK HB hHeld ⊢
   refine pu 1 19 ?_ (ms 12 2) rfl rfl HT_ (by kernel_rfl) (fun _ _ _ h => h) (by rfl) ?_ ?_ ?_ ?_
   rotate_left
   ·intro w'
    go_simp
    with_reducible rfl
   rotate_left
   ·simp only [SX]
    rfl
   refine pu 2 20 ?_ (ms 12 6) rfl rfl HT_ (by kernel_rfl) (fun _ _ _ h => h) (by rfl) ?_ ?_ ?_ ?_
   rotate_left
   ·intro w'
    go_simp
    with_reducible rfl
   rotate_left
   ·simp only [SX]
    rfl
   refine tk 0 18 ?_ (ms 12 7) rfl rfl HT_ HW_ (by kernel_rfl) (fun _ _ _ h => h) (by rfl) ?_ hHeld ?_ ?_ ?_
   rotate_left
   ·rintro w' ⟨s0, s1, s2⟩
    go_simp
    with_reducible rfl
   rotate_left
   ·simp only [SX]
    rfl
   refine tk 3 21 ?_ (ms 12 15) rfl rfl HT_ HW_ (by kernel_rfl) (fun _ _ _ h => h) (by rfl) ?_ hHeld ?_ ?_ ?_
   rotate_left
   ·rintro w' ⟨s0, s1, s2⟩
    go_simp
    with_reducible rfl
   rotate_left
   ·simp only [SX]
    rfl
   refine join_ (σ := Value × Value × Nat) 2 (ms 12 1023) (fun s_ => [(22, .agg #[.int .i64 t704, .int .i64 t705, .int .i64 t706]), (23, .tuple #[.agg #[.int .i64 t708, s_.1, s_.2.1], .bool t715]), (5, .pointer (some ⟨s_.2.2, 0, none⟩)), (17, .tuple #[.agg #[.int .i64 t708, s_.1, s_.2.1], .bool t715]), (24, .agg #[.int .i64 t708, s_.1, s_.2.1]), (25, .bool t715)]) (fun s_ w' => (w'.cell? ⟨gb701, 0, none⟩ = some (.int .i64 x702000_1) ∧ w'.cell? ⟨gb701, 1, none⟩ = some (.slice Ao15 x702001_1.length co15) ∧ w'.cell? ⟨gb701, 2, none⟩ = some (.slice Ao16 x702002_1.length co16)) ∧ (Kd.R k31 31 w' w.heap.size (fun k_ => some k_ ≠ (.slice Ao15 x702001_1.length co15 : Value).ownBlock) s_.1 t709) ∧ (Kd.R k64 64 w' w.heap.size (fun k_ => some k_ ≠ (.slice Ao16 x702002_1.length co16 : Value).ownBlock) s_.2.1 t712) ∧ (Kd.R k31 31 w' w.heap.size (fun k_ => some k_ ≠ (s_.1 : Value).ownBlock) (.slice Ao15 x702001_1.length co15) x702001_1) ∧ (Kd.R k64 64 w' w.heap.size (fun k_ => some k_ ≠ (s_.2.1 : Value).ownBlock) (.slice Ao16 x702002_1.length co16) x702002_1) ∧ (w'.heap[gb695]? = some (.cells #[.int .i64 0, .slice none 0 0, .slice none 0 0] 57 (0, 0))) ∧ (w'.heap[gb701]? = some (.cells #[.int .i64 x702000_1, .slice Ao15 x702001_1.length co15, .slice Ao16 x702002_1.length co16] 57 (0, 0))) ∧ (w'.heap[s_.2.2]? = some (.cells #[.int .i64 0, .slice none 0 0, .slice none 0 0] 57 (0, 0))) ∧ (w.heap.size ≤ s_.2.2) ∧ (w0.heap.size ≤ s_.2.2) ∧ (g ≠ s_.2.2) ∧ (s_.2.2 ≠ g) ∧ (gb695 ≠ s_.2.2) ∧ (s_.2.2 ≠ gb695) ∧ (gb701 ≠ s_.2.2) ∧ (s_.2.2 ≠ gb701) ∧ (IsS113 w0 w' g s0_0 t707) ∧ (KeepBut w w' g none) ∧ (Below w0.heap.size w0 w')) ?_ ?_
   rotate_left
   ·intro hCont
    refine two_ (i := 4) (j := 9) (Ni := some 22) (Nj := some 5) (ms 12 31) (ms 12 527) rfl rfl rfl rfl (two_of HT_.out (by kernel_rfl)) (by decide) (by decide) (fun K hK => ?_) (fun K hK => ?_)
    rotate_left
    ·skip
     refine box_step ?hg (N := 5) ?hd (cs := #[.int .i64 0, .slice none 0 0, .slice none 0 0]) (t := 57) ?hr ?_; (case hd => rfl); (case hg => rfl); (case hr => first | (go_simp; done) | (go_simp; rfl))
     intro gb716 hg w18 hbox hb
     replace HO_702001 := Aside0.mk (Kd.R_below (rk HO_702001) hb)
     replace HO_702002 := Aside0.mk (Kd.R_below (rk HO_702002) hb)
     replace HB := Aside0.mk (below_step (by repeat (first | (with_reducible first | exact HB.out | apply below_alloc | apply pw_below_drewN | apply below_drew1 | refine below_set ?_ (IsS113.ge HI0.out) | refine below_set ?_ GE695.out | refine below_set ?_ GE701.out) | exact HB.out)) hb)
     have BK716 := Aside0.mk (hbox)
     have GW716 := Aside0.mk ((by rw [hg]; exact (keep_size (w := w) (g := g) (row := none) (by repeat (first | (with_reducible first | exact HK.out | apply KeepBut.set_ | apply keep_drewN | apply keep_drew | apply keep_alloc | refine keep_far ?_ GW695.out _ | refine keep_far ?_ GW701.out _) | exact HK.out))) : w.heap.size ≤ gb716))
     have GE716 := Aside0.mk ((Nat.le_trans HW0.out (by rw [hg]; exact (keep_size (w := w) (g := g) (row := none) (by repeat (first | (with_reducible first | exact HK.out | apply KeepBut.set_ | apply keep_drewN | apply keep_drew | apply keep_alloc | refine keep_far ?_ GW695.out _ | refine keep_far ?_ GW701.out _) | exact HK.out))) : w.heap.size ≤ gb716) : w0.heap.size ≤ gb716))
     replace HK := Aside0.mk (KeepBut.trans (by repeat (first | (with_reducible first | exact HK.out | apply KeepBut.set_ | apply keep_drewN | apply keep_drew | apply keep_alloc | refine keep_far ?_ GW695.out _ | refine keep_far ?_ GW701.out _) | exact HK.out)) (KeepBut.of_below hb g none) (.inl rfl))
     have NB695_716 := Aside0.mk ((by rw [hg]; exact Nat.ne_of_lt (blk_lt (bk BK695)) : gb695 ≠ gb716))
     have NB716_695 := Aside0.mk ((by rw [hg]; exact Nat.ne_of_gt (blk_lt (bk BK695)) : gb716 ≠ gb695))
     replace BK695 := Aside0.mk (blk_below (bk BK695) hb)
     have NB701_716 := Aside0.mk ((by rw [hg]; exact Nat.ne_of_lt (blk_lt (bk BK701)) : gb701 ≠ gb716))
     have NB716_701 := Aside0.mk ((by rw [hg]; exact Nat.ne_of_gt (blk_lt (bk BK701)) : gb716 ≠ gb701))
     replace BK701 := Aside0.mk (blk_below (bk BK701) hb)
     have NB0_716 := Aside0.mk ((by rw [hg]; exact Nat.ne_of_lt (IsS113.lt (show IsS113 w0 _ g s0_0 x1001_1 from by repeat (first | (with_reducible first | exact HI0.out | apply IsS113.alloc | apply IsS113.drewN | apply IsS113.drew | apply IsS113.set_1 | refine IsS113.far ?_ NB0_695.out _ | refine IsS113.far ?_ NB0_701.out _) | exact HI0.out))) : g ≠ gb716))
     have NB716_0 := Aside0.mk ((by rw [hg]; exact Nat.ne_of_gt (IsS113.lt (show IsS113 w0 _ g s0_0 x1001_1 from by repeat (first | (with_reducible first | exact HI0.out | apply IsS113.alloc | apply IsS113.drewN | apply IsS113.drew | apply IsS113.set_1 | refine IsS113.far ?_ NB0_695.out _ | refine IsS113.far ?_ NB0_701.out _) | exact HI0.out))) : gb716 ≠ g))
     replace HI0 := Aside0.mk (IsS113.below (by repeat (first | (with_reducible first | exact HI0.out | apply IsS113.alloc | apply IsS113.drewN | apply IsS113.drew | apply IsS113.set_1 | refine IsS113.far ?_ NB0_695.out _ | refine IsS113.far ?_ NB0_701.out _) | exact HI0.out)) hb)
     clear hb hbox hg
     refine hK.out _ _ ⟨(blk_cell BK701.out 0).trans rfl, (blk_cell BK701.out 1).trans rfl, (blk_cell BK701.out 2).trans rfl⟩ (fun hHeld => ?_)
     clear hK K
     refine norm_ (a' := ?_) ?_ ?_
     rotate_left
     ·show Act.put _ (some 5) _ = _
      simp only [SX]
      rfl
     refine one_ (i := 4) (N := some 22) (ms 12 543) rfl rfl (one_of HT_.out (by kernel_rfl)) (by decide) (fun K hK => ?_)
     refine goes_ Try.func114 (by kernel_rfl) rfl #[.pointer (some ⟨g, 0, none⟩), .agg #[.int .i64 x702000_1, .slice Ao15 x702001_1.length co15]] (by rfl) rfl rfl (by (try simp only [List.map_toArray, List.map_cons, List.map_nil]); first | done | rfl | (simp only [List.length_drop, List.length_take]; rfl)) ?_
     with_reducible refine (spec_l30News.calls k1 g s0_0 x1001_1 x702000_1 _ _ x702001_1 t704 t705 t706 t707 w0 _ ?side1 ?side2 ?side3 ?side4 A13.out).mono ?_
     (case side1 => repeat (first | (with_reducible first | exact HI0.out | apply IsS113.alloc | apply IsS113.drewN | apply IsS113.drew | apply IsS113.set_1 | refine IsS113.far ?_ NB0_695.out _ | refine IsS113.far ?_ NB0_701.out _ | refine IsS113.far ?_ NB0_716.out _) | exact HI0.out))
     (case side2 => repeat (first | (with_reducible first | exact HB.out | apply below_alloc | apply pw_below_drewN | apply below_drew1 | refine below_set ?_ (IsS113.ge HI0.out) | refine below_set ?_ GE695.out | refine below_set ?_ GE701.out | refine below_set ?_ GE716.out) | exact HB.out))
     (case side3 => exact Kd.C_foot_own (IsS113.apart (show IsS113 w0 _ g s0_0 x1001_1 from by repeat (first | (with_reducible first | exact HI0.out | apply IsS113.alloc | apply IsS113.drewN | apply IsS113.drew | apply IsS113.set_1 | refine IsS113.far ?_ NB0_695.out _ | refine IsS113.far ?_ NB0_701.out _ | refine IsS113.far ?_ NB0_716.out _) | exact HI0.out)) (rk HO_702001) (by decide)) (fun _ h_ => h_.2))
     (case side4 => exact (Kd.R_reads' HO_702001.out).2.1)
     rintro e w19 ⟨rfl, hi, hb, hk⟩
     refine ⟨_, rfl, ?_⟩
     replace HO_702001 := Aside0.mk (Kd.R_mono (Kd.R_keep (IsS113.apart (show IsS113 w0 _ g s0_0 x1001_1 from by repeat (first | (with_reducible first | exact HI0.out | apply IsS113.alloc | apply IsS113.drewN | apply IsS113.drew | apply IsS113.set_1 | refine IsS113.far ?_ NB0_695.out _ | refine IsS113.far ?_ NB0_701.out _ | refine IsS113.far ?_ NB0_716.out _) | exact HI0.out)) (rk HO_702001) (by decide)) hk (fun _ h => h.2)) (fun _ h => h.1))
     replace HO_702002 := Aside0.mk (Kd.R_mono (Kd.R_keep (IsS113.apart (show IsS113 w0 _ g s0_0 x1001_1 from by repeat (first | (with_reducible first | exact HI0.out | apply IsS113.alloc | apply IsS113.drewN | apply IsS113.drew | apply IsS113.set_1 | refine IsS113.far ?_ NB0_695.out _ | refine IsS113.far ?_ NB0_701.out _ | refine IsS113.far ?_ NB0_716.out _) | exact HI0.out)) (rk HO_702002) (by decide)) hk (fun _ h => h.2)) (fun _ h => h.1))
     replace BK695 := Aside0.mk (KeepBut.blk hk (g' := gb695) (o := .cells #[.int .i64 0, .slice none 0 0, .slice none 0 0] 57 (0, 0)) (bk BK695) NB695_0.out (by simp))
     replace BK701 := Aside0.mk (KeepBut.blk hk (g' := gb701) (o := .cells #[.int .i64 x702000_1, .slice Ao15 x702001_1.length co15, .slice Ao16 x702002_1.length co16] 57 (0, 0)) (bk BK701) NB701_0.out (by simp))
     replace BK716 := Aside0.mk (KeepBut.blk hk (g' := gb716) (o := .cells #[.int .i64 0, .slice none 0 0, .slice none 0 0] 57 (0, 0)) (bk BK716) NB716_0.out (by simp))
     replace HK := Aside0.mk (KeepBut.trans (by repeat (first | (with_reducible first | exact HK.out | apply KeepBut.set_ | apply keep_drewN | apply keep_drew | apply keep_alloc | refine keep_far ?_ GW695.out _ | refine keep_far ?_ GW701.out _ | refine keep_far ?_ GW716.out _) | exact HK.out)) hk (.inl rfl))
     replace HB := Aside0.mk (hb)
     replace HI0 := Aside0.mk (hi)
     (try clear hb)
     (try clear hb2)
     (try clear hk)
     (try clear hi)
     refine hK.out _ _ ⟨(blk_cell BK701.out 0).trans rfl, (blk_cell BK701.out 1).trans rfl, (blk_cell BK701.out 2).trans rfl⟩ (fun hHeld => ?_)
     clear hK K
     refine norm_ (a' := ?_) ?_ ?_
     rotate_left
     ·show Act.put _ (some 22) _ = _
      simp only [SX]
      rfl
     refine one_ (i := 5) (N := some 23) (ms 12 575) rfl rfl (one_of HT_.out (by kernel_rfl)) (by decide) (fun K hK => ?_)
     refine goes_ Try.func113 (by kernel_rfl) rfl #[.agg #[.int .i64 x702000_1, .slice Ao15 x702001_1.length co15, .slice Ao16 x702002_1.length co16], .agg #[.int .i64 t704, .int .i64 t705, .int .i64 t706]] (by rfl) rfl rfl (by (try simp only [List.map_toArray, List.map_cons, List.map_nil]); first | done | rfl | (simp only [List.length_drop, List.length_take]; rfl)) ?_
     with_reducible refine (spec_LiveTell.calls k1 x702000_1 _ _ x702001_1 _ _ x702002_1 t704 t705 t706 t708 t709 t712 t715 _ ?side1 ?side2 ?side3 ?side4 A14.out).mono ?_
     (case side1 => repeat (first | exact (Kd.R_reads' HO_702001.out).2.2 | (with_reducible refine Kd.C_alloc ?_ _) | (with_reducible refine Kd.C_drewN ?_ _) | (with_reducible refine Kd.C_drew ?_)))
     (case side2 => exact (Kd.R_reads' HO_702001.out).2.1)
     (case side3 => repeat (first | exact (Kd.R_reads' HO_702002.out).2.2 | (with_reducible refine Kd.C_alloc ?_ _) | (with_reducible refine Kd.C_drewN ?_ _) | (with_reducible refine Kd.C_drew ?_)))
     (case side4 => exact (Kd.R_reads' HO_702002.out).2.1)
     rintro e w20 ⟨v710, v713, rfl, ho0, ho1, hb⟩
     refine ⟨_, rfl, ?_⟩
     have HO711 := Aside0.mk (Kd.R_lower (Kd.R_new' ho0 (Kd.R_lt (rk HO_702001))) (keep_size (w := w) (g := g) (row := none) (by repeat (first | (with_reducible first | exact HK.out | apply KeepBut.set_ | apply keep_drewN | apply keep_drew | apply keep_alloc | refine keep_far ?_ GW695.out _ | refine keep_far ?_ GW701.out _ | refine keep_far ?_ GW716.out _) | exact HK.out))))
     replace HO_702001 := Aside0.mk (Kd.R_elder' (rk HO_702001) (Kd.R_base ho0) hb)
     have HO714 := Aside0.mk (Kd.R_lower (Kd.R_new' ho1 (Kd.R_lt (rk HO_702002))) (keep_size (w := w) (g := g) (row := none) (by repeat (first | (with_reducible first | exact HK.out | apply KeepBut.set_ | apply keep_drewN | apply keep_drew | apply keep_alloc | refine keep_far ?_ GW695.out _ | refine keep_far ?_ GW701.out _ | refine keep_far ?_ GW716.out _) | exact HK.out))))
     replace HO_702002 := Aside0.mk (Kd.R_elder' (rk HO_702002) (Kd.R_base ho1) hb)
     replace BK695 := Aside0.mk (blk_below (bk BK695) hb)
     replace BK701 := Aside0.mk (blk_below (bk BK701) hb)
     replace BK716 := Aside0.mk (blk_below (bk BK716) hb)
     replace HK := Aside0.mk (KeepBut.trans (by repeat (first | (with_reducible first | exact HK.out | apply KeepBut.set_ | apply keep_drewN | apply keep_drew | apply keep_alloc | refine keep_far ?_ GW695.out _ | refine keep_far ?_ GW701.out _ | refine keep_far ?_ GW716.out _) | exact HK.out)) (KeepBut.of_below hb g none) (.inl rfl))
     replace HB := Aside0.mk (below_step (by repeat (first | (with_reducible first | exact HB.out | apply below_alloc | apply pw_below_drewN | apply below_drew1 | refine below_set ?_ (IsS113.ge HI0.out) | refine below_set ?_ GE695.out | refine below_set ?_ GE701.out | refine below_set ?_ GE716.out) | exact HB.out)) hb)
     replace HI0 := Aside0.mk (IsS113.below (by repeat (first | (with_reducible first | exact HI0.out | apply IsS113.alloc | apply IsS113.drewN | apply IsS113.drew | apply IsS113.set_1 | refine IsS113.far ?_ NB0_695.out _ | refine IsS113.far ?_ NB0_701.out _ | refine IsS113.far ?_ NB0_716.out _) | exact HI0.out)) hb)
     (try clear hb)
     (try clear hb2)
     (try clear hk)
     (try clear hi)
     (try clear ho0)
     (try clear ho1)
     refine hK.out _ _ ⟨(blk_cell BK701.out 0).trans rfl, (blk_cell BK701.out 1).trans rfl, (blk_cell BK701.out 2).trans rfl⟩ (fun hHeld => ?_)
     clear hK K
     refine norm_ (a' := ?_) ?_ ?_
     rotate_left
     ·show Act.put _ (some 23) _ = _
      simp only [SX]
      rfl
     refine pu 6 17 ?_ (ms 12 639) rfl rfl HT_ (by kernel_rfl) (fun _ _ _ h => h) (by rfl) ?_ ?_ ?_ ?_
     rotate_left
     ·intro w'
      go_simp
      with_reducible rfl
     rotate_left
     ·simp only [SX]
      rfl
     refine pu 7 24 ?_ (ms 12 767) rfl rfl HT_ (by kernel_rfl) (fun _ _ _ h => h) (by rfl) ?_ ?_ ?_ ?_
     rotate_left
     ·intro w'
      go_simp
      with_reducible rfl
     rotate_left
     ·simp only [SX]
      rfl
     refine pu 8 25 ?_ (ms 12 1023) rfl rfl HT_ (by kernel_rfl) (fun _ _ _ h => h) (by rfl) ?_ ?_ ?_ ?_
     rotate_left
     ·intro w'
      go_simp
      with_reducible rfl
     rotate_left
     ·simp only [SX]
      rfl
     exact norm_ (by simp only [putAll, Act.put, List.setIfInBounds_toArray, List.set_cons_zero, List.set_cons_succ]) (hCont (v710, v713, gb716) _ ⟨hHeld, (by (with_reducible repeat (first | apply Kd.R_alloc | apply Kd.R_drewN | apply Kd.R_drew)); exact Kd.R_mono HO711.out (fun _ hk => hk.2)), (by (with_reducible repeat (first | apply Kd.R_alloc | apply Kd.R_drewN | apply Kd.R_drew)); exact Kd.R_mono HO714.out (fun _ hk => hk.2)), (by (with_reducible repeat (first | apply Kd.R_alloc | apply Kd.R_drewN | apply Kd.R_drew)); exact Kd.R_mono HO_702001.out (fun _ hk => hk.2)), (by (with_reducible repeat (first | apply Kd.R_alloc | apply Kd.R_drewN | apply Kd.R_drew)); exact Kd.R_mono HO_702002.out (fun _ hk => hk.2)), (bk BK695), (bk BK701), (bk BK716), GW716.out, GE716.out, NB0_716.out, NB716_0.out, NB695_716.out, NB716_695.out, NB701_716.out, NB716_701.out, (by repeat (first | (with_reducible first | exact HI0.out | apply IsS113.alloc | apply IsS113.drewN | apply IsS113.drew | apply IsS113.set_1 | refine IsS113.far ?_ NB0_695.out _ | refine IsS113.far ?_ NB0_701.out _ | refine IsS113.far ?_ NB0_716.out _) | exact HI0.out)), (by repeat (first | (with_reducible first | exact HK.out | apply KeepBut.set_ | apply keep_drewN | apply keep_drew | apply keep_alloc | refine keep_far ?_ GW695.out _ | refine keep_far ?_ GW701.out _ | refine keep_far ?_ GW716.out _) | exact HK.out)), (by repeat (first | (with_reducible first | exact HB.out | apply below_alloc | apply pw_below_drewN | apply below_drew1 | refine below_set ?_ (IsS113.ge HI0.out) | refine below_set ?_ GE695.out | refine below_set ?_ GE701.out | refine below_set ?_ GE716.out) | exact HB.out))⟩)
    skip
    refine goes_ Try.func114 (by kernel_rfl) rfl #[.pointer (some ⟨g, 0, none⟩), .agg #[.int .i64 x702000_1, .slice Ao15 x702001_1.length co15]] (by rfl) rfl rfl (by (try simp only [List.map_toArray, List.map_cons, List.map_nil]); first | done | rfl | (simp only [List.length_drop, List.length_take]; rfl)) ?_
    with_reducible refine (spec_l30News.calls k1 g s0_0 x1001_1 x702000_1 _ _ x702001_1 t704 t705 t706 t707 w0 _ ?side1 ?side2 ?side3 ?side4 A13.out).mono ?_
    (case side1 => repeat (first | (with_reducible first | exact HI0.out | apply IsS113.alloc | apply IsS113.drewN | apply IsS113.drew | apply IsS113.set_1 | refine IsS113.far ?_ NB0_695.out _ | refine IsS113.far ?_ NB0_701.out _) | exact HI0.out))
    (case side2 => repeat (first | (with_reducible first | exact HB.out | apply below_alloc | apply pw_below_drewN | apply below_drew1 | refine below_set ?_ (IsS113.ge HI0.out) | refine below_set ?_ GE695.out | refine below_set ?_ GE701.out) | exact HB.out))
    (case side3 => exact Kd.C_foot_own (IsS113.apart (show IsS113 w0 _ g s0_0 x1001_1 from by repeat (first | (with_reducible first | exact HI0.out | apply IsS113.alloc | apply IsS113.drewN | apply IsS113.drew | apply IsS113.set_1 | refine IsS113.far ?_ NB0_695.out _ | refine IsS113.far ?_ NB0_701.out _) | exact HI0.out)) (rk HO_702001) (by decide)) (fun _ h_ => h_.2))
    (case side4 => exact (Kd.R_reads' HO_702001.out).2.1)
    rintro e w18 ⟨rfl, hi, hb, hk⟩
    refine ⟨_, rfl, ?_⟩
    replace HO_702001 := Aside0.mk (Kd.R_mono (Kd.R_keep (IsS113.apart (show IsS113 w0 _ g s0_0 x1001_1 from by repeat (first | (with_reducible first | exact HI0.out | apply IsS113.alloc | apply IsS113.drewN | apply IsS113.drew | apply IsS113.set_1 | refine IsS113.far ?_ NB0_695.out _ | refine IsS113.far ?_ NB0_701.out _) | exact HI0.out)) (rk HO_702001) (by decide)) hk (fun _ h => h.2)) (fun _ h => h.1))
    replace HO_702002 := Aside0.mk (Kd.R_mono (Kd.R_keep (IsS113.apart (show IsS113 w0 _ g s0_0 x1001_1 from by repeat (first | (with_reducible first | exact HI0.out | apply IsS113.alloc | apply IsS113.drewN | apply IsS113.drew | apply IsS113.set_1 | refine IsS113.far ?_ NB0_695.out _ | refine IsS113.far ?_ NB0_701.out _) | exact HI0.out)) (rk HO_702002) (by decide)) hk (fun _ h => h.2)) (fun _ h => h.1))
    replace BK695 := Aside0.mk (KeepBut.blk hk (g' := gb695) (o := .cells #[.int .i64 0, .slice none 0 0, .slice none 0 0] 57 (0, 0)) (bk BK695) NB695_0.out (by simp))
    replace BK701 := Aside0.mk (KeepBut.blk hk (g' := gb701) (o := .cells #[.int .i64 x702000_1, .slice Ao15 x702001_1.length co15, .slice Ao16 x702002_1.length co16] 57 (0, 0)) (bk BK701) NB701_0.out (by simp))
    replace HK := Aside0.mk (KeepBut.trans (by repeat (first | (with_reducible first | exact HK.out | apply KeepBut.set_ | apply keep_drewN | apply keep_drew | apply keep_alloc | refine keep_far ?_ GW695.out _ | refine keep_far ?_ GW701.out _) | exact HK.out)) hk (.inl rfl))
    replace HB := Aside0.mk (hb)
    replace HI0 := Aside0.mk (hi)
    (try clear hb)
    (try clear hb2)
    (try clear hk)
    (try clear hi)
    refine hK.out _ _ ⟨(blk_cell BK701.out 0).trans rfl, (blk_cell BK701.out 1).trans rfl, (blk_cell BK701.out 2).trans rfl⟩ (fun hHeld => ?_)
    clear hK K
    refine norm_ (a' := ?_) ?_ ?_
    rotate_left
    ·show Act.put _ (some 22) _ = _
     simp only [SX]
     rfl
    refine two_ (i := 5) (j := 9) (Ni := some 23) (Nj := some 5) (ms 12 63) (ms 12 543) rfl rfl rfl rfl (two_of HT_.out (by kernel_rfl)) (by decide) (by decide) (fun K hK => ?_) (fun K hK => ?_)
    ·skip
     refine goes_ Try.func113 (by kernel_rfl) rfl #[.agg #[.int .i64 x702000_1, .slice Ao15 x702001_1.length co15, .slice Ao16 x702002_1.length co16], .agg #[.int .i64 t704, .int .i64 t705, .int .i64 t706]] (by rfl) rfl rfl (by (try simp only [List.map_toArray, List.map_cons, List.map_nil]); first | done | rfl | (simp only [List.length_drop, List.length_take]; rfl)) ?_
     with_reducible refine (spec_LiveTell.calls k1 x702000_1 _ _ x702001_1 _ _ x702002_1 t704 t705 t706 t708 t709 t712 t715 _ ?side1 ?side2 ?side3 ?side4 A14.out).mono ?_
     (case side1 => repeat (first | exact (Kd.R_reads' HO_702001.out).2.2 | (with_reducible refine Kd.C_alloc ?_ _) | (with_reducible refine Kd.C_drewN ?_ _) | (with_reducible refine Kd.C_drew ?_)))
     (case side2 => exact (Kd.R_reads' HO_702001.out).2.1)
     (case side3 => repeat (first | exact (Kd.R_reads' HO_702002.out).2.2 | (with_reducible refine Kd.C_alloc ?_ _) | (with_reducible refine Kd.C_drewN ?_ _) | (with_reducible refine Kd.C_drew ?_)))
     (case side4 => exact (Kd.R_reads' HO_702002.out).2.1)
     rintro e w19 ⟨v710, v713, rfl, ho0, ho1, hb⟩
     refine ⟨_, rfl, ?_⟩
     have HO711 := Aside0.mk (Kd.R_lower (Kd.R_new' ho0 (Kd.R_lt (rk HO_702001))) (keep_size (w := w) (g := g) (row := none) (by repeat (first | (with_reducible first | exact HK.out | apply KeepBut.set_ | apply keep_drewN | apply keep_drew | apply keep_alloc | refine keep_far ?_ GW695.out _ | refine keep_far ?_ GW701.out _) | exact HK.out))))
     replace HO_702001 := Aside0.mk (Kd.R_elder' (rk HO_702001) (Kd.R_base ho0) hb)
     have HO714 := Aside0.mk (Kd.R_lower (Kd.R_new' ho1 (Kd.R_lt (rk HO_702002))) (keep_size (w := w) (g := g) (row := none) (by repeat (first | (with_reducible first | exact HK.out | apply KeepBut.set_ | apply keep_drewN | apply keep_drew | apply keep_alloc | refine keep_far ?_ GW695.out _ | refine keep_far ?_ GW701.out _) | exact HK.out))))
     replace HO_702002 := Aside0.mk (Kd.R_elder' (rk HO_702002) (Kd.R_base ho1) hb)
     replace BK695 := Aside0.mk (blk_below (bk BK695) hb)
     replace BK701 := Aside0.mk (blk_below (bk BK701) hb)
     replace HK := Aside0.mk (KeepBut.trans (by repeat (first | (with_reducible first | exact HK.out | apply KeepBut.set_ | apply keep_drewN | apply keep_drew | apply keep_alloc | refine keep_far ?_ GW695.out _ | refine keep_far ?_ GW701.out _) | exact HK.out)) (KeepBut.of_below hb g none) (.inl rfl))
     replace HB := Aside0.mk (below_step (by repeat (first | (with_reducible first | exact HB.out | apply below_alloc | apply pw_below_drewN | apply below_drew1 | refine below_set ?_ (IsS113.ge HI0.out) | refine below_set ?_ GE695.out | refine below_set ?_ GE701.out) | exact HB.out)) hb)
     replace HI0 := Aside0.mk (IsS113.below (by repeat (first | (with_reducible first | exact HI0.out | apply IsS113.alloc | apply IsS113.drewN | apply IsS113.drew | apply IsS113.set_1 | refine IsS113.far ?_ NB0_695.out _ | refine IsS113.far ?_ NB0_701.out _) | exact HI0.out)) hb)
     (try clear hb)
     (try clear hb2)
     (try clear hk)
     (try clear hi)
     (try clear ho0)
     (try clear ho1)
     refine hK.out _ _ ⟨(blk_cell BK701.out 0).trans rfl, (blk_cell BK701.out 1).trans rfl, (blk_cell BK701.out 2).trans rfl⟩ (fun hHeld => ?_)
     clear hK K
     refine norm_ (a' := ?_) ?_ ?_
     rotate_left
     ·show Act.put _ (some 23) _ = _
      simp only [SX]
      rfl
     refine pu 6 17 ?_ (ms 12 127) rfl rfl HT_ (by kernel_rfl) (fun _ _ _ h => h) (by rfl) ?_ ?_ ?_ ?_
     rotate_left
     ·intro w'
      go_simp
      with_reducible rfl
     rotate_left
     ·simp only [SX]
      rfl
     refine pu 7 24 ?_ (ms 12 255) rfl rfl HT_ (by kernel_rfl) (fun _ _ _ h => h) (by rfl) ?_ ?_ ?_ ?_
     rotate_left
     ·intro w'
      go_simp
      with_reducible rfl
     rotate_left
     ·simp only [SX]
      rfl
     refine pu 8 25 ?_ (ms 12 511) rfl rfl HT_ (by kernel_rfl) (fun _ _ _ h => h) (by rfl) ?_ ?_ ?_ ?_
     rotate_left
     ·intro w'
      go_simp
      with_reducible rfl
     rotate_left
     ·simp only [SX]
      rfl
     refine one_ (i := 9) (N := some 5) (ms 12 1023) rfl rfl (one_of HT_.out (by kernel_rfl)) (by decide) (fun K hK => ?_)
     refine box_step ?hg (N := 5) ?hd (cs := #[.int .i64 0, .slice none 0 0, .slice none 0 0]) (t := 57) ?hr ?_; (case hd => rfl); (case hg => rfl); (case hr => first | (go_simp; done) | (go_simp; rfl))
     intro gb716 hg w20 hbox hb
     replace HO_702001 := Aside0.mk (Kd.R_below (rk HO_702001) hb)
     replace HO_702002 := Aside0.mk (Kd.R_below (rk HO_702002) hb)
     replace HO711 := Aside0.mk (Kd.R_below (rk HO711) hb)
     replace HO714 := Aside0.mk (Kd.R_below (rk HO714) hb)
     replace HB := Aside0.mk (below_step (by repeat (first | (with_reducible first | exact HB.out | apply below_alloc | apply pw_below_drewN | apply below_drew1 | refine below_set ?_ (IsS113.ge HI0.out) | refine below_set ?_ GE695.out | refine below_set ?_ GE701.out) | exact HB.out)) hb)
     have BK716 := Aside0.mk (hbox)
     have GW716 := Aside0.mk ((by rw [hg]; exact (keep_size (w := w) (g := g) (row := none) (by repeat (first | (with_reducible first | exact HK.out | apply KeepBut.set_ | apply keep_drewN | apply keep_drew | apply keep_alloc | refine keep_far ?_ GW695.out _ | refine keep_far ?_ GW701.out _) | exact HK.out))) : w.heap.size ≤ gb716))
     have GE716 := Aside0.mk ((Nat.le_trans HW0.out (by rw [hg]; exact (keep_size (w := w) (g := g) (row := none) (by repeat (first | (with_reducible first | exact HK.out | apply KeepBut.set_ | apply keep_drewN | apply keep_drew | apply keep_alloc | refine keep_far ?_ GW695.out _ | refine keep_far ?_ GW701.out _) | exact HK.out))) : w.heap.size ≤ gb716) : w0.heap.size ≤ gb716))
     replace HK := Aside0.mk (KeepBut.trans (by repeat (first | (with_reducible first | exact HK.out | apply KeepBut.set_ | apply keep_drewN | apply keep_drew | apply keep_alloc | refine keep_far ?_ GW695.out _ | refine keep_far ?_ GW701.out _) | exact HK.out)) (KeepBut.of_below hb g none) (.inl rfl))
     have NB695_716 := Aside0.mk ((by rw [hg]; exact Nat.ne_of_lt (blk_lt (bk BK695)) : gb695 ≠ gb716))
     have NB716_695 := Aside0.mk ((by rw [hg]; exact Nat.ne_of_gt (blk_lt (bk BK695)) : gb716 ≠ gb695))
     replace BK695 := Aside0.mk (blk_below (bk BK695) hb)
     have NB701_716 := Aside0.mk ((by rw [hg]; exact Nat.ne_of_lt (blk_lt (bk BK701)) : gb701 ≠ gb716))
     have NB716_701 := Aside0.mk ((by rw [hg]; exact Nat.ne_of_gt (blk_lt (bk BK701)) : gb716 ≠ gb701))
     replace BK701 := Aside0.mk (blk_below (bk BK701) hb)
     have NB0_716 := Aside0.mk ((by rw [hg]; exact Nat.ne_of_lt (IsS113.lt (show IsS113 w0 _ g s0_0 t707 from by repeat (first | (with_reducible first | exact HI0.out | apply IsS113.alloc | apply IsS113.drewN | apply IsS113.drew | apply IsS113.set_1 | refine IsS113.far ?_ NB0_695.out _ | refine IsS113.far ?_ NB0_701.out _) | exact HI0.out))) : g ≠ gb716))
     have NB716_0 := Aside0.mk ((by rw [hg]; exact Nat.ne_of_gt (IsS113.lt (show IsS113 w0 _ g s0_0 t707 from by repeat (first | (with_reducible first | exact HI0.out | apply IsS113.alloc | apply IsS113.drewN | apply IsS113.drew | apply IsS113.set_1 | refine IsS113.far ?_ NB0_695.out _ | refine IsS113.far ?_ NB0_701.out _) | exact HI0.out))) : gb716 ≠ g))
     replace HI0 := Aside0.mk (IsS113.below (by repeat (first | (with_reducible first | exact HI0.out | apply IsS113.alloc | apply IsS113.drewN | apply IsS113.drew | apply IsS113.set_1 | refine IsS113.far ?_ NB0_695.out _ | refine IsS113.far ?_ NB0_701.out _) | exact HI0.out)) hb)
     clear hb hbox hg
     refine hK.out _ _ ⟨(blk_cell BK701.out 0).trans rfl, (blk_cell BK701.out 1).trans rfl, (blk_cell BK701.out 2).trans rfl⟩ (fun hHeld => ?_)
     clear hK K
     refine norm_ (a' := ?_) ?_ ?_
     rotate_left
     ·show Act.put _ (some 5) _ = _
      simp only [SX]
      rfl
     exact norm_ (by simp only [putAll, Act.put, List.setIfInBounds_toArray, List.set_cons_zero, List.set_cons_succ]) (hCont (v710, v713, gb716) _ ⟨hHeld, (by (with_reducible repeat (first | apply Kd.R_alloc | apply Kd.R_drewN | apply Kd.R_drew)); exact Kd.R_mono HO711.out (fun _ hk => hk.2)), (by (with_reducible repeat (first | apply Kd.R_alloc | apply Kd.R_drewN | apply Kd.R_drew)); exact Kd.R_mono HO714.out (fun _ hk => hk.2)), (by (with_reducible repeat (first | apply Kd.R_alloc | apply Kd.R_drewN | apply Kd.R_drew)); exact Kd.R_mono HO_702001.out (fun _ hk => hk.2)), (by (with_reducible repeat (first | apply Kd.R_alloc | apply Kd.R_drewN | apply Kd.R_drew)); exact Kd.R_mono HO_702002.out (fun _ hk => hk.2)), (bk BK695), (bk BK701), (bk BK716), GW716.out, GE716.out, NB0_716.out, NB716_0.out, NB695_716.out, NB716_695.out, NB701_716.out, NB716_701.out, (by repeat (first | (with_reducible first | exact HI0.out | apply IsS113.alloc | apply IsS113.drewN | apply IsS113.drew | apply IsS113.set_1 | refine IsS113.far ?_ NB0_695.out _ | refine IsS113.far ?_ NB0_701.out _ | refine IsS113.far ?_ NB0_716.out _) | exact HI0.out)), (by repeat (first | (with_reducible first | exact HK.out | apply KeepBut.set_ | apply keep_drewN | apply keep_drew | apply keep_alloc | refine keep_far ?_ GW695.out _ | refine keep_far ?_ GW701.out _ | refine keep_far ?_ GW716.out _) | exact HK.out)), (by repeat (first | (with_reducible first | exact HB.out | apply below_alloc | apply pw_below_drewN | apply below_drew1 | refine below_set ?_ (IsS113.ge HI0.out) | refine below_set ?_ GE695.out | refine below_set ?_ GE701.out | refine below_set ?_ GE716.out) | exact HB.out))⟩)
    skip
    refine box_step ?hg (N := 5) ?hd (cs := #[.int .i64 0, .slice none 0 0, .slice none 0 0]) (t := 57) ?hr ?_; (case hd => rfl); (case hg => rfl); (case hr => first | (go_simp; done) | (go_simp; rfl))
    intro gb716 hg w19 hbox hb
    replace HO_702001 := Aside0.mk (Kd.R_below (rk HO_702001) hb)
    replace HO_702002 := Aside0.mk (Kd.R_below (rk HO_702002) hb)
    replace HB := Aside0.mk (below_step (by repeat (first | (with_reducible first | exact HB.out | apply below_alloc | apply pw_below_drewN | apply below_drew1 | refine below_set ?_ (IsS113.ge HI0.out) | refine below_set ?_ GE695.out | refine below_set ?_ GE701.out) | exact HB.out)) hb)
    have BK716 := Aside0.mk (hbox)
    have GW716 := Aside0.mk ((by rw [hg]; exact (keep_size (w := w) (g := g) (row := none) (by repeat (first | (with_reducible first | exact HK.out | apply KeepBut.set_ | apply keep_drewN | apply keep_drew | apply keep_alloc | refine keep_far ?_ GW695.out _ | refine keep_far ?_ GW701.out _) | exact HK.out))) : w.heap.size ≤ gb716))
    have GE716 := Aside0.mk ((Nat.le_trans HW0.out (by rw [hg]; exact (keep_size (w := w) (g := g) (row := none) (by repeat (first | (with_reducible first | exact HK.out | apply KeepBut.set_ | apply keep_drewN | apply keep_drew | apply keep_alloc | refine keep_far ?_ GW695.out _ | refine keep_far ?_ GW701.out _) | exact HK.out))) : w.heap.size ≤ gb716) : w0.heap.size ≤ gb716))
    replace HK := Aside0.mk (KeepBut.trans (by repeat (first | (with_reducible first | exact HK.out | apply KeepBut.set_ | apply keep_drewN | apply keep_drew | apply keep_alloc | refine keep_far ?_ GW695.out _ | refine keep_far ?_ GW701.out _) | exact HK.out)) (KeepBut.of_below hb g none) (.inl rfl))
    have NB695_716 := Aside0.mk ((by rw [hg]; exact Nat.ne_of_lt (blk_lt (bk BK695)) : gb695 ≠ gb716))
    have NB716_695 := Aside0.mk ((by rw [hg]; exact Nat.ne_of_gt (blk_lt (bk BK695)) : gb716 ≠ gb695))
    replace BK695 := Aside0.mk (blk_below (bk BK695) hb)
    have NB701_716 := Aside0.mk ((by rw [hg]; exact Nat.ne_of_lt (blk_lt (bk BK701)) : gb701 ≠ gb716))
    have NB716_701 := Aside0.mk ((by rw [hg]; exact Nat.ne_of_gt (blk_lt (bk BK701)) : gb716 ≠ gb701))
    replace BK701 := Aside0.mk (blk_below (bk BK701) hb)
    have NB0_716 := Aside0.mk ((by rw [hg]; exact Nat.ne_of_lt (IsS113.lt (show IsS113 w0 _ g s0_0 t707 from by repeat (first | (with_reducible first | exact HI0.out | apply IsS113.alloc | apply IsS113.drewN | apply IsS113.drew | apply IsS113.set_1 | refine IsS113.far ?_ NB0_695.out _ | refine IsS113.far ?_ NB0_701.out _) | exact HI0.out))) : g ≠ gb716))
    have NB716_0 := Aside0.mk ((by rw [hg]; exact Nat.ne_of_gt (IsS113.lt (show IsS113 w0 _ g s0_0 t707 from by repeat (first | (with_reducible first | exact HI0.out | apply IsS113.alloc | apply IsS113.drewN | apply IsS113.drew | apply IsS113.set_1 | refine IsS113.far ?_ NB0_695.out _ | refine IsS113.far ?_ NB0_701.out _) | exact HI0.out))) : gb716 ≠ g))
    replace HI0 := Aside0.mk (IsS113.below (by repeat (first | (with_reducible first | exact HI0.out | apply IsS113.alloc | apply IsS113.drewN | apply IsS113.drew | apply IsS113.set_1 | refine IsS113.far ?_ NB0_695.out _ | refine IsS113.far ?_ NB0_701.out _) | exact HI0.out)) hb)
    clear hb hbox hg
    refine hK.out _ _ ⟨(blk_cell BK701.out 0).trans rfl, (blk_cell BK701.out 1).trans rfl, (blk_cell BK701.out 2).trans rfl⟩ (fun hHeld => ?_)
    clear hK K
    refine norm_ (a' := ?_) ?_ ?_
    rotate_left
    ·show Act.put _ (some 5) _ = _
     simp only [SX]
     rfl
    refine one_ (i := 5) (N := some 23) (ms 12 575) rfl rfl (one_of HT_.out (by kernel_rfl)) (by decide) (fun K hK => ?_)
    refine goes_ Try.func113 (by kernel_rfl) rfl #[.agg #[.int .i64 x702000_1, .slice Ao15 x702001_1.length co15, .slice Ao16 x702002_1.length co16], .agg #[.int .i64 t704, .int .i64 t705, .int .i64 t706]] (by rfl) rfl rfl (by (try simp only [List.map_toArray, List.map_cons, List.map_nil]); first | done | rfl | (simp only [List.length_drop, List.length_take]; rfl)) ?_
    with_reducible refine (spec_LiveTell.calls k1 x702000_1 _ _ x702001_1 _ _ x702002_1 t704 t705 t706 t708 t709 t712 t715 _ ?side1 ?side2 ?side3 ?side4 A14.out).mono ?_
    (case side1 => repeat (first | exact (Kd.R_reads' HO_702001.out).2.2 | (with_reducible refine Kd.C_alloc ?_ _) | (with_reducible refine Kd.C_drewN ?_ _) | (with_reducible refine Kd.C_drew ?_)))
    (case side2 => exact (Kd.R_reads' HO_702001.out).2.1)
    (case side3 => repeat (first | exact (Kd.R_reads' HO_702002.out).2.2 | (with_reducible refine Kd.C_alloc ?_ _) | (with_reducible refine Kd.C_drewN ?_ _) | (with_reducible refine Kd.C_drew ?_)))
    (case side4 => exact (Kd.R_reads' HO_702002.out).2.1)
    rintro e w20 ⟨v710, v713, rfl, ho0, ho1, hb⟩
    refine ⟨_, rfl, ?_⟩
    have HO711 := Aside0.mk (Kd.R_lower (Kd.R_new' ho0 (Kd.R_lt (rk HO_702001))) (keep_size (w := w) (g := g) (row := none) (by repeat (first | (with_reducible first | exact HK.out | apply KeepBut.set_ | apply keep_drewN | apply keep_drew | apply keep_alloc | refine keep_far ?_ GW695.out _ | refine keep_far ?_ GW701.out _ | refine keep_far ?_ GW716.out _) | exact HK.out))))
    replace HO_702001 := Aside0.mk (Kd.R_elder' (rk HO_702001) (Kd.R_base ho0) hb)
    have HO714 := Aside0.mk (Kd.R_lower (Kd.R_new' ho1 (Kd.R_lt (rk HO_702002))) (keep_size (w := w) (g := g) (row := none) (by repeat (first | (with_reducible first | exact HK.out | apply KeepBut.set_ | apply keep_drewN | apply keep_drew | apply keep_alloc | refine keep_far ?_ GW695.out _ | refine keep_far ?_ GW701.out _ | refine keep_far ?_ GW716.out _) | exact HK.out))))
    replace HO_702002 := Aside0.mk (Kd.R_elder' (rk HO_702002) (Kd.R_base ho1) hb)
    replace BK695 := Aside0.mk (blk_below (bk BK695) hb)
    replace BK701 := Aside0.mk (blk_below (bk BK701) hb)
    replace BK716 := Aside0.mk (blk_below (bk BK716) hb)
    replace HK := Aside0.mk (KeepBut.trans (by repeat (first | (with_reducible first | exact HK.out | apply KeepBut.set_ | apply keep_drewN | apply keep_drew | apply keep_alloc | refine keep_far ?_ GW695.out _ | refine keep_far ?_ GW701.out _ | refine keep_far ?_ GW716.out _) | exact HK.out)) (KeepBut.of_below hb g none) (.inl rfl))
    replace HB := Aside0.mk (below_step (by repeat (first | (with_reducible first | exact HB.out | apply below_alloc | apply pw_below_drewN | apply below_drew1 | refine below_set ?_ (IsS113.ge HI0.out) | refine below_set ?_ GE695.out | refine below_set ?_ GE701.out | refine below_set ?_ GE716.out) | exact HB.out)) hb)
    replace HI0 := Aside0.mk (IsS113.below (by repeat (first | (with_reducible first | exact HI0.out | apply IsS113.alloc | apply IsS113.drewN | apply IsS113.drew | apply IsS113.set_1 | refine IsS113.far ?_ NB0_695.out _ | refine IsS113.far ?_ NB0_701.out _ | refine IsS113.far ?_ NB0_716.out _) | exact HI0.out)) hb)
    (try clear hb)
    (try clear hb2)
    (try clear hk)
    (try clear hi)
    (try clear ho0)
    (try clear ho1)
    refine hK.out _ _ ⟨(blk_cell BK701.out 0).trans rfl, (blk_cell BK701.out 1).trans rfl, (blk_cell BK701.out 2).trans rfl⟩ (fun hHeld => ?_)
    clear hK K
    refine norm_ (a' := ?_) ?_ ?_
    rotate_left
    ·show Act.put _ (some 23) _ = _
     simp only [SX]
     rfl
    refine pu 6 17 ?_ (ms 12 639) rfl rfl HT_ (by kernel_rfl) (fun _ _ _ h => h) (by rfl) ?_ ?_ ?_ ?_
    rotate_left
    ·intro w'
     go_simp
     with_reducible rfl
    rotate_left
    ·simp only [SX]
     rfl
    refine pu 7 24 ?_ (ms 12 767) rfl rfl HT_ (by kernel_rfl) (fun _ _ _ h => h) (by rfl) ?_ ?_ ?_ ?_
    rotate_left
    ·intro w'
     go_simp
     with_reducible rfl
    rotate_left
    ·simp only [SX]
     rfl
    refine pu 8 25 ?_ (ms 12 1023) rfl rfl HT_ (by kernel_rfl) (fun _ _ _ h => h) (by rfl) ?_ ?_ ?_ ?_
    rotate_left
    ·intro w'
     go_simp
     with_reducible rfl
    rotate_left
    ·simp only [SX]
     rfl
    exact norm_ (by simp only [putAll, Act.put, List.setIfInBounds_toArray, List.set_cons_zero, List.set_cons_succ]) (hCont (v710, v713, gb716) _ ⟨hHeld, (by (with_reducible repeat (first | apply Kd.R_alloc | apply Kd.R_drewN | apply Kd.R_drew)); exact Kd.R_mono HO711.out (fun _ hk => hk.2)), (by (with_reducible repeat (first | apply Kd.R_alloc | apply Kd.R_drewN | apply Kd.R_drew)); exact Kd.R_mono HO714.out (fun _ hk => hk.2)), (by (with_reducible repeat (first | apply Kd.R_alloc | apply Kd.R_drewN | apply Kd.R_drew)); exact Kd.R_mono HO_702001.out (fun _ hk => hk.2)), (by (with_reducible repeat (first | apply Kd.R_alloc | apply Kd.R_drewN | apply Kd.R_drew)); exact Kd.R_mono HO_702002.out (fun _ hk => hk.2)), (bk BK695), (bk BK701), (bk BK716), GW716.out, GE716.out, NB0_716.out, NB716_0.out, NB695_716.out, NB716_695.out, NB701_716.out, NB716_701.out, (by repeat (first | (with_reducible first | exact HI0.out | apply IsS113.alloc | apply IsS113.drewN | apply IsS113.drew | apply IsS113.set_1 | refine IsS113.far ?_ NB0_695.out _ | refine IsS113.far ?_ NB0_701.out _ | refine IsS113.far ?_ NB0_716.out _) | exact HI0.out)), (by repeat (first | (with_reducible first | exact HK.out | apply KeepBut.set_ | apply keep_drewN | apply keep_drew | apply keep_alloc | refine keep_far ?_ GW695.out _ | refine keep_far ?_ GW701.out _ | refine keep_far ?_ GW716.out _) | exact HK.out)), (by repeat (first | (with_reducible first | exact HB.out | apply below_alloc | apply pw_below_drewN | apply below_drew1 | refine below_set ?_ (IsS113.ge HI0.out) | refine below_set ?_ GE695.out | refine below_set ?_ GE701.out | refine below_set ?_ GE716.out) | exact HB.out))⟩)
   rintro ⟨v710, v713, gb716⟩ w21 ⟨hS_, h0_, h1_, h2_, h3_, h4_, h5_, h6_, h7_, h8_, h9_, h10_, h11_, h12_, h13_, h14_, h15_, h16_, h17_⟩
   have HO711 : Aside0 (Kd.R k31 31 w21 w.heap.size (fun k_ => some k_ ≠ (.slice Ao15 x702001_1.length co15 : Value).ownBlock) v710 t709) := ⟨h0_⟩
   have HO714 : Aside0 (Kd.R k64 64 w21 w.heap.size (fun k_ => some k_ ≠ (.slice Ao16 x702002_1.length co16 : Value).ownBlock) v713 t712) := ⟨h1_⟩
   replace HO_702001 : Aside0 (Kd.R k31 31 w21 w.heap.size (fun k_ => some k_ ≠ (v710 : Value).ownBlock) (.slice Ao15 x702001_1.length co15) x702001_1) := ⟨h2_⟩
   replace HO_702002 : Aside0 (Kd.R k64 64 w21 w.heap.size (fun k_ => some k_ ≠ (v713 : Value).ownBlock) (.slice Ao16 x702002_1.length co16) x702002_1) := ⟨h3_⟩
   replace BK695 : Aside0 (w21.heap[gb695]? = some (.cells #[.int .i64 0, .slice none 0 0, .slice none 0 0] 57 (0, 0))) := ⟨h4_⟩
   replace BK701 : Aside0 (w21.heap[gb701]? = some (.cells #[.int .i64 x702000_1, .slice Ao15 x702001_1.length co15, .slice Ao16 x702002_1.length co16] 57 (0, 0))) := ⟨h5_⟩
   have BK716 : Aside0 (w21.heap[gb716]? = some (.cells #[.int .i64 0, .slice none 0 0, .slice none 0 0] 57 (0, 0))) := ⟨h6_⟩
   have GW716 : Aside0 (w.heap.size ≤ gb716) := ⟨h7_⟩
   have GE716 : Aside0 (w0.heap.size ≤ gb716) := ⟨h8_⟩
   have NB0_716 : Aside0 (g ≠ gb716) := ⟨h9_⟩
   have NB716_0 : Aside0 (gb716 ≠ g) := ⟨h10_⟩
   have NB695_716 : Aside0 (gb695 ≠ gb716) := ⟨h11_⟩
   have NB716_695 : Aside0 (gb716 ≠ gb695) := ⟨h12_⟩
   have NB701_716 : Aside0 (gb701 ≠ gb716) := ⟨h13_⟩
   have NB716_701 : Aside0 (gb716 ≠ gb701) := ⟨h14_⟩
   replace HI0 : Aside0 (IsS113 w0 w21 g s0_0 t707) := ⟨h15_⟩
   replace HK : Aside0 (KeepBut w w21 g none) := ⟨h16_⟩
   replace HB : Aside0 (Below w0.heap.size w0 w21) := ⟨h17_⟩
   clear h0_ h1_ h2_ h3_ h4_ h5_ h6_ h7_ h8_ h9_ h10_ h11_ h12_ h13_ h14_ h15_ h16_ h17_
   have hHeld : w21.cell? ⟨gb701, 0, none⟩ = some (.int .i64 x702000_1) ∧ w21.cell? ⟨gb701, 1, none⟩ = some (.slice Ao15 x702001_1.length co15) ∧ w21.cell? ⟨gb701, 2, none⟩ = some (.slice Ao16 x702002_1.length co16) := hS_
   obtain ⟨Ao23, co23, eo23⟩ := Kd.R_slice HO711.out
   (first | subst eo23 | (injection eo23 with f1_ f2_ f3_; have f4_ := f1_.symm; have f5_ := f3_.symm; clear f1_ f2_ f3_; subst f4_; subst f5_))
   obtain ⟨Ao25, co25, eo25⟩ := Kd.R_slice HO714.out
   (first | subst eo25 | (injection eo25 with f1_ f2_ f3_; have f4_ := f1_.symm; have f5_ := f3_.symm; clear f1_ f2_ f3_; subst f4_; subst f5_))
   refine norm_ (a' := ?_) ?_ ?_
   rotate_left
   ·simp only [putAll, Act.put, List.setIfInBounds_toArray, List.set_cons_zero, List.set_cons_succ]
    rfl
   refine one_ (i := 10) (N := none) (ms 12 2047) rfl rfl (one_of HT_.out (by kernel_rfl)) (by decide) (fun K hK => ?_)
   have hs22 : w21.cell? ⟨gb716, 0, none⟩ = some (.int .i64 0) := (blk_cell BK716.out 0).trans rfl
   have hfs22 := blk_frozen BK716.out 0
   have hns22_0 := NB695_716.out
   have hns22_1 := NB701_716.out
   have hms22_0 := NB716_695.out
   have hms22_1 := NB716_701.out
   have hs24 : w21.cell? ⟨gb716, 1, none⟩ = some (.slice none 0 0) := (blk_cell BK716.out 1).trans rfl
   have hfs24 := blk_frozen BK716.out 1
   have hns24_0 := NB695_716.out
   have hns24_1 := NB701_716.out
   have hms24_0 := NB716_695.out
   have hms24_1 := NB716_701.out
   have hs26 : w21.cell? ⟨gb716, 2, none⟩ = some (.slice none 0 0) := (blk_cell BK716.out 2).trans rfl
   have hfs26 := blk_frozen BK716.out 2
   have hns26_0 := NB695_716.out
   have hns26_1 := NB701_716.out
   have hms26_0 := NB716_695.out
   have hms26_1 := NB716_701.out
   refine skip_ (w1 := ?_) (by rfl) rfl ?_ ?_
   rotate_left
   ·go_simp
    rfl
   refine hK.out _ _ ⟨((cell_far (p := ⟨gb716, _, none⟩) NB701_716.out _).trans (((cell_far (p := ⟨gb716, _, none⟩) NB701_716.out _).trans (((cell_far (p := ⟨gb716, _, none⟩) NB701_716.out _).trans (hHeld.1)))))), ((cell_far (p := ⟨gb716, _, none⟩) NB701_716.out _).trans (((cell_far (p := ⟨gb716, _, none⟩) NB701_716.out _).trans (((cell_far (p := ⟨gb716, _, none⟩) NB701_716.out _).trans (hHeld.2.1)))))), ((cell_far (p := ⟨gb716, _, none⟩) NB701_716.out _).trans (((cell_far (p := ⟨gb716, _, none⟩) NB701_716.out _).trans (((cell_far (p := ⟨gb716, _, none⟩) NB701_716.out _).trans (hHeld.2.2))))))⟩ (fun hHeld => ?_)
   clear hK K
   refine pu 11 6 ?_ (ms 12 4095) rfl rfl HT_ (by kernel_rfl) (fun _ _ _ h => h) (by rfl) ?_ ?_ ?_ ?_
   rotate_left
   ·intro w'
    go_simp
    with_reducible rfl
   rotate_left
   ·simp only [SX]
    rfl
   refine done_ (done_of HT_.out (by kernel_rfl)) ?_
   have hnb27 := NB716_695.out
   have hnc27 := NB695_716.out
   have hnb28 := NB716_701.out
   have hnc28 := NB701_716.out
   have hnb29 := NB716_0.out
   have hnc29 := NB0_716.out
   have hcz30_0 := bc w21 BK716 0 (.int .i64 0) rfl
   have hcz30_1 := bc w21 BK716 1 (.slice none 0 0) rfl
   have hcz30_2 := bc w21 BK716 2 (.slice none 0 0) rfl
   have hfz30_0 := fz BK716 0
   have hfz30_1 := fz BK716 1
   have hfz30_2 := fz BK716 2
   have hnb31 := NB701_695.out
   have hnc31 := NB695_701.out
   have hnb32 := NB701_0.out
   have hnc32 := NB0_701.out
   have hcz33_0 := bc w21 BK701 0 (.int .i64 x702000_1) rfl
   have hcz33_1 := bc w21 BK701 1 (.slice Ao15 x702001_1.length co15) rfl
   have hcz33_2 := bc w21 BK701 2 (.slice Ao16 x702002_1.length co16) rfl
   have hfz33_0 := fz BK701 0
   have hfz33_1 := fz BK701 1
   have hfz33_2 := fz BK701 2
   try go_wp2
   go_roundg k1
   case measure => have := HK1.out; omega
   case rel => exact ⟨(wrap64 (x4_1 - 1)), (t707), (t708), (t709), (t712), (.slice Ao23 t709.length co23), (.slice Ao25 t712.length co25), (by first | rfl | (simp; done) | (simp [*]; done)), H', ⟨by have := HK1.out; omega⟩, ⟨by (with_reducible repeat (first | apply Kd.R_alloc | apply Kd.R_drewN | apply Kd.R_drew)); exact Kd.R_mono (Kd.R_far (p := ⟨gb701, 2, none⟩) (Kd.R_far (p := ⟨gb701, 1, none⟩) (Kd.R_far (p := ⟨gb701, 0, none⟩) (Kd.R_far (p := ⟨gb716, 2, none⟩) (Kd.R_far (p := ⟨gb716, 1, none⟩) (Kd.R_far (p := ⟨gb716, 0, none⟩) (Kd.R_types (Kd.R_types HO711.out BK716.out (by decide)) BK701.out (by decide)) (fun _ hk => hk.1.2) (.int .i64 t708)) (fun _ hk => hk.1.2) (.slice Ao23 t709.length co23)) (fun _ hk => hk.1.2) (.slice Ao25 t712.length co25)) (fun _ hk => hk.2) (.int .i64 t708)) (fun _ hk => hk.2) (.slice Ao23 t709.length co23)) (fun _ hk => hk.2) (.slice Ao25 t712.length co25)) (fun _ hk => trivial)⟩, ⟨by (with_reducible repeat (first | apply Kd.R_alloc | apply Kd.R_drewN | apply Kd.R_drew)); exact Kd.R_mono (Kd.R_far (p := ⟨gb701, 2, none⟩) (Kd.R_far (p := ⟨gb701, 1, none⟩) (Kd.R_far (p := ⟨gb701, 0, none⟩) (Kd.R_far (p := ⟨gb716, 2, none⟩) (Kd.R_far (p := ⟨gb716, 1, none⟩) (Kd.R_far (p := ⟨gb716, 0, none⟩) (Kd.R_types (Kd.R_types HO714.out BK716.out (by decide)) BK701.out (by decide)) (fun _ hk => hk.1.2) (.int .i64 t708)) (fun _ hk => hk.1.2) (.slice Ao23 t709.length co23)) (fun _ hk => hk.1.2) (.slice Ao25 t712.length co25)) (fun _ hk => hk.2) (.int .i64 t708)) (fun _ hk => hk.2) (.slice Ao23 t709.length co23)) (fun _ hk => hk.2) (.slice Ao25 t712.length co25)) (fun _ hk => trivial)⟩, ⟨by (with_reducible repeat (first | refine blk_drewN ?_ _ | refine blk_drew ?_ | refine blk_alloc ?_ _)); refine blk_far ?_ NB695_701.out _; refine blk_far ?_ NB695_701.out _; refine blk_far ?_ NB695_701.out _; refine blk_far ?_ NB695_716.out _; refine blk_far ?_ NB695_716.out _; refine blk_far ?_ NB695_716.out _; (with_reducible repeat (first | refine blk_drewN ?_ _ | refine blk_drew ?_ | refine blk_alloc ?_ _)); exact BK695.out⟩, ⟨by (with_reducible repeat (first | refine blk_drewN ?_ _ | refine blk_drew ?_ | refine blk_alloc ?_ _)); refine blk_put (cs := #[.int .i64 t708, .slice Ao23 t709.length co23, .slice Ao16 x702002_1.length co16]) ?_ 2 _ rfl; refine blk_put (cs := #[.int .i64 t708, .slice Ao15 x702001_1.length co15, .slice Ao16 x702002_1.length co16]) ?_ 1 _ rfl; refine blk_put (cs := #[.int .i64 x702000_1, .slice Ao15 x702001_1.length co15, .slice Ao16 x702002_1.length co16]) ?_ 0 _ rfl; refine blk_far ?_ NB701_716.out _; refine blk_far ?_ NB701_716.out _; refine blk_far ?_ NB701_716.out _; (with_reducible repeat (first | refine blk_drewN ?_ _ | refine blk_drew ?_ | refine blk_alloc ?_ _)); exact BK701.out⟩, ⟨by repeat (first | (with_reducible first | exact HI0.out | apply IsS113.alloc | apply IsS113.drewN | apply IsS113.drew | apply IsS113.set_1 | refine IsS113.far ?_ NB0_695.out _ | refine IsS113.far ?_ NB0_701.out _ | refine IsS113.far ?_ NB0_716.out _) | exact HI0.out)⟩, ⟨by repeat (first | (with_reducible first | exact HK.out | apply KeepBut.set_ | apply keep_drewN | apply keep_drew | apply keep_alloc | refine keep_far ?_ GW695.out _ | refine keep_far ?_ GW701.out _ | refine keep_far ?_ GW716.out _) | exact HK.out)⟩, ⟨by repeat (first | (with_reducible first | exact HB.out | apply below_alloc | apply pw_below_drewN | apply below_drew1 | refine below_set ?_ (IsS113.ge HI0.out) | refine below_set ?_ GE695.out | refine below_set ?_ GE701.out | refine below_set ?_ GE716.out) | exact HB.out)⟩⟩
  rw [if_neg c12] at H
  have c12b0 : decide (0 < x4_1) = false := decide_eq_false c12
  clear c12
  by_cases c34 : (x702002_1.length : Int) > 0
  rotate_left
  ·rw [if_neg c34] at H
   have c34b0 : decide (0 < (x702002_1.length : Int)) = false := decide_eq_false c34
   have c34b1 : decide (0 < x702002_1.length) = false := decide_eq_false (by omega)
   clear c34
   replace H := Option.bind_eq_some_iff.mp H
   obtain ⟨⟨t752, t753, t756⟩, A990, H⟩ := H
   have A99 := Aside0.mk A990
   clear A990
   simp only [Option.some.injEq, Prod.mk.injEq] at H
   obtain ⟨rfl, rfl, rfl, rfl⟩ := H
   have hnb100 := NB701_695.out
   have hnc100 := NB695_701.out
   have hnb101 := NB701_0.out
   have hnc101 := NB0_701.out
   have hcz102_0 := bc wr BK701 0 (.int .i64 x702000_1) rfl
   have hcz102_1 := bc wr BK701 1 (u702001) rfl
   have hcz102_2 := bc wr BK701 2 (u702002) rfl
   have hfz102_0 := fz BK701 0
   have hfz102_1 := fz BK701 1
   have hfz102_2 := fz BK701 2
   obtain ⟨Ao103, co103, eo103⟩ := Kd.R_slice HO_702002.out
   subst eo103
   obtain ⟨Ao104, co104, eo104⟩ := Kd.R_slice HO_702001.out
   subst eo104
   go_wp2_with (first | ((with_reducible refine gate_callee (f := 115) rfl ?_); refine goesL_ (some 61) rfl rfl Try.func115 (by kernel_rfl) rfl #[.agg #[.int .i64 x702000_1, .slice Ao104 x702001_1.length co104, .slice Ao103 x702002_1.length co103]] rfl (by (try simp only [List.map_toArray, List.map_cons, List.map_nil]); first | done | rfl | (simp only [List.length_drop, List.length_take]; rfl)) ?_; (with_reducible refine (spec_l16Copy.calls x702000_1 _ _ x702001_1 _ _ x702002_1 t752 t753 t756 _ ?side1 ?side2 ?side3 ?side4 A99.out).mono ?_); (case side1 => repeat (first | exact (Kd.R_reads' HO_702001.out).2.2 | (with_reducible refine Kd.C_alloc ?_ _) | (with_reducible refine Kd.C_drewN ?_ _) | (with_reducible refine Kd.C_drew ?_))); (case side2 => exact (Kd.R_reads' HO_702001.out).2.1); (case side3 => repeat (first | exact (Kd.R_reads' HO_702002.out).2.2 | (with_reducible refine Kd.C_alloc ?_ _) | (with_reducible refine Kd.C_drewN ?_ _) | (with_reducible refine Kd.C_drew ?_))); (case side4 => exact (Kd.R_reads' HO_702002.out).2.1); rintro e w105 ⟨v754, v757, rfl, ho0, ho1, hb⟩; refine ⟨_, rfl, ?_⟩; have HO755 := Aside0.mk (Kd.R_lower (Kd.R_new' ho0 (Kd.R_lt (rk HO_702001))) (keep_size (w := w) (g := g) (row := none) (by repeat (first | (with_reducible first | exact HK.out | apply KeepBut.set_ | apply keep_drewN | apply keep_drew | apply keep_alloc | refine keep_far ?_ GW695.out _ | refine keep_far ?_ GW701.out _) | exact HK.out)))); replace HO_702001 := Aside0.mk (Kd.R_elder' (rk HO_702001) (Kd.R_base ho0) hb); have HO758 := Aside0.mk (Kd.R_lower (Kd.R_new' ho1 (Kd.R_lt (rk HO_702002))) (keep_size (w := w) (g := g) (row := none) (by repeat (first | (with_reducible first | exact HK.out | apply KeepBut.set_ | apply keep_drewN | apply keep_drew | apply keep_alloc | refine keep_far ?_ GW695.out _ | refine keep_far ?_ GW701.out _) | exact HK.out)))); replace HO_702002 := Aside0.mk (Kd.R_elder' (rk HO_702002) (Kd.R_base ho1) hb); replace BK695 := Aside0.mk (blk_below (bk BK695) hb); replace BK701 := Aside0.mk (blk_below (bk BK701) hb); replace HK := Aside0.mk (KeepBut.trans (by repeat (first | (with_reducible first | exact HK.out | apply KeepBut.set_ | apply keep_drewN | apply keep_drew | apply keep_alloc | refine keep_far ?_ GW695.out _ | refine keep_far ?_ GW701.out _) | exact HK.out)) (KeepBut.of_below hb g none) (.inl rfl)); replace HB := Aside0.mk (below_step (by repeat (first | (with_reducible first | exact HB.out | apply below_alloc | apply pw_below_drewN | apply below_drew1 | refine below_set ?_ (IsS113.ge HI0.out) | refine below_set ?_ GE695.out | refine below_set ?_ GE701.out) | exact HB.out)) hb); replace HI0 := Aside0.mk (IsS113.below (by repeat (first | (with_reducible first | exact HI0.out | apply IsS113.alloc | apply IsS113.drewN | apply IsS113.drew | apply IsS113.set_1 | refine IsS113.far ?_ NB0_695.out _ | refine IsS113.far ?_ NB0_701.out _) | exact HI0.out)) hb); (try clear hb); (try clear hb2); (try clear hk); (try clear hi); (try clear ho0); (try clear ho1); have hnb106 := NB695_0.out; have hnc106 := NB0_695.out; have hcz107_0 := bc w105 BK695 0 (.int .i64 0) rfl; have hcz107_1 := bc w105 BK695 1 (.slice none 0 0) rfl; have hcz107_2 := bc w105 BK695 2 (.slice none 0 0) rfl; have hfz107_0 := fz BK695 0; have hfz107_1 := fz BK695 1; have hfz107_2 := fz BK695 2; obtain ⟨Ao108, co108, eo108⟩ := Kd.R_slice HO755.out; subst eo108; obtain ⟨Ao109, co109, eo109⟩ := Kd.R_slice HO758.out; subst eo109))
   refine bodyPost_ret (results_cell_row rfl _ _ gb695 57 #[.int .i64 t752, .slice Ao108 t753.length co108, .slice Ao109 t756.length co109] (0, 0) _ rfl (by (with_reducible repeat (first | refine blk_drewN ?_ _ | refine blk_drew ?_ | refine blk_alloc ?_ _)); refine blk_put (cs := #[.int .i64 t752, .slice Ao108 t753.length co108, .slice none 0 0]) ?_ 2 _ rfl; refine blk_put (cs := #[.int .i64 t752, .slice none 0 0, .slice none 0 0]) ?_ 1 _ rfl; refine blk_put (cs := #[.int .i64 0, .slice none 0 0, .slice none 0 0]) ?_ 0 _ rfl; (with_reducible repeat (first | refine blk_drewN ?_ _ | refine blk_drew ?_ | refine blk_alloc ?_ _)); exact BK695.out) Try.underlying57 rfl (by kernel_rfl)) rfl ?_
   exact ⟨_, _, by first | rfl | (simp [errW_none, errW_some] <;> rfl) | (simp [*, errW_none, errW_some] <;> rfl), by (with_reducible repeat (first | apply Kd.R_alloc | apply Kd.R_drewN | apply Kd.R_drew)); exact Kd.R_mono (Kd.R_far (p := ⟨gb695, 2, none⟩) (Kd.R_far (p := ⟨gb695, 1, none⟩) (Kd.R_far (p := ⟨gb695, 0, none⟩) (Kd.R_types HO755.out BK695.out (by decide)) (fun _ hk => hk.2) (.int .i64 t752)) (fun _ hk => hk.2) (.slice Ao108 t753.length co108)) (fun _ hk => hk.2) (.slice Ao109 t756.length co109)) (fun _ hk => trivial), by (with_reducible repeat (first | apply Kd.R_alloc | apply Kd.R_drewN | apply Kd.R_drew)); exact Kd.R_mono (Kd.R_far (p := ⟨gb695, 2, none⟩) (Kd.R_far (p := ⟨gb695, 1, none⟩) (Kd.R_far (p := ⟨gb695, 0, none⟩) (Kd.R_types HO758.out BK695.out (by decide)) (fun _ hk => hk.2) (.int .i64 t752)) (fun _ hk => hk.2) (.slice Ao108 t753.length co108)) (fun _ hk => hk.2) (.slice Ao109 t756.length co109)) (fun _ hk => trivial), by repeat (first | (with_reducible first | exact HI0.out | apply IsS113.alloc | apply IsS113.drewN | apply IsS113.drew | apply IsS113.set_1 | refine IsS113.far ?_ NB0_695.out _ | refine IsS113.far ?_ NB0_701.out _) | exact HI0.out), by repeat (first | (with_reducible first | exact HB.out | apply below_alloc | apply pw_below_drewN | apply below_drew1 | refine below_set ?_ (IsS113.ge HI0.out) | refine below_set ?_ GE695.out | refine below_set ?_ GE701.out) | exact HB.out), by repeat (first | (with_reducible first | exact HK.out | apply KeepBut.set_ | apply keep_drewN | apply keep_drew | apply keep_alloc | refine keep_far ?_ GW695.out _ | refine keep_far ?_ GW701.out _) | exact HK.out)⟩
  rw [if_pos c34] at H
  have c34b0 : decide (0 < (x702002_1.length : Int)) = true := decide_eq_true c34
  have c34b1 : decide (0 < x702002_1.length) = true := decide_eq_true (by omega)
  clear c34
  replace H := Option.bind_eq_some_iff.mp H
  obtain ⟨⟨t717, t718⟩, A350, H⟩ := H
  have A35 := Aside0.mk A350
  clear A350
  replace H := Option.bind_eq_some_iff.mp H
  obtain ⟨⟨t719, t720⟩, A360, H⟩ := H
  have A36 := Aside0.mk A360
  clear A360
  by_cases c37 : t719 = 0
  ·rw [if_pos c37] at H
   have c37b0 : (t719 == 0) = true := beq_iff_eq.mpr c37
   have c37b1 : (t719 != 0) = false := bne_eq_false_iff_eq.mpr c37
   clear c37
   obtain ⟨y721, hy721⟩ : ∃ y_ : List Int, y_ = (([(-2), 100] : List Int)) := ⟨_, rfl⟩
   replace H : ((spec_l30Rd_one.f k1 s0_0 t720 y721).bind fun bt724 => (if 0 ≤ t717 then (if t717 < (x702002_1.length : Int) then ((spec_l16Copy.f x702000_1 x702001_1 (x702002_1.set (t717 : Int).toNat (⟨(rd_T64 x702002_1 t717).f0, (rd_T64 x702002_1 t717).f1, bt724.1⟩ : S64))).bind fun bt727 => (some (bt727.1, bt727.2.1, bt727.2.2, bt724.2))) else (none)) else (none))) = some (r1, r2, r3, r4) := by first | (rw [hy721]; with_reducible exact H) | (have H2_ := (Option.bind_some _ _).symm.trans H; rw [hy721]; with_reducible exact H2_) | (have H2_ := (Option.bind_some _ _).symm.trans H; with_reducible exact H2_) | with_reducible exact H | (rw [hy721]; exact H) | exact H
   have Ny721 := Aside0.mk hy721
   clear hy721
   replace H := Option.bind_eq_some_iff.mp H
   obtain ⟨⟨t724, t725⟩, A380, H⟩ := H
   have A38 := Aside0.mk A380
   clear A380
   by_cases c39 : 0 ≤ t717
   rotate_left
   ·rw [if_neg c39] at H
    exact absurd H (by simp)
   rw [if_pos c39] at H
   have c39b0 : decide (0 ≤ t717) = true := decide_eq_true c39
   clear c39
   by_cases c40 : t717 < (x702002_1.length : Int)
   rotate_left
   ·rw [if_neg c40] at H
    exact absurd H (by simp)
   rw [if_pos c40] at H
   have c40b0 : decide (t717 < (x702002_1.length : Int)) = true := decide_eq_true c40
   clear c40
   obtain ⟨y726, hy726⟩ : ∃ y_ : List (S64), y_ = (x702002_1.set (t717 : Int).toNat (⟨(rd_T64 x702002_1 t717).f0, (rd_T64 x702002_1 t717).f1, t724⟩ : S64)) := ⟨_, rfl⟩
   replace H : ((spec_l16Copy.f x702000_1 x702001_1 y726).bind fun bt727 => (some (bt727.1, bt727.2.1, bt727.2.2, t725))) = some (r1, r2, r3, r4) := by first | (rw [hy726]; with_reducible exact H) | (have H2_ := (Option.bind_some _ _).symm.trans H; rw [hy726]; with_reducible exact H2_) | (have H2_ := (Option.bind_some _ _).symm.trans H; with_reducible exact H2_) | with_reducible exact H | (rw [hy726]; exact H) | exact H
   have Ny726 := Aside0.mk hy726
   clear hy726
   replace H := Option.bind_eq_some_iff.mp H
   obtain ⟨⟨t727, t728, t731⟩, A420, H⟩ := H
   have A42 := Aside0.mk A420
   clear A420
   simp only [Option.some.injEq, Prod.mk.injEq] at H
   obtain ⟨rfl, rfl, rfl, rfl⟩ := H
   have hnb43 := NB701_695.out
   have hnc43 := NB695_701.out
   have hnb44 := NB701_0.out
   have hnc44 := NB0_701.out
   have hcz45_0 := bc wr BK701 0 (.int .i64 x702000_1) rfl
   have hcz45_1 := bc wr BK701 1 (u702001) rfl
   have hcz45_2 := bc wr BK701 2 (u702002) rfl
   have hfz45_0 := fz BK701 0
   have hfz45_1 := fz BK701 1
   have hfz45_2 := fz BK701 2
   obtain ⟨Ao46, co46, eo46⟩ := Kd.R_slice HO_702002.out
   subst eo46
   try go_wp2_with (first | ((with_reducible refine gate_callee (f := 59) rfl ?_); refine goesL_ (some 35) rfl rfl Try.func59 (by kernel_rfl) rfl #[.pointer (some ⟨g, 0, none⟩), .int .i64 (x702002_1.length : Int)] rfl (by (try simp only [List.map_toArray, List.map_cons, List.map_nil]); first | done | rfl | (simp only [List.length_drop, List.length_take]; rfl)) ?_; (with_reducible refine (spec_l30Rd_pick.calls k1 g s0_0 x1001_1 (x702002_1.length : Int) t717 t718 w0 _ ?side1 ?side2 A35.out).mono ?_); (case side1 => repeat (first | (with_reducible first | exact HI0.out | apply IsS113.alloc | apply IsS113.drewN | apply IsS113.drew | apply IsS113.set_1 | refine IsS113.far ?_ NB0_695.out _ | refine IsS113.far ?_ NB0_701.out _) | exact HI0.out)); (case side2 => repeat (first | (with_reducible first | exact HB.out | apply below_alloc | apply pw_below_drewN | apply below_drew1 | refine below_set ?_ (IsS113.ge HI0.out) | refine below_set ?_ GE695.out | refine below_set ?_ GE701.out) | exact HB.out)); rintro e w47 ⟨rfl, hi, hb, hk⟩; refine ⟨_, rfl, ?_⟩; replace HO_702001 := Aside0.mk (Kd.R_mono (Kd.R_keep (IsS113.apart (show IsS113 w0 _ g s0_0 x1001_1 from by repeat (first | (with_reducible first | exact HI0.out | apply IsS113.alloc | apply IsS113.drewN | apply IsS113.drew | apply IsS113.set_1 | refine IsS113.far ?_ NB0_695.out _ | refine IsS113.far ?_ NB0_701.out _) | exact HI0.out)) (rk HO_702001) (by decide)) hk (fun _ h => h.2)) (fun _ h => h.1)); replace HO_702002 := Aside0.mk (Kd.R_mono (Kd.R_keep (IsS113.apart (show IsS113 w0 _ g s0_0 x1001_1 from by repeat (first | (with_reducible first | exact HI0.out | apply IsS113.alloc | apply IsS113.drewN | apply IsS113.drew | apply IsS113.set_1 | refine IsS113.far ?_ NB0_695.out _ | refine IsS113.far ?_ NB0_701.out _) | exact HI0.out)) (rk HO_702002) (by decide)) hk (fun _ h => h.2)) (fun _ h => h.1)); replace BK695 := Aside0.mk (KeepBut.blk hk (g' := gb695) (o := .cells #[.int .i64 0, .slice none 0 0, .slice none 0 0] 57 (0, 0)) (bk BK695) NB695_0.out (by simp)); replace BK701 := Aside0.mk (KeepBut.blk hk (g' := gb701) (o := .cells #[.int .i64 x702000_1, u702001, .slice Ao46 x702002_1.length co46] 57 (0, 0)) (bk BK701) NB701_0.out (by simp)); replace HK := Aside0.mk (KeepBut.trans (by repeat (first | (with_reducible first | exact HK.out | apply KeepBut.set_ | apply keep_drewN | apply keep_drew | apply keep_alloc | refine keep_far ?_ GW695.out _ | refine keep_far ?_ GW701.out _) | exact HK.out)) hk (.inl rfl)); replace HB := Aside0.mk (hb); replace HI0 := Aside0.mk (hi); (try clear hb); (try clear hb2); (try clear hk); (try clear hi)) | ((with_reducible refine gate_callee (f := 59) rfl ?_); refine goesL_ (some 37) rfl rfl Try.func59 (by kernel_rfl) rfl #[.pointer (some ⟨g, 0, none⟩), .int .i64 14] rfl (by (try simp only [List.map_toArray, List.map_cons, List.map_nil]); first | done | rfl | (simp only [List.length_drop, List.length_take]; rfl)) ?_; (with_reducible refine (spec_l30Rd_pick.calls k1 g s0_0 t718 14 t719 t720 w0 _ ?side1 ?side2 A36.out).mono ?_); (case side1 => repeat (first | (with_reducible first | exact HI0.out | apply IsS113.alloc | apply IsS113.drewN | apply IsS113.drew | apply IsS113.set_1 | refine IsS113.far ?_ NB0_695.out _ | refine IsS113.far ?_ NB0_701.out _) | exact HI0.out)); (case side2 => repeat (first | (with_reducible first | exact HB.out | apply below_alloc | apply pw_below_drewN | apply below_drew1 | refine below_set ?_ (IsS113.ge HI0.out) | refine below_set ?_ GE695.out | refine below_set ?_ GE701.out) | exact HB.out)); rintro e w48 ⟨rfl, hi, hb, hk⟩; refine ⟨_, rfl, ?_⟩; replace HO_702001 := Aside0.mk (Kd.R_mono (Kd.R_keep (IsS113.apart (show IsS113 w0 _ g s0_0 t718 from by repeat (first | (with_reducible first | exact HI0.out | apply IsS113.alloc | apply IsS113.drewN | apply IsS113.drew | apply IsS113.set_1 | refine IsS113.far ?_ NB0_695.out _ | refine IsS113.far ?_ NB0_701.out _) | exact HI0.out)) (rk HO_702001) (by decide)) hk (fun _ h => h.2)) (fun _ h => h.1)); replace HO_702002 := Aside0.mk (Kd.R_mono (Kd.R_keep (IsS113.apart (show IsS113 w0 _ g s0_0 t718 from by repeat (first | (with_reducible first | exact HI0.out | apply IsS113.alloc | apply IsS113.drewN | apply IsS113.drew | apply IsS113.set_1 | refine IsS113.far ?_ NB0_695.out _ | refine IsS113.far ?_ NB0_701.out _) | exact HI0.out)) (rk HO_702002) (by decide)) hk (fun _ h => h.2)) (fun _ h => h.1)); replace BK695 := Aside0.mk (KeepBut.blk hk (g' := gb695) (o := .cells #[.int .i64 0, .slice none 0 0, .slice none 0 0] 57 (0, 0)) (bk BK695) NB695_0.out (by simp)); replace BK701 := Aside0.mk (KeepBut.blk hk (g' := gb701) (o := .cells #[.int .i64 x702000_1, u702001, .slice Ao46 x702002_1.length co46] 57 (0, 0)) (bk BK701) NB701_0.out (by simp)); replace HK := Aside0.mk (KeepBut.trans (by repeat (first | (with_reducible first | exact HK.out | apply KeepBut.set_ | apply keep_drewN | apply keep_drew | apply keep_alloc | refine keep_far ?_ GW695.out _ | refine keep_far ?_ GW701.out _) | exact HK.out)) hk (.inl rfl)); replace HB := Aside0.mk (hb); replace HI0 := Aside0.mk (hi); (try clear hb); (try clear hb2); (try clear hk); (try clear hi)))
   replace HO_702001 := Aside0.mk (Kd.R_drew HO_702001.out)
   replace HO_702002 := Aside0.mk (Kd.R_drew HO_702002.out)
   replace BK695 := Aside0.mk (blk_drew BK695.out)
   replace BK701 := Aside0.mk (blk_drew BK701.out)
   replace HI0 := Aside0.mk (IsS113.drew HI0.out)
   replace HK := Aside0.mk (keep_drew HK.out)
   replace HB := Aside0.mk (below_drew1 HB.out)
   refine start_ (n := 9) (S := fun w' => w'.cell? ⟨gb701, 0, none⟩ = some (.int .i64 x702000_1) ∧ w'.cell? ⟨gb701, 1, none⟩ = some (u702001) ∧ w'.cell? ⟨gb701, 2, none⟩ = some (.slice Ao46 x702002_1.length co46)) (ds := [8]) (ms 9 0) (by kernel_rfl) rfl (by kernel_rfl) ⟨(blk_cell BK701.out 0).trans rfl, (blk_cell BK701.out 1).trans rfl, (blk_cell BK701.out 2).trans rfl⟩ (fun hHeld => ?_); refine with_tabW spec_l30Live.tab11 spec_l30Live.bits11 (fun HT_ HW_ => ?_)
   generalize w48.drew = w49 at HO_702001 HO_702002 BK695 BK701 HI0 HK HB hHeld ⊢
   refine pu 0 40 ?_ (ms 9 1) rfl rfl HT_ (by kernel_rfl) (fun _ _ _ h => h) (by rfl) ?_ ?_ ?_ ?_
   rotate_left
   ·intro w'
    go_simp
    with_reducible rfl
   rotate_left
   ·simp only [SX]
    rfl
   refine pu 2 42 ?_ (ms 9 5) rfl rfl HT_ (by kernel_rfl) (fun _ _ _ h => h) (by rfl) ?_ ?_ ?_ ?_
   rotate_left
   ·intro w'
    go_simp
    with_reducible rfl
   rotate_left
   ·simp only [SX]
    rfl
   refine pu 3 43 ?_ (ms 9 13) rfl rfl HT_ (by kernel_rfl) (fun _ _ _ h => h) (by rfl) ?_ ?_ ?_ ?_
   rotate_left
   ·intro w'
    go_simp
    with_reducible rfl
   rotate_left
   ·simp only [SX]
    rfl
   refine tk 1 41 ?_ (ms 9 15) rfl rfl HT_ HW_ (by kernel_rfl) (fun _ _ _ h => h) (by rfl) ?_ hHeld ?_ ?_ ?_
   rotate_left
   ·rintro w' ⟨s0, s1, s2⟩
    go_simp
    with_reducible rfl
   rotate_left
   ·simp only [SX]
    rfl
   refine one_ (i := 4) (N := some 44) (ms 9 31) rfl rfl (one_of HT_.out (by kernel_rfl)) (by decide) (fun K hK => ?_)
   refine Kd.R_lit_step (Kd.int .i64) _ 3 ?hg (N := 44) ?hd (xs := ([(-2), 100] : List Int)) (inner := [.int .i64 (-2), .int .i64 100]) (ok := fun _ => True) (okp := fun _ => True) ?hr ?hp (fun _ hk => hk) trivial (Below.refl _ _) (Nat.le_refl _) (by simp) ?_; (case hd => rfl); (case hg => rfl); (case hr => first | (go_simp; done) | (go_simp; rfl)); (case hp => exact (Reps.one (show Kd.M (Kd.int .i64) _ _ _ (-2) [.int .i64 (-2)] from rfl) (Reps.one (show Kd.M (Kd.int .i64) _ _ _ 100 [.int .i64 100] from rfl) (Reps.none _ _))))
   intro v722 w50 ho51 hb hg_ hnew_
   clear hg_ hnew_
   (first | rw [← Ny721.out] at ho51 | (simp only [Int.reduceToNat] at ho51; rw [← Ny721.out] at ho51))
   replace HO_702001 := Aside0.mk (Kd.R_below (rk HO_702001) hb)
   replace HO_702002 := Aside0.mk (Kd.R_below (rk HO_702002) hb)
   have HO723 := Aside0.mk (Kd.R_lower ho51 (keep_size (w := w) (g := g) (row := none) (by repeat (first | (with_reducible first | exact HK.out | apply KeepBut.set_ | apply keep_drewN | apply keep_drew | apply keep_alloc | refine keep_far ?_ GW695.out _ | refine keep_far ?_ GW701.out _) | exact HK.out))))
   replace BK695 := Aside0.mk (blk_below (bk BK695) hb)
   replace BK701 := Aside0.mk (blk_below (bk BK701) hb)
   replace HK := Aside0.mk (KeepBut.trans (by repeat (first | (with_reducible first | exact HK.out | apply KeepBut.set_ | apply keep_drewN | apply keep_drew | apply keep_alloc | refine keep_far ?_ GW695.out _ | refine keep_far ?_ GW701.out _) | exact HK.out)) (KeepBut.of_below hb g none) (.inl rfl))
   replace HB := Aside0.mk (below_step (by repeat (first | (with_reducible first | exact HB.out | apply below_alloc | apply pw_below_drewN | apply below_drew1 | refine below_set ?_ (IsS113.ge HI0.out) | refine below_set ?_ GE695.out | refine below_set ?_ GE701.out) | exact HB.out)) hb)
   replace HI0 := Aside0.mk (IsS113.below (by repeat (first | (with_reducible first | exact HI0.out | apply IsS113.alloc | apply IsS113.drewN | apply IsS113.drew | apply IsS113.set_1 | refine IsS113.far ?_ NB0_695.out _ | refine IsS113.far ?_ NB0_701.out _) | exact HI0.out)) hb)
   clear hb ho51
   obtain ⟨Ao52, co52, eo52⟩ := Kd.R_slice HO723.out
   (first | subst eo52 | (injection eo52 with f1_ f2_ f3_; have f4_ := f1_.symm; have f5_ := f3_.symm; clear f1_ f2_ f3_; subst f4_; subst f5_))
   refine hK.out _ _ ⟨(blk_cell BK701.out 0).trans rfl, (blk_cell BK701.out 1).trans rfl, (blk_cell BK701.out 2).trans rfl⟩ (fun hHeld => ?_)
   clear hK K
   refine norm_ (a' := ?_) ?_ ?_
   rotate_left
   ·show Act.put _ (some 44) _ = _
    simp only [SX]
    rfl
   refine one_ (i := 5) (N := some 45) (ms 9 63) rfl rfl (one_of HT_.out (by kernel_rfl)) (by decide) (fun K hK => ?_)
   refine goes_ Try.func101 (by kernel_rfl) rfl #[.pointer (some ⟨g, 0, none⟩), .slice Ao52 y721.length co52] (by rfl) rfl rfl (by (try simp only [List.map_toArray, List.map_cons, List.map_nil]); first | done | rfl | (simp only [List.length_drop, List.length_take]; rfl)) ?_
   with_reducible refine (spec_l30Rd_one.calls k1 g s0_0 t720 _ _ y721 t724 t725 w0 _ ?side1 ?side2 ?side3 ?side4 ?side5 A38.out).mono ?_
   (case side1 => repeat (first | (with_reducible first | exact HI0.out | apply IsS113.alloc | apply IsS113.drewN | apply IsS113.drew | apply IsS113.set_1 | refine IsS113.far ?_ NB0_695.out _ | refine IsS113.far ?_ NB0_701.out _) | exact HI0.out))
   (case side2 => repeat (first | (with_reducible first | exact HB.out | apply below_alloc | apply pw_below_drewN | apply below_drew1 | refine below_set ?_ (IsS113.ge HI0.out) | refine below_set ?_ GE695.out | refine below_set ?_ GE701.out) | exact HB.out))
   (case side3 => repeat (first | exact (Kd.R_reads' HO723.out).2.2 | (with_reducible refine Kd.C_alloc ?_ _) | (with_reducible refine Kd.C_drewN ?_ _) | (with_reducible refine Kd.C_drew ?_)))
   (case side4 => exact (Kd.R_reads' HO723.out).2.1)
   (case side5 => exact far_slice (IsS113.own_ne HI0.out HO723.out (by decide)))
   rintro e w53 ⟨rfl, hi, hb, hk⟩
   refine ⟨_, rfl, ?_⟩
   replace HO_702001 := Aside0.mk (Kd.R_mono (Kd.R_keep (IsS113.apart (show IsS113 w0 _ g s0_0 t720 from by repeat (first | (with_reducible first | exact HI0.out | apply IsS113.alloc | apply IsS113.drewN | apply IsS113.drew | apply IsS113.set_1 | refine IsS113.far ?_ NB0_695.out _ | refine IsS113.far ?_ NB0_701.out _) | exact HI0.out)) (rk HO_702001) (by decide)) hk (fun _ h => h.2)) (fun _ h => h.1))
   replace HO_702002 := Aside0.mk (Kd.R_mono (Kd.R_keep (IsS113.apart (show IsS113 w0 _ g s0_0 t720 from by repeat (first | (with_reducible first | exact HI0.out | apply IsS113.alloc | apply IsS113.drewN | apply IsS113.drew | apply IsS113.set_1 | refine IsS113.far ?_ NB0_695.out _ | refine IsS113.far ?_ NB0_701.out _) | exact HI0.out)) (rk HO_702002) (by decide)) hk (fun _ h => h.2)) (fun _ h => h.1))
   replace BK695 := Aside0.mk (KeepBut.blk hk (g' := gb695) (o := .cells #[.int .i64 0, .slice none 0 0, .slice none 0 0] 57 (0, 0)) (bk BK695) NB695_0.out (by simp))
   replace BK701 := Aside0.mk (KeepBut.blk hk (g' := gb701) (o := .cells #[.int .i64 x702000_1, u702001, .slice Ao46 x702002_1.length co46] 57 (0, 0)) (bk BK701) NB701_0.out (by simp))
   replace HO723 := Aside0.mk (Kd.R_mono (Kd.R_keep (IsS113.apart (show IsS113 w0 _ g s0_0 t720 from by repeat (first | (with_reducible first | exact HI0.out | apply IsS113.alloc | apply IsS113.drewN | apply IsS113.drew | apply IsS113.set_1 | refine IsS113.far ?_ NB0_695.out _ | refine IsS113.far ?_ NB0_701.out _) | exact HI0.out)) (rk HO723) (by decide)) hk (fun _ h => h.2)) (fun _ h => h.1))
   replace HK := Aside0.mk (KeepBut.trans (by repeat (first | (with_reducible first | exact HK.out | apply KeepBut.set_ | apply keep_drewN | apply keep_drew | apply keep_alloc | refine keep_far ?_ GW695.out _ | refine keep_far ?_ GW701.out _) | exact HK.out)) hk (.inl rfl))
   replace HB := Aside0.mk (hb)
   replace HI0 := Aside0.mk (hi)
   (try clear hb)
   (try clear hb2)
   (try clear hk)
   (try clear hi)
   have p41 : 0 ≤ (t717 : Int) := oT (by first | (with_reducible assumption) | assumption)
   have q41 : (t717 : Int) < ((x702002_1.length : Int) : Int) := oT (by first | (with_reducible assumption) | assumption)
   obtain ⟨go41, co41, eo41, gb41, gl41, cl41, HG41⟩ := Kd.R_form HO_702002.out (by omega)
   (first | cases eo41 | (injection eo41 with ea_ en_ ec_; (first | subst ea_ | (injection ea_ with ea_; subst ea_)); subst ec_; clear en_))
   have GB41 := Aside0.mk gb41
   have GG41 := Aside0.mk HG41
   clear gb41 gl41 HG41
   obtain ⟨ce41, hcl41, hM41, hcc41, hfr41⟩ := Kd.R_elem HO_702002.out z64 (t717 : Int) p41 q41
   obtain rfl := k64_openM hM41
   have hx41_0 : World.cell? _ ⟨go41, (t717 : Int).toNat * 3, none⟩ = some (.int .i64 ((rd_T64 x702002_1 t717).f0)) := hcc41 0 _ rfl
   have hx41_1 : World.cell? _ ⟨go41, (t717 : Int).toNat * 3 + 1, none⟩ = some (.int .i64 ((rd_T64 x702002_1 t717).f1)) := hcc41 1 _ rfl
   have hx41_2 : World.cell? _ ⟨go41, (t717 : Int).toNat * 3 + 2, none⟩ = some (.int .i64 ((rd_T64 x702002_1 t717).f2)) := hcc41 2 _ rfl
   have hf41_0 : World.frozen? _ ⟨go41, (t717 : Int).toNat * 3, none⟩ = false := hfr41 0
   have hf41_1 : World.frozen? _ ⟨go41, (t717 : Int).toNat * 3 + 1, none⟩ = false := hfr41 1
   have hf41_2 : World.frozen? _ ⟨go41, (t717 : Int).toNat * 3 + 2, none⟩ = false := hfr41 2
   clear hcl41 hcc41 hfr41 hM41
   replace p41 := eq_true p41
   replace q41 := eq_true q41
   have HN0_go41 := Aside0.mk (show g ≠ go41 from by have h_ := IsS113.own_ne HI0.out HO_702002.out (by decide); intro e_; exact h_ (by rw [e_]; rfl))
   obtain ⟨ce54, hcl54, hM54, hcc54, hfr54⟩ := Kd.R_elem HO_702002.out z64 (t717 : Int) (oT (by first | (with_reducible assumption) | assumption)) (by have h_ : (t717 : Int) < ((x702002_1.length : Int) : Int) := oT (by first | (with_reducible assumption) | assumption); first | exact h_ | (have e_ := (Kd.R_reads' HO_702002.out).1; omega) | simpa using h_)
   obtain rfl := k64_openM hM54
   have HP54 := (Kd.R_seg HO_702002.out (t717 : Int) (oT (by first | (with_reducible assumption) | assumption)) (by have h_ : (t717 : Int) < ((x702002_1.length : Int) : Int) := oT (by first | (with_reducible assumption) | assumption); first | exact h_ | (have e_ := (Kd.R_reads' HO_702002.out).1; omega) | simpa using h_) (seg := [.int .i64 t724]) (j := 2) hcl54 hcc54 (show 3 ≤ 3 from by decide) (x' := (⟨(rd_T64 x702002_1 t717).f0, (rd_T64 x702002_1 t717).f1, t724⟩ : S64)) (k64_mkM _ _ _ (⟨(rd_T64 x702002_1 t717).f0, (rd_T64 x702002_1 t717).f1, t724⟩ : S64) ) (fun _ hk => hk)).1
   rw [← Ny726.out] at HP54
   have HQ54 := Aside0.mk HP54
   clear hcl54 hcc54 hfr54 hM54 HP54
   refine hK.out _ _ ⟨(blk_cell BK701.out 0).trans rfl, (blk_cell BK701.out 1).trans rfl, (blk_cell BK701.out 2).trans rfl⟩ (fun hHeld => ?_)
   clear hK K
   refine norm_ (a' := ?_) ?_ ?_
   rotate_left
   ·show Act.put _ (some 45) _ = _
    simp only [SX]
    rfl
   refine pu 6 46 ?_ (ms 9 127) rfl rfl HT_ (by kernel_rfl) (fun _ _ _ h => h) (by rfl) ?_ ?_ ?_ ?_
   rotate_left
   ·intro w'
    go_simp
    with_reducible rfl
   rotate_left
   ·simp only [SX]
    rfl
   refine pu 7 47 ?_ (ms 9 255) rfl rfl HT_ (by kernel_rfl) (fun _ _ _ h => h) (by rfl) ?_ ?_ ?_ ?_
   rotate_left
   ·intro w'
    go_simp
    with_reducible rfl
   rotate_left
   ·simp only [SX]
    rfl
   refine last_ (i := 8) (N := none) (ms 9 511) rfl rfl (one_of HT_.out (by kernel_rfl)) (by decide) (fun K hK => ?_)
   refine skip_ (w1 := ?_) (by rfl) rfl ?_ ?_
   rotate_left
   ·go_simp
    rfl
   refine hK.out _ _ ?_
   clear hK K
   refine done_ (done_of HT_.out (by kernel_rfl)) ?_
   have n0_ : Aside0 (Kd.R k31 31 (w53.setCell ⟨go41, (t717 : Int).toNat * 3 + 2, none⟩ (.int .i64 t724)) w.heap.size (fun _ => True) u702001 x702001_1) := ⟨by (with_reducible repeat (first | apply Kd.R_alloc | apply Kd.R_drewN | apply Kd.R_drew)); exact Kd.R_mono (Kd.R_far (p := ⟨go41, (t717 : Int).toNat * 3 + 2, none⟩) (Kd.R_types HO_702001.out GG41.out (by decide)) (fun _ hk => hk.2) (.int .i64 t724)) (fun _ hk => trivial)⟩
   have n1_ : Aside0 (Kd.R k64 64 (w53.setCell ⟨go41, (t717 : Int).toNat * 3 + 2, none⟩ (.int .i64 t724)) w.heap.size (fun _ => True) (.slice (some ⟨go41, 0, none⟩) x702002_1.length co46) y726) := ⟨by (with_reducible repeat (first | apply Kd.R_alloc | apply Kd.R_drewN | apply Kd.R_drew)); exact HQ54.out⟩
   have n2_ : Aside0 (Kd.R (Kd.int .i64) 3 (w53.setCell ⟨go41, (t717 : Int).toNat * 3 + 2, none⟩ (.int .i64 t724)) w.heap.size (fun _ => True) (.slice Ao52 y721.length co52) y721) := ⟨by (with_reducible repeat (first | apply Kd.R_alloc | apply Kd.R_drewN | apply Kd.R_drew)); exact Kd.R_mono (Kd.R_far (p := ⟨go41, (t717 : Int).toNat * 3 + 2, none⟩) (Kd.R_types HO723.out GG41.out (by decide)) (fun _ hk => hk.2) (.int .i64 t724)) (fun _ hk => trivial)⟩
   have n3_ : Aside0 ((w53.setCell ⟨go41, (t717 : Int).toNat * 3 + 2, none⟩ (.int .i64 t724)).heap[gb695]? = some (.cells #[.int .i64 0, .slice none 0 0, .slice none 0 0] 57 (0, 0))) := ⟨by (with_reducible repeat (first | refine blk_drewN ?_ _ | refine blk_drew ?_ | refine blk_alloc ?_ _)); refine blk_far ?_ (by have h_ := Kd.R_ne HO_702002.out BK695.out (by decide); intro e_; exact h_ (by rw [e_]; rfl)) _; (with_reducible repeat (first | refine blk_drewN ?_ _ | refine blk_drew ?_ | refine blk_alloc ?_ _)); exact BK695.out⟩
   have n4_ : Aside0 ((w53.setCell ⟨go41, (t717 : Int).toNat * 3 + 2, none⟩ (.int .i64 t724)).heap[gb701]? = some (.cells #[.int .i64 x702000_1, u702001, .slice (some ⟨go41, 0, none⟩) x702002_1.length co46] 57 (0, 0))) := ⟨by (with_reducible repeat (first | refine blk_drewN ?_ _ | refine blk_drew ?_ | refine blk_alloc ?_ _)); refine blk_far ?_ (by have h_ := Kd.R_ne HO_702002.out BK701.out (by decide); intro e_; exact h_ (by rw [e_]; rfl)) _; (with_reducible repeat (first | refine blk_drewN ?_ _ | refine blk_drew ?_ | refine blk_alloc ?_ _)); exact BK701.out⟩
   have n5_ : Aside0 (IsS113 w0 (w53.setCell ⟨go41, (t717 : Int).toNat * 3 + 2, none⟩ (.int .i64 t724)) g s0_0 t725) := ⟨by repeat (first | (with_reducible first | exact HI0.out | apply IsS113.alloc | apply IsS113.drewN | apply IsS113.drew | apply IsS113.set_1 | refine IsS113.far ?_ HN0_go41.out _ | refine IsS113.far ?_ NB0_695.out _ | refine IsS113.far ?_ NB0_701.out _) | exact HI0.out)⟩
   have n6_ : Aside0 (KeepBut w (w53.setCell ⟨go41, (t717 : Int).toNat * 3 + 2, none⟩ (.int .i64 t724)) g none) := ⟨by repeat (first | (with_reducible first | exact HK.out | apply KeepBut.set_ | apply keep_drewN | apply keep_drew | apply keep_alloc | refine keep_far ?_ GB41.out _ | refine keep_far ?_ GW695.out _ | refine keep_far ?_ GW701.out _) | exact HK.out)⟩
   have n7_ : Aside0 (Below w0.heap.size w0 (w53.setCell ⟨go41, (t717 : Int).toNat * 3 + 2, none⟩ (.int .i64 t724))) := ⟨by repeat (first | (with_reducible first | exact HB.out | apply below_alloc | apply pw_below_drewN | apply below_drew1 | refine below_set ?_ (Nat.le_trans HL.out GB41.out) | refine below_set ?_ (IsS113.ge HI0.out) | refine below_set ?_ GE695.out | refine below_set ?_ GE701.out) | exact HB.out)⟩
   (try clear HO_702001)
   (try clear HO_702002)
   (try clear HO723)
   (try clear BK695)
   (try clear BK701)
   (try clear HI0)
   (try clear HK)
   (try clear HB)
   generalize (w53.setCell ⟨go41, (t717 : Int).toNat * 3 + 2, none⟩ (.int .i64 t724)) = w55 at n0_ n1_ n2_ n3_ n4_ n5_ n6_ n7_ ⊢
   have HO_702001 := n0_
   have HO_702002 := n1_
   have HO723 := n2_
   have BK695 := n3_
   have BK701 := n4_
   have HI0 := n5_
   have HK := n6_
   have HB := n7_
   clear n0_ n1_ n2_ n3_ n4_ n5_ n6_ n7_
   have hcz56_0 := bc w55 BK701 0 (.int .i64 x702000_1) rfl
   have hcz56_1 := bc w55 BK701 1 (u702001) rfl
   have hcz56_2 := bc w55 BK701 2 (.slice (some ⟨go41, 0, none⟩) x702002_1.length co46) rfl
   have hfz56_0 := fz BK701 0
   have hfz56_1 := fz BK701 1
   have hfz56_2 := fz BK701 2
   obtain ⟨Ao57, co57, eo57⟩ := Kd.R_slice HO_702001.out
   subst eo57
   try go_wp2_with (first | ((with_reducible refine gate_callee (f := 115) rfl ?_); refine goesL_ (some 61) rfl rfl Try.func115 (by kernel_rfl) rfl #[.agg #[.int .i64 x702000_1, .slice Ao57 x702001_1.length co57, .slice (some ⟨go41, 0, none⟩) y726.length co46]] rfl (by (try simp only [List.map_toArray, List.map_cons, List.map_nil]); first | done | (rw [show y726.length = x702002_1.length from (Kd.R_reads' HO_702002.out).1.symm] <;> rfl) | rfl | (simp only [List.length_drop, List.length_take]; rfl)) ?_; (with_reducible refine (spec_l16Copy.calls x702000_1 _ _ x702001_1 _ _ y726 t727 t728 t731 _ ?side1 ?side2 ?side3 ?side4 A42.out).mono ?_); (case side1 => repeat (first | exact (Kd.R_reads' HO_702001.out).2.2 | (with_reducible refine Kd.C_alloc ?_ _) | (with_reducible refine Kd.C_drewN ?_ _) | (with_reducible refine Kd.C_drew ?_))); (case side2 => exact (Kd.R_reads' HO_702001.out).2.1); (case side3 => repeat (first | exact (Kd.R_reads' HO_702002.out).2.2 | (with_reducible refine Kd.C_alloc ?_ _) | (with_reducible refine Kd.C_drewN ?_ _) | (with_reducible refine Kd.C_drew ?_))); (case side4 => rw [show y726.length = x702002_1.length from (Kd.R_reads' HO_702002.out).1.symm]; exact (Kd.R_reads' HO_702002.out).2.1); rintro e w58 ⟨v729, v732, rfl, ho0, ho1, hb⟩; refine ⟨_, rfl, ?_⟩; replace HO723 := Aside0.mk (Kd.R_below (rk HO723) hb); have HO730 := Aside0.mk (Kd.R_lower (Kd.R_new' ho0 (Kd.R_lt (rk HO_702001))) (keep_size (w := w) (g := g) (row := none) (by repeat (first | (with_reducible first | exact HK.out | apply KeepBut.set_ | apply keep_drewN | apply keep_drew | apply keep_alloc | refine keep_far ?_ GW695.out _ | refine keep_far ?_ GW701.out _) | exact HK.out)))); replace HO_702001 := Aside0.mk (Kd.R_elder' (rk HO_702001) (Kd.R_base ho0) hb); have HO733 := Aside0.mk (Kd.R_lower (Kd.R_new' ho1 (Kd.R_lt (rk HO_702002))) (keep_size (w := w) (g := g) (row := none) (by repeat (first | (with_reducible first | exact HK.out | apply KeepBut.set_ | apply keep_drewN | apply keep_drew | apply keep_alloc | refine keep_far ?_ GW695.out _ | refine keep_far ?_ GW701.out _) | exact HK.out)))); replace HO_702002 := Aside0.mk (Kd.R_elder' (rk HO_702002) (Kd.R_base ho1) hb); replace BK695 := Aside0.mk (blk_below (bk BK695) hb); replace BK701 := Aside0.mk (blk_below (bk BK701) hb); replace HK := Aside0.mk (KeepBut.trans (by repeat (first | (with_reducible first | exact HK.out | apply KeepBut.set_ | apply keep_drewN | apply keep_drew | apply keep_alloc | refine keep_far ?_ GW695.out _ | refine keep_far ?_ GW701.out _) | exact HK.out)) (KeepBut.of_below hb g none) (.inl rfl)); replace HB := Aside0.mk (below_step (by repeat (first | (with_reducible first | exact HB.out | apply below_alloc | apply pw_below_drewN | apply below_drew1 | refine below_set ?_ (IsS113.ge HI0.out) | refine below_set ?_ GE695.out | refine below_set ?_ GE701.out) | exact HB.out)) hb); replace HI0 := Aside0.mk (IsS113.below (by repeat (first | (with_reducible first | exact HI0.out | apply IsS113.alloc | apply IsS113.drewN | apply IsS113.drew | apply IsS113.set_1 | refine IsS113.far ?_ NB0_695.out _ | refine IsS113.far ?_ NB0_701.out _) | exact HI0.out)) hb); (try clear hb); (try clear hb2); (try clear hk); (try clear hi); (try clear ho0); (try clear ho1); have hnb59 := NB695_0.out; have hnc59 := NB0_695.out; have hcz60_0 := bc w58 BK695 0 (.int .i64 0) rfl; have hcz60_1 := bc w58 BK695 1 (.slice none 0 0) rfl; have hcz60_2 := bc w58 BK695 2 (.slice none 0 0) rfl; have hfz60_0 := fz BK695 0; have hfz60_1 := fz BK695 1; have hfz60_2 := fz BK695 2; obtain ⟨Ao61, co61, eo61⟩ := Kd.R_slice HO730.out; subst eo61; obtain ⟨Ao62, co62, eo62⟩ := Kd.R_slice HO733.out; subst eo62))
   refine bodyPost_ret (results_cell_row rfl _ _ gb695 57 #[.int .i64 t727, .slice Ao61 t728.length co61, .slice Ao62 t731.length co62] (0, 0) _ rfl (by (with_reducible repeat (first | refine blk_drewN ?_ _ | refine blk_drew ?_ | refine blk_alloc ?_ _)); refine blk_put (cs := #[.int .i64 t727, .slice Ao61 t728.length co61, .slice none 0 0]) ?_ 2 _ rfl; refine blk_put (cs := #[.int .i64 t727, .slice none 0 0, .slice none 0 0]) ?_ 1 _ rfl; refine blk_put (cs := #[.int .i64 0, .slice none 0 0, .slice none 0 0]) ?_ 0 _ rfl; (with_reducible repeat (first | refine blk_drewN ?_ _ | refine blk_drew ?_ | refine blk_alloc ?_ _)); exact BK695.out) Try.underlying57 rfl (by kernel_rfl)) rfl ?_
   exact ⟨_, _, by first | rfl | (simp [errW_none, errW_some] <;> rfl) | (simp [*, errW_none, errW_some] <;> rfl), by (with_reducible repeat (first | apply Kd.R_alloc | apply Kd.R_drewN | apply Kd.R_drew)); exact Kd.R_mono (Kd.R_far (p := ⟨gb695, 2, none⟩) (Kd.R_far (p := ⟨gb695, 1, none⟩) (Kd.R_far (p := ⟨gb695, 0, none⟩) (Kd.R_types HO730.out BK695.out (by decide)) (fun _ hk => hk.2) (.int .i64 t727)) (fun _ hk => hk.2) (.slice Ao61 t728.length co61)) (fun _ hk => hk.2) (.slice Ao62 t731.length co62)) (fun _ hk => trivial), by (with_reducible repeat (first | apply Kd.R_alloc | apply Kd.R_drewN | apply Kd.R_drew)); exact Kd.R_mono (Kd.R_far (p := ⟨gb695, 2, none⟩) (Kd.R_far (p := ⟨gb695, 1, none⟩) (Kd.R_far (p := ⟨gb695, 0, none⟩) (Kd.R_types HO733.out BK695.out (by decide)) (fun _ hk => hk.2) (.int .i64 t727)) (fun _ hk => hk.2) (.slice Ao61 t728.length co61)) (fun _ hk => hk.2) (.slice Ao62 t731.length co62)) (fun _ hk => trivial), by repeat (first | (with_reducible first | exact HI0.out | apply IsS113.alloc | apply IsS113.drewN | apply IsS113.drew | apply IsS113.set_1 | refine IsS113.far ?_ NB0_695.out _ | refine IsS113.far ?_ NB0_701.out _) | exact HI0.out), by repeat (first | (with_reducible first | exact HB.out | apply below_alloc | apply pw_below_drewN | apply below_drew1 | refine below_set ?_ (IsS113.ge HI0.out) | refine below_set ?_ GE695.out | refine below_set ?_ GE701.out) | exact HB.out), by repeat (first | (with_reducible first | exact HK.out | apply KeepBut.set_ | apply keep_drewN | apply keep_drew | apply keep_alloc | refine keep_far ?_ GW695.out _ | refine keep_far ?_ GW701.out _) | exact HK.out)⟩
  rw [if_neg c37] at H
  have c37b0 : (t719 == 0) = false := beq_eq_false_iff_ne.mpr c37
  have c37b1 : (t719 != 0) = true := bne_iff_ne.mpr c37
  by_cases c63 : t719 = 1
  rotate_left
  ·rw [if_neg c63] at H
   have c63b0 : (t719 == 1) = false := beq_eq_false_iff_ne.mpr c63
   have c63b1 : (t719 != 1) = true := bne_iff_ne.mpr c63
   replace H := Option.bind_eq_some_iff.mp H
   obtain ⟨⟨t745, t746, t749⟩, A850, H⟩ := H
   have A85 := Aside0.mk A850
   clear A850
   simp only [Option.some.injEq, Prod.mk.injEq] at H
   obtain ⟨rfl, rfl, rfl, rfl⟩ := H
   have hnb86 := NB701_695.out
   have hnc86 := NB695_701.out
   have hnb87 := NB701_0.out
   have hnc87 := NB0_701.out
   have hcz88_0 := bc wr BK701 0 (.int .i64 x702000_1) rfl
   have hcz88_1 := bc wr BK701 1 (u702001) rfl
   have hcz88_2 := bc wr BK701 2 (u702002) rfl
   have hfz88_0 := fz BK701 0
   have hfz88_1 := fz BK701 1
   have hfz88_2 := fz BK701 2
   obtain ⟨Ao89, co89, eo89⟩ := Kd.R_slice HO_702002.out
   subst eo89
   go_wp2_with (first | ((with_reducible refine gate_callee (f := 59) rfl ?_); refine goesL_ (some 35) rfl rfl Try.func59 (by kernel_rfl) rfl #[.pointer (some ⟨g, 0, none⟩), .int .i64 (x702002_1.length : Int)] rfl (by (try simp only [List.map_toArray, List.map_cons, List.map_nil]); first | done | rfl | (simp only [List.length_drop, List.length_take]; rfl)) ?_; (with_reducible refine (spec_l30Rd_pick.calls k1 g s0_0 x1001_1 (x702002_1.length : Int) t717 t718 w0 _ ?side1 ?side2 A35.out).mono ?_); (case side1 => repeat (first | (with_reducible first | exact HI0.out | apply IsS113.alloc | apply IsS113.drewN | apply IsS113.drew | apply IsS113.set_1 | refine IsS113.far ?_ NB0_695.out _ | refine IsS113.far ?_ NB0_701.out _) | exact HI0.out)); (case side2 => repeat (first | (with_reducible first | exact HB.out | apply below_alloc | apply pw_below_drewN | apply below_drew1 | refine below_set ?_ (IsS113.ge HI0.out) | refine below_set ?_ GE695.out | refine below_set ?_ GE701.out) | exact HB.out)); rintro e w90 ⟨rfl, hi, hb, hk⟩; refine ⟨_, rfl, ?_⟩; replace HO_702001 := Aside0.mk (Kd.R_mono (Kd.R_keep (IsS113.apart (show IsS113 w0 _ g s0_0 x1001_1 from by repeat (first | (with_reducible first | exact HI0.out | apply IsS113.alloc | apply IsS113.drewN | apply IsS113.drew | apply IsS113.set_1 | refine IsS113.far ?_ NB0_695.out _ | refine IsS113.far ?_ NB0_701.out _) | exact HI0.out)) (rk HO_702001) (by decide)) hk (fun _ h => h.2)) (fun _ h => h.1)); replace HO_702002 := Aside0.mk (Kd.R_mono (Kd.R_keep (IsS113.apart (show IsS113 w0 _ g s0_0 x1001_1 from by repeat (first | (with_reducible first | exact HI0.out | apply IsS113.alloc | apply IsS113.drewN | apply IsS113.drew | apply IsS113.set_1 | refine IsS113.far ?_ NB0_695.out _ | refine IsS113.far ?_ NB0_701.out _) | exact HI0.out)) (rk HO_702002) (by decide)) hk (fun _ h => h.2)) (fun _ h => h.1)); replace BK695 := Aside0.mk (KeepBut.blk hk (g' := gb695) (o := .cells #[.int .i64 0, .slice none 0 0, .slice none 0 0] 57 (0, 0)) (bk BK695) NB695_0.out (by simp)); replace BK701 := Aside0.mk (KeepBut.blk hk (g' := gb701) (o := .cells #[.int .i64 x702000_1, u702001, .slice Ao89 x702002_1.length co89] 57 (0, 0)) (bk BK701) NB701_0.out (by simp)); replace HK := Aside0.mk (KeepBut.trans (by repeat (first | (with_reducible first | exact HK.out | apply KeepBut.set_ | apply keep_drewN | apply keep_drew | apply keep_alloc | refine keep_far ?_ GW695.out _ | refine keep_far ?_ GW701.out _) | exact HK.out)) hk (.inl rfl)); replace HB := Aside0.mk (hb); replace HI0 := Aside0.mk (hi); (try clear hb); (try clear hb2); (try clear hk); (try clear hi)) | ((with_reducible refine gate_callee (f := 59) rfl ?_); refine goesL_ (some 37) rfl rfl Try.func59 (by kernel_rfl) rfl #[.pointer (some ⟨g, 0, none⟩), .int .i64 14] rfl (by (try simp only [List.map_toArray, List.map_cons, List.map_nil]); first | done | rfl | (simp only [List.length_drop, List.length_take]; rfl)) ?_; (with_reducible refine (spec_l30Rd_pick.calls k1 g s0_0 t718 14 t719 t720 w0 _ ?side1 ?side2 A36.out).mono ?_); (case side1 => repeat (first | (with_reducible first | exact HI0.out | apply IsS113.alloc | apply IsS113.drewN | apply IsS113.drew | apply IsS113.set_1 | refine IsS113.far ?_ NB0_695.out _ | refine IsS113.far ?_ NB0_701.out _) | exact HI0.out)); (case side2 => repeat (first | (with_reducible first | exact HB.out | apply below_alloc | apply pw_below_drewN | apply below_drew1 | refine below_set ?_ (IsS113.ge HI0.out) | refine below_set ?_ GE695.out | refine below_set ?_ GE701.out) | exact HB.out)); rintro e w91 ⟨rfl, hi, hb, hk⟩; refine ⟨_, rfl, ?_⟩; replace HO_702001 := Aside0.mk (Kd.R_mono (Kd.R_keep (IsS113.apart (show IsS113 w0 _ g s0_0 t718 from by repeat (first | (with_reducible first | exact HI0.out | apply IsS113.alloc | apply IsS113.drewN | apply IsS113.drew | apply IsS113.set_1 | refine IsS113.far ?_ NB0_695.out _ | refine IsS113.far ?_ NB0_701.out _) | exact HI0.out)) (rk HO_702001) (by decide)) hk (fun _ h => h.2)) (fun _ h => h.1)); replace HO_702002 := Aside0.mk (Kd.R_mono (Kd.R_keep (IsS113.apart (show IsS113 w0 _ g s0_0 t718 from by repeat (first | (with_reducible first | exact HI0.out | apply IsS113.alloc | apply IsS113.drewN | apply IsS113.drew | apply IsS113.set_1 | refine IsS113.far ?_ NB0_695.out _ | refine IsS113.far ?_ NB0_701.out _) | exact HI0.out)) (rk HO_702002) (by decide)) hk (fun _ h => h.2)) (fun _ h => h.1)); replace BK695 := Aside0.mk (KeepBut.blk hk (g' := gb695) (o := .cells #[.int .i64 0, .slice none 0 0, .slice none 0 0] 57 (0, 0)) (bk BK695) NB695_0.out (by simp)); replace BK701 := Aside0.mk (KeepBut.blk hk (g' := gb701) (o := .cells #[.int .i64 x702000_1, u702001, .slice Ao89 x702002_1.length co89] 57 (0, 0)) (bk BK701) NB701_0.out (by simp)); replace HK := Aside0.mk (KeepBut.trans (by repeat (first | (with_reducible first | exact HK.out | apply KeepBut.set_ | apply keep_drewN | apply keep_drew | apply keep_alloc | refine keep_far ?_ GW695.out _ | refine keep_far ?_ GW701.out _) | exact HK.out)) hk (.inl rfl)); replace HB := Aside0.mk (hb); replace HI0 := Aside0.mk (hi); (try clear hb); (try clear hb2); (try clear hk); (try clear hi); have hcz92_0 := bc w91 BK701 0 (.int .i64 x702000_1) rfl; have hcz92_1 := bc w91 BK701 1 (u702001) rfl; have hcz92_2 := bc w91 BK701 2 (.slice Ao89 x702002_1.length co89) rfl; have hfz92_0 := fz BK701 0; have hfz92_1 := fz BK701 1; have hfz92_2 := fz BK701 2; obtain ⟨Ao93, co93, eo93⟩ := Kd.R_slice HO_702001.out; subst eo93) | ((with_reducible refine gate_callee (f := 115) rfl ?_); refine goesL_ (some 61) rfl rfl Try.func115 (by kernel_rfl) rfl #[.agg #[.int .i64 x702000_1, .slice Ao93 x702001_1.length co93, .slice Ao89 x702002_1.length co89]] rfl (by (try simp only [List.map_toArray, List.map_cons, List.map_nil]); first | done | rfl | (simp only [List.length_drop, List.length_take]; rfl)) ?_; (with_reducible refine (spec_l16Copy.calls x702000_1 _ _ x702001_1 _ _ x702002_1 t745 t746 t749 _ ?side1 ?side2 ?side3 ?side4 A85.out).mono ?_); (case side1 => repeat (first | exact (Kd.R_reads' HO_702001.out).2.2 | (with_reducible refine Kd.C_alloc ?_ _) | (with_reducible refine Kd.C_drewN ?_ _) | (with_reducible refine Kd.C_drew ?_))); (case side2 => exact (Kd.R_reads' HO_702001.out).2.1); (case side3 => repeat (first | exact (Kd.R_reads' HO_702002.out).2.2 | (with_reducible refine Kd.C_alloc ?_ _) | (with_reducible refine Kd.C_drewN ?_ _) | (with_reducible refine Kd.C_drew ?_))); (case side4 => exact (Kd.R_reads' HO_702002.out).2.1); rintro e w94 ⟨v747, v750, rfl, ho0, ho1, hb⟩; refine ⟨_, rfl, ?_⟩; have HO748 := Aside0.mk (Kd.R_lower (Kd.R_new' ho0 (Kd.R_lt (rk HO_702001))) (keep_size (w := w) (g := g) (row := none) (by repeat (first | (with_reducible first | exact HK.out | apply KeepBut.set_ | apply keep_drewN | apply keep_drew | apply keep_alloc | refine keep_far ?_ GW695.out _ | refine keep_far ?_ GW701.out _) | exact HK.out)))); replace HO_702001 := Aside0.mk (Kd.R_elder' (rk HO_702001) (Kd.R_base ho0) hb); have HO751 := Aside0.mk (Kd.R_lower (Kd.R_new' ho1 (Kd.R_lt (rk HO_702002))) (keep_size (w := w) (g := g) (row := none) (by repeat (first | (with_reducible first | exact HK.out | apply KeepBut.set_ | apply keep_drewN | apply keep_drew | apply keep_alloc | refine keep_far ?_ GW695.out _ | refine keep_far ?_ GW701.out _) | exact HK.out)))); replace HO_702002 := Aside0.mk (Kd.R_elder' (rk HO_702002) (Kd.R_base ho1) hb); replace BK695 := Aside0.mk (blk_below (bk BK695) hb); replace BK701 := Aside0.mk (blk_below (bk BK701) hb); replace HK := Aside0.mk (KeepBut.trans (by repeat (first | (with_reducible first | exact HK.out | apply KeepBut.set_ | apply keep_drewN | apply keep_drew | apply keep_alloc | refine keep_far ?_ GW695.out _ | refine keep_far ?_ GW701.out _) | exact HK.out)) (KeepBut.of_below hb g none) (.inl rfl)); replace HB := Aside0.mk (below_step (by repeat (first | (with_reducible first | exact HB.out | apply below_alloc | apply pw_below_drewN | apply below_drew1 | refine below_set ?_ (IsS113.ge HI0.out) | refine below_set ?_ GE695.out | refine below_set ?_ GE701.out) | exact HB.out)) hb); replace HI0 := Aside0.mk (IsS113.below (by repeat (first | (with_reducible first | exact HI0.out | apply IsS113.alloc | apply IsS113.drewN | apply IsS113.drew | apply IsS113.set_1 | refine IsS113.far ?_ NB0_695.out _ | refine IsS113.far ?_ NB0_701.out _) | exact HI0.out)) hb); (try clear hb); (try clear hb2); (try clear hk); (try clear hi); (try clear ho0); (try clear ho1); have hnb95 := NB695_0.out; have hnc95 := NB0_695.out; have hcz96_0 := bc w94 BK695 0 (.int .i64 0) rfl; have hcz96_1 := bc w94 BK695 1 (.slice none 0 0) rfl; have hcz96_2 := bc w94 BK695 2 (.slice none 0 0) rfl; have hfz96_0 := fz BK695 0; have hfz96_1 := fz BK695 1; have hfz96_2 := fz BK695 2; obtain ⟨Ao97, co97, eo97⟩ := Kd.R_slice HO748.out; subst eo97; obtain ⟨Ao98, co98, eo98⟩ := Kd.R_slice HO751.out; subst eo98))
   refine bodyPost_ret (results_cell_row rfl _ _ gb695 57 #[.int .i64 t745, .slice Ao97 t746.length co97, .slice Ao98 t749.length co98] (0, 0) _ rfl (by (with_reducible repeat (first | refine blk_drewN ?_ _ | refine blk_drew ?_ | refine blk_alloc ?_ _)); refine blk_put (cs := #[.int .i64 t745, .slice Ao97 t746.length co97, .slice none 0 0]) ?_ 2 _ rfl; refine blk_put (cs := #[.int .i64 t745, .slice none 0 0, .slice none 0 0]) ?_ 1 _ rfl; refine blk_put (cs := #[.int .i64 0, .slice none 0 0, .slice none 0 0]) ?_ 0 _ rfl; (with_reducible repeat (first | refine blk_drewN ?_ _ | refine blk_drew ?_ | refine blk_alloc ?_ _)); exact BK695.out) Try.underlying57 rfl (by kernel_rfl)) rfl ?_
   exact ⟨_, _, by first | rfl | (simp [errW_none, errW_some] <;> rfl) | (simp [*, errW_none, errW_some] <;> rfl), by (with_reducible repeat (first | apply Kd.R_alloc | apply Kd.R_drewN | apply Kd.R_drew)); exact Kd.R_mono (Kd.R_far (p := ⟨gb695, 2, none⟩) (Kd.R_far (p := ⟨gb695, 1, none⟩) (Kd.R_far (p := ⟨gb695, 0, none⟩) (Kd.R_types HO748.out BK695.out (by decide)) (fun _ hk => hk.2) (.int .i64 t745)) (fun _ hk => hk.2) (.slice Ao97 t746.length co97)) (fun _ hk => hk.2) (.slice Ao98 t749.length co98)) (fun _ hk => trivial), by (with_reducible repeat (first | apply Kd.R_alloc | apply Kd.R_drewN | apply Kd.R_drew)); exact Kd.R_mono (Kd.R_far (p := ⟨gb695, 2, none⟩) (Kd.R_far (p := ⟨gb695, 1, none⟩) (Kd.R_far (p := ⟨gb695, 0, none⟩) (Kd.R_types HO751.out BK695.out (by decide)) (fun _ hk => hk.2) (.int .i64 t745)) (fun _ hk => hk.2) (.slice Ao97 t746.length co97)) (fun _ hk => hk.2) (.slice Ao98 t749.length co98)) (fun _ hk => trivial), by repeat (first | (with_reducible first | exact HI0.out | apply IsS113.alloc | apply IsS113.drewN | apply IsS113.drew | apply IsS113.set_1 | refine IsS113.far ?_ NB0_695.out _ | refine IsS113.far ?_ NB0_701.out _) | exact HI0.out), by repeat (first | (with_reducible first | exact HB.out | apply below_alloc | apply pw_below_drewN | apply below_drew1 | refine below_set ?_ (IsS113.ge HI0.out) | refine below_set ?_ GE695.out | refine below_set ?_ GE701.out) | exact HB.out), by repeat (first | (with_reducible first | exact HK.out | apply KeepBut.set_ | apply keep_drewN | apply keep_drew | apply keep_alloc | refine keep_far ?_ GW695.out _ | refine keep_far ?_ GW701.out _) | exact HK.out)⟩
  rw [if_pos c63] at H
  have c63b0 : (t719 == 1) = true := beq_iff_eq.mpr c63
  have c63b1 : (t719 != 1) = false := bne_eq_false_iff_eq.mpr c63
  clear c63
  by_cases c64 : 0 ≤ t717
  rotate_left
  ·rw [if_neg c64] at H
   exact absurd H (by simp)
  rw [if_pos c64] at H
  have c64b0 : decide (0 ≤ t717) = true := decide_eq_true c64
  clear c64
  by_cases c65 : t717 < (x702002_1.length : Int)
  rotate_left
  ·rw [if_neg c65] at H
   exact absurd H (by simp)
  rw [if_pos c65] at H
  have c65b0 : decide (t717 < (x702002_1.length : Int)) = true := decide_eq_true c65
  clear c65
  by_cases c66 : x702002_1.length < 5864062014805
  rotate_left
  ·rw [if_neg c66] at H
   exact absurd H (by simp)
  rw [if_pos c66] at H
  have LMc66 := Aside0.mk c66
  clear c66
  obtain ⟨y735, hy735⟩ : ∃ y_ : List (S64), y_ = (x702002_1 ++ [(⟨(rd_T64 x702002_1 t717).f0, (rd_T64 x702002_1 t717).f1, (rd_T64 x702002_1 t717).f2⟩ : S64)]) := ⟨_, rfl⟩
  replace H : ((spec_l16Copy.f x702000_1 x702001_1 y735).bind fun bt738 => (some (bt738.1, bt738.2.1, bt738.2.2, t720))) = some (r1, r2, r3, r4) := by first | (rw [hy735]; with_reducible exact H) | (have H2_ := (Option.bind_some _ _).symm.trans H; rw [hy735]; with_reducible exact H2_) | (have H2_ := (Option.bind_some _ _).symm.trans H; with_reducible exact H2_) | with_reducible exact H | (rw [hy735]; exact H) | exact H
  have Ny735 := Aside0.mk hy735
  clear hy735
  replace H := Option.bind_eq_some_iff.mp H
  obtain ⟨⟨t738, t739, t742⟩, A670, H⟩ := H
  have A67 := Aside0.mk A670
  clear A670
  simp only [Option.some.injEq, Prod.mk.injEq] at H
  obtain ⟨rfl, rfl, rfl, rfl⟩ := H
  have hnb68 := NB701_695.out
  have hnc68 := NB695_701.out
  have hnb69 := NB701_0.out
  have hnc69 := NB0_701.out
  have hcz70_0 := bc wr BK701 0 (.int .i64 x702000_1) rfl
  have hcz70_1 := bc wr BK701 1 (u702001) rfl
  have hcz70_2 := bc wr BK701 2 (u702002) rfl
  have hfz70_0 := fz BK701 0
  have hfz70_1 := fz BK701 1
  have hfz70_2 := fz BK701 2
  obtain ⟨Ao71, co71, eo71⟩ := Kd.R_slice HO_702002.out
  subst eo71
  try go_wp2_with (first | ((with_reducible refine gate_callee (f := 59) rfl ?_); refine goesL_ (some 35) rfl rfl Try.func59 (by kernel_rfl) rfl #[.pointer (some ⟨g, 0, none⟩), .int .i64 (x702002_1.length : Int)] rfl (by (try simp only [List.map_toArray, List.map_cons, List.map_nil]); first | done | rfl | (simp only [List.length_drop, List.length_take]; rfl)) ?_; (with_reducible refine (spec_l30Rd_pick.calls k1 g s0_0 x1001_1 (x702002_1.length : Int) t717 t718 w0 _ ?side1 ?side2 A35.out).mono ?_); (case side1 => repeat (first | (with_reducible first | exact HI0.out | apply IsS113.alloc | apply IsS113.drewN | apply IsS113.drew | apply IsS113.set_1 | refine IsS113.far ?_ NB0_695.out _ | refine IsS113.far ?_ NB0_701.out _) | exact HI0.out)); (case side2 => repeat (first | (with_reducible first | exact HB.out | apply below_alloc | apply pw_below_drewN | apply below_drew1 | refine below_set ?_ (IsS113.ge HI0.out) | refine below_set ?_ GE695.out | refine below_set ?_ GE701.out) | exact HB.out)); rintro e w72 ⟨rfl, hi, hb, hk⟩; refine ⟨_, rfl, ?_⟩; replace HO_702001 := Aside0.mk (Kd.R_mono (Kd.R_keep (IsS113.apart (show IsS113 w0 _ g s0_0 x1001_1 from by repeat (first | (with_reducible first | exact HI0.out | apply IsS113.alloc | apply IsS113.drewN | apply IsS113.drew | apply IsS113.set_1 | refine IsS113.far ?_ NB0_695.out _ | refine IsS113.far ?_ NB0_701.out _) | exact HI0.out)) (rk HO_702001) (by decide)) hk (fun _ h => h.2)) (fun _ h => h.1)); replace HO_702002 := Aside0.mk (Kd.R_mono (Kd.R_keep (IsS113.apart (show IsS113 w0 _ g s0_0 x1001_1 from by repeat (first | (with_reducible first | exact HI0.out | apply IsS113.alloc | apply IsS113.drewN | apply IsS113.drew | apply IsS113.set_1 | refine IsS113.far ?_ NB0_695.out _ | refine IsS113.far ?_ NB0_701.out _) | exact HI0.out)) (rk HO_702002) (by decide)) hk (fun _ h => h.2)) (fun _ h => h.1)); replace BK695 := Aside0.mk (KeepBut.blk hk (g' := gb695) (o := .cells #[.int .i64 0, .slice none 0 0, .slice none 0 0] 57 (0, 0)) (bk BK695) NB695_0.out (by simp)); replace BK701 := Aside0.mk (KeepBut.blk hk (g' := gb701) (o := .cells #[.int .i64 x702000_1, u702001, .slice Ao71 x702002_1.length co71] 57 (0, 0)) (bk BK701) NB701_0.out (by simp)); replace HK := Aside0.mk (KeepBut.trans (by repeat (first | (with_reducible first | exact HK.out | apply KeepBut.set_ | apply keep_drewN | apply keep_drew | apply keep_alloc | refine keep_far ?_ GW695.out _ | refine keep_far ?_ GW701.out _) | exact HK.out)) hk (.inl rfl)); replace HB := Aside0.mk (hb); replace HI0 := Aside0.mk (hi); (try clear hb); (try clear hb2); (try clear hk); (try clear hi)) | ((with_reducible refine gate_callee (f := 59) rfl ?_); refine goesL_ (some 37) rfl rfl Try.func59 (by kernel_rfl) rfl #[.pointer (some ⟨g, 0, none⟩), .int .i64 14] rfl (by (try simp only [List.map_toArray, List.map_cons, List.map_nil]); first | done | rfl | (simp only [List.length_drop, List.length_take]; rfl)) ?_; (with_reducible refine (spec_l30Rd_pick.calls k1 g s0_0 t718 14 t719 t720 w0 _ ?side1 ?side2 A36.out).mono ?_); (case side1 => repeat (first | (with_reducible first | exact HI0.out | apply IsS113.alloc | apply IsS113.drewN | apply IsS113.drew | apply IsS113.set_1 | refine IsS113.far ?_ NB0_695.out _ | refine IsS113.far ?_ NB0_701.out _) | exact HI0.out)); (case side2 => repeat (first | (with_reducible first | exact HB.out | apply below_alloc | apply pw_below_drewN | apply below_drew1 | refine below_set ?_ (IsS113.ge HI0.out) | refine below_set ?_ GE695.out | refine below_set ?_ GE701.out) | exact HB.out)); rintro e w73 ⟨rfl, hi, hb, hk⟩; refine ⟨_, rfl, ?_⟩; replace HO_702001 := Aside0.mk (Kd.R_mono (Kd.R_keep (IsS113.apart (show IsS113 w0 _ g s0_0 t718 from by repeat (first | (with_reducible first | exact HI0.out | apply IsS113.alloc | apply IsS113.drewN | apply IsS113.drew | apply IsS113.set_1 | refine IsS113.far ?_ NB0_695.out _ | refine IsS113.far ?_ NB0_701.out _) | exact HI0.out)) (rk HO_702001) (by decide)) hk (fun _ h => h.2)) (fun _ h => h.1)); replace HO_702002 := Aside0.mk (Kd.R_mono (Kd.R_keep (IsS113.apart (show IsS113 w0 _ g s0_0 t718 from by repeat (first | (with_reducible first | exact HI0.out | apply IsS113.alloc | apply IsS113.drewN | apply IsS113.drew | apply IsS113.set_1 | refine IsS113.far ?_ NB0_695.out _ | refine IsS113.far ?_ NB0_701.out _) | exact HI0.out)) (rk HO_702002) (by decide)) hk (fun _ h => h.2)) (fun _ h => h.1)); replace BK695 := Aside0.mk (KeepBut.blk hk (g' := gb695) (o := .cells #[.int .i64 0, .slice none 0 0, .slice none 0 0] 57 (0, 0)) (bk BK695) NB695_0.out (by simp)); replace BK701 := Aside0.mk (KeepBut.blk hk (g' := gb701) (o := .cells #[.int .i64 x702000_1, u702001, .slice Ao71 x702002_1.length co71] 57 (0, 0)) (bk BK701) NB701_0.out (by simp)); replace HK := Aside0.mk (KeepBut.trans (by repeat (first | (with_reducible first | exact HK.out | apply KeepBut.set_ | apply keep_drewN | apply keep_drew | apply keep_alloc | refine keep_far ?_ GW695.out _ | refine keep_far ?_ GW701.out _) | exact HK.out)) hk (.inl rfl)); replace HB := Aside0.mk (hb); replace HI0 := Aside0.mk (hi); (try clear hb); (try clear hb2); (try clear hk); (try clear hi)))
  replace HO_702001 := Aside0.mk (Kd.R_drew HO_702001.out)
  replace HO_702002 := Aside0.mk (Kd.R_drew HO_702002.out)
  replace BK695 := Aside0.mk (blk_drew BK695.out)
  replace BK701 := Aside0.mk (blk_drew BK701.out)
  replace HI0 := Aside0.mk (IsS113.drew HI0.out)
  replace HK := Aside0.mk (keep_drew HK.out)
  replace HB := Aside0.mk (below_drew1 HB.out)
  have p734 : 0 ≤ (t717 : Int) := oT (by first | (with_reducible assumption) | assumption)
  have q734 : t717 < (x702002_1.length : Int) := oT (by first | (with_reducible assumption) | assumption)
  obtain ⟨ad734, e734, hx734_0, hx734_1, hx734_2⟩ := at_T64 (Kd.R_reads' HO_702002.out).2.2 t717 p734 q734
  cases e734
  replace p734 := eq_true p734
  replace q734 := eq_true q734
  refine start_ (n := 11) (S := fun w' => w'.cell? ⟨gb701, 0, none⟩ = some (.int .i64 x702000_1) ∧ w'.cell? ⟨gb701, 1, none⟩ = some (u702001) ∧ w'.cell? ⟨gb701, 2, none⟩ = some (.slice (some ad734) x702002_1.length co71) ∧ w'.cell? (ad734.add ((t717).toNat * 3)) = some (.int .i64 ((rd_T64 x702002_1 t717).f0)) ∧ w'.cell? ⟨(ad734.add ((t717).toNat * 3)).block, (ad734.add ((t717).toNat * 3)).off + 1, none⟩ = some (.int .i64 ((rd_T64 x702002_1 t717).f1)) ∧ w'.cell? ⟨(ad734.add ((t717).toNat * 3)).block, (ad734.add ((t717).toNat * 3)).off + 2, none⟩ = some (.int .i64 ((rd_T64 x702002_1 t717).f2))) (ds := [8, 10]) (ms 11 0) (by kernel_rfl) rfl (by kernel_rfl) ⟨(blk_cell BK701.out 0).trans rfl, (blk_cell BK701.out 1).trans rfl, (blk_cell BK701.out 2).trans rfl, hx734_0, hx734_1, hx734_2⟩ (fun hHeld => ?_); refine with_tabW spec_l30Live.tab13 spec_l30Live.bits13 (fun HT_ HW_ => ?_)
  generalize w73.drew = w74 at HO_702001 HO_702002 BK695 BK701 HI0 HK HB hx734_0 hx734_1 hx734_2 hHeld ⊢
  refine pu 0 50 ?_ (ms 11 1) rfl rfl HT_ (by kernel_rfl) (fun _ _ _ h => h) (by rfl) ?_ ?_ ?_ ?_
  rotate_left
  ·intro w'
   go_simp
   with_reducible rfl
  rotate_left
  ·simp only [SX]
   rfl
  refine pu 2 52 ?_ (ms 11 5) rfl rfl HT_ (by kernel_rfl) (fun _ _ _ h => h) (by rfl) ?_ ?_ ?_ ?_
  rotate_left
  ·intro w'
   go_simp
   with_reducible rfl
  rotate_left
  ·simp only [SX]
   rfl
  refine pu 4 54 ?_ (ms 11 21) rfl rfl HT_ (by kernel_rfl) (fun _ _ _ h => h) (by rfl) ?_ ?_ ?_ ?_
  rotate_left
  ·intro w'
   go_simp
   with_reducible rfl
  rotate_left
  ·simp only [SX]
   rfl
  refine tk 1 51 ?_ (ms 11 23) rfl rfl HT_ HW_ (by kernel_rfl) (fun _ _ _ h => h) (by rfl) ?_ hHeld ?_ ?_ ?_
  rotate_left
  ·rintro w' ⟨s0, s1, s2, s3, s4, s5⟩
   go_simp
   with_reducible rfl
  rotate_left
  ·simp only [SX]
   rfl
  refine tk 3 53 ?_ (ms 11 31) rfl rfl HT_ HW_ (by kernel_rfl) (fun _ _ _ h => h) (by rfl) ?_ hHeld ?_ ?_ ?_
  rotate_left
  ·rintro w' ⟨s0, s1, s2, s3, s4, s5⟩
   go_simp
   with_reducible rfl
  rotate_left
  ·simp only [SX]
   rfl
  refine pu 5 55 ?_ (ms 11 63) rfl rfl HT_ (by kernel_rfl) (fun _ _ _ h => h) (by rfl) ?_ ?_ ?_ ?_
  rotate_left
  ·intro w'
   go_simp
   with_reducible rfl
  rotate_left
  ·simp only [SX]
   rfl
  refine tk 6 56 ?_ (ms 11 127) rfl rfl HT_ HW_ (by kernel_rfl) (fun _ _ _ h => h) (by rfl) ?_ hHeld ?_ ?_ ?_
  rotate_left
  ·rintro w' ⟨s0, s1, s2, s3, s4, s5⟩
   go_simp
   with_reducible rfl
  rotate_left
  ·simp only [SX]
   rfl
  refine one_ (i := 7) (N := some 57) (ms 11 255) rfl rfl (one_of HT_.out (by kernel_rfl)) (by decide) (fun K hK => ?_)
  refine value_ (w1 := ?_) (v := ?_) (by rfl) rfl ?_ ?_
  rotate_left 2
  ·go_simp
   constructor
   rotate_left
   ·rfl
   rfl
  refine hK.out _ _ ⟨(blk_cell (blk_alloc BK701.out _) 0).trans rfl, (blk_cell (blk_alloc BK701.out _) 1).trans rfl, (blk_cell (blk_alloc BK701.out _) 2).trans rfl, (World.cell?_alloc_lt _ _ _ (World.block_lt_of_cell? _ _ (hHeld.2.2.2.1))).trans (hHeld.2.2.2.1), (World.cell?_alloc_lt _ _ _ (World.block_lt_of_cell? _ _ (hHeld.2.2.2.2.1))).trans (hHeld.2.2.2.2.1), (World.cell?_alloc_lt _ _ _ (World.block_lt_of_cell? _ _ (hHeld.2.2.2.2.2))).trans (hHeld.2.2.2.2.2)⟩ (fun hHeld => ?_)
  clear hK K
  refine norm_ (a' := ?_) ?_ ?_
  rotate_left
  ·show Act.put _ (some 57) _ = _
   simp only [SX]
   rfl
  refine last_ (i := 8) (N := some 58) (ms 11 511) rfl rfl (one_of HT_.out (by kernel_rfl)) (by decide) (fun K hK => ?_)
  refine Kd.R_append_step k64 w.heap.size (by rfl) (.tmp 51) (.tmp 57) 55 64 (.agg #[(.int .i64 0), (.int .i64 0), (.int .i64 0)]) 24 rfl Try.underlying55 info64 rfl (by decide) (by omega) (.slice (some ad734) x702002_1.length co71) x702002_1 (⟨(rd_T64 x702002_1 t717).f0, (rd_T64 x702002_1 t717).f1, (rd_T64 x702002_1 t717).f2⟩ : S64) [.int .i64 ((rd_T64 x702002_1 t717).f0), .int .i64 ((rd_T64 x702002_1 t717).f1), .int .i64 ((rd_T64 x702002_1 t717).f2)] (fun _ => True) (fun _ => False) rfl rfl ?aP (fun _ hk => hk.elim) ?aF ?aO (Below.refl _ _) ?aS ?aL ?_
  (case aP => exact k64_mkM _ _ _ (⟨(rd_T64 x702002_1 t717).f0, (rd_T64 x702002_1 t717).f1, (rd_T64 x702002_1 t717).f2⟩ : S64))
  (case aF => exact (fun _ _ => trivial))
  (case aO => exact (rk HO_702002))
  (case aS => exact (keep_size (w := w) (g := g) (row := none) (by repeat (first | (with_reducible first | exact HK.out | apply KeepBut.set_ | apply keep_drewN | apply keep_drew | apply keep_alloc | refine keep_far ?_ GW695.out _ | refine keep_far ?_ GW701.out _) | exact HK.out))))
  (case aL => have := LMc66.out; omega)
  intro v736 w75 ho hb hg hat
  rw [← Ny735.out] at ho
  have n0_ := Aside0.mk (Kd.R_over' (rk HO_702001) (Kd.R_typed (rk HO_702002)) (by decide) hg)
  have n1_ := Aside0.mk (blk_grown (bk BK695) hg (Kd.R_ne HO_702002.out BK695.out (by decide)))
  have n2_ := Aside0.mk (blk_grown (bk BK701) hg (Kd.R_ne HO_702002.out BK701.out (by decide)))
  have n3_ := Aside0.mk (IsS113.grown (by repeat (first | (with_reducible first | exact HI0.out | apply IsS113.alloc | apply IsS113.drewN | apply IsS113.drew | apply IsS113.set_1 | refine IsS113.far ?_ NB0_695.out _ | refine IsS113.far ?_ NB0_701.out _) | exact HI0.out)) hg (IsS113.own_ne HI0.out HO_702002.out (by decide)))
  have n4_ := Aside0.mk (below_weaken (by repeat (first | (with_reducible first | exact HB.out | apply below_alloc | apply pw_below_drewN | apply below_drew1 | refine below_set ?_ (IsS113.ge HI0.out) | refine below_set ?_ GE695.out | refine below_set ?_ GE701.out) | exact HB.out)) HL.out hb)
  have n5_ := Aside0.mk (KeepBut.trans (by repeat (first | (with_reducible first | exact HK.out | apply KeepBut.set_ | apply keep_drewN | apply keep_drew | apply keep_alloc | refine keep_far ?_ GW695.out _ | refine keep_far ?_ GW701.out _) | exact HK.out)) (KeepBut.of_grown hg g) (Kd.R_base2 HO_702002.out))
  have n6_ := Aside0.mk (ho)
  clear HO_702001
  clear BK695
  clear BK701
  clear HI0
  clear HB
  clear HK
  clear HO_702002
  have HO_702001 := n0_
  have BK695 := n1_
  have BK701 := n2_
  have HI0 := n3_
  have HB := n4_
  have HK := n5_
  have HO737 := n6_
  clear n0_ n1_ n2_ n3_ n4_ n5_ n6_
  clear ho hb hg hat
  obtain ⟨Ao76, co76, eo76⟩ := Kd.R_slice HO737.out
  (first | subst eo76 | (injection eo76 with f1_ f2_ f3_; have f4_ := f1_.symm; have f5_ := f3_.symm; clear f1_ f2_ f3_; subst f4_; subst f5_))
  refine hK.out _ _ ?_
  clear hK K
  refine norm_ (a' := ?_) ?_ ?_
  rotate_left
  ·show Act.put _ (some 58) _ = _
   simp only [SX]
   rfl
  refine pu 9 59 ?_ (ms 11 1023) rfl rfl HT_ (by kernel_rfl) (fun _ _ _ h => h) (by rfl) ?_ ?_ ?_ ?_
  rotate_left
  ·intro w'
   go_simp
   with_reducible rfl
  rotate_left
  ·simp only [SX]
   rfl
  refine last_ (i := 10) (N := none) (ms 11 2047) rfl rfl (one_of HT_.out (by kernel_rfl)) (by decide) (fun K hK => ?_)
  have hs77 : w75.cell? ⟨gb701, 2, none⟩ = some (.slice (some ad734) x702002_1.length co71) := (blk_cell BK701.out 2).trans rfl
  have hfs77 := blk_frozen BK701.out 2
  have hns77_0 := NB695_701.out
  have hms77_0 := NB701_695.out
  refine skip_ (w1 := ?_) (by rfl) rfl ?_ ?_
  rotate_left
  ·go_simp
   rfl
  refine hK.out _ _ ?_
  clear hK K
  refine done_ (done_of HT_.out (by kernel_rfl)) ?_
  have hcz78_0 := bc w75 BK701 0 (.int .i64 x702000_1) rfl
  have hcz78_1 := bc w75 BK701 1 (u702001) rfl
  have hcz78_2 := bc w75 BK701 2 (.slice (some ad734) x702002_1.length co71) rfl
  have hfz78_0 := fz BK701 0
  have hfz78_1 := fz BK701 1
  have hfz78_2 := fz BK701 2
  obtain ⟨Ao79, co79, eo79⟩ := Kd.R_slice HO_702001.out
  subst eo79
  try go_wp2_with (first | ((with_reducible refine gate_callee (f := 115) rfl ?_); refine goesL_ (some 61) rfl rfl Try.func115 (by kernel_rfl) rfl #[.agg #[.int .i64 x702000_1, .slice Ao79 x702001_1.length co79, .slice Ao76 y735.length co76]] rfl (by (try simp only [List.map_toArray, List.map_cons, List.map_nil]); first | done | rfl | (simp only [List.length_drop, List.length_take]; rfl)) ?_; (with_reducible refine (spec_l16Copy.calls x702000_1 _ _ x702001_1 _ _ y735 t738 t739 t742 _ ?side1 ?side2 ?side3 ?side4 A67.out).mono ?_); (case side1 => refine (Kd.R_reads' (e := 31) (base := w.heap.size) (ok := fun k_ => True) (n := x702001_1.length) (c := co79) ?_).2.2; exact (by (with_reducible repeat (first | apply Kd.R_alloc | apply Kd.R_drewN | apply Kd.R_drew)); exact (Kd.R_mono (Kd.R_far (p := ⟨gb701, 2, none⟩) (Kd.R_types HO_702001.out BK701.out (by decide)) (fun _ hk => hk.2) (.slice Ao76 y735.length co76)) (fun _ h_ => h_.1)))); (case side2 => exact (Kd.R_reads' HO_702001.out).2.1); (case side3 => refine (Kd.R_reads' (e := 64) (base := w.heap.size) (ok := fun k_ => True) (n := y735.length) (c := co76) ?_).2.2; exact (by (with_reducible repeat (first | apply Kd.R_alloc | apply Kd.R_drewN | apply Kd.R_drew)); exact (Kd.R_mono (Kd.R_far (p := ⟨gb701, 2, none⟩) (Kd.R_types HO737.out BK701.out (by decide)) (fun _ hk => hk.2) (.slice Ao76 y735.length co76)) (fun _ h_ => h_.1)))); (case side4 => exact (Kd.R_reads' HO737.out).2.1); rintro e w80 ⟨v740, v743, rfl, ho0, ho1, hb⟩; refine ⟨_, rfl, ?_⟩; have HO741 := Aside0.mk (Kd.R_lower (Kd.R_new' ho0 (Kd.R_lt (by (with_reducible repeat (first | apply Kd.R_alloc | apply Kd.R_drewN | apply Kd.R_drew)); exact (Kd.R_mono (Kd.R_far (p := ⟨gb701, 2, none⟩) (Kd.R_types HO_702001.out BK701.out (by decide)) (fun _ hk => hk.2) (.slice Ao76 y735.length co76)) (fun _ h_ => h_.1))))) (keep_size (w := w) (g := g) (row := none) (by repeat (first | (with_reducible first | exact HK.out | apply KeepBut.set_ | apply keep_drewN | apply keep_drew | apply keep_alloc | refine keep_far ?_ GW695.out _ | refine keep_far ?_ GW701.out _) | exact HK.out)))); replace HO_702001 := Aside0.mk (Kd.R_elder' (by (with_reducible repeat (first | apply Kd.R_alloc | apply Kd.R_drewN | apply Kd.R_drew)); exact (Kd.R_mono (Kd.R_far (p := ⟨gb701, 2, none⟩) (Kd.R_types HO_702001.out BK701.out (by decide)) (fun _ hk => hk.2) (.slice Ao76 y735.length co76)) (fun _ h_ => h_.1))) (Kd.R_base ho0) hb); have HO744 := Aside0.mk (Kd.R_lower (Kd.R_new' ho1 (Kd.R_lt (by (with_reducible repeat (first | apply Kd.R_alloc | apply Kd.R_drewN | apply Kd.R_drew)); exact (Kd.R_mono (Kd.R_far (p := ⟨gb701, 2, none⟩) (Kd.R_types HO737.out BK701.out (by decide)) (fun _ hk => hk.2) (.slice Ao76 y735.length co76)) (fun _ h_ => h_.1))))) (keep_size (w := w) (g := g) (row := none) (by repeat (first | (with_reducible first | exact HK.out | apply KeepBut.set_ | apply keep_drewN | apply keep_drew | apply keep_alloc | refine keep_far ?_ GW695.out _ | refine keep_far ?_ GW701.out _) | exact HK.out)))); replace HO737 := Aside0.mk (Kd.R_elder' (by (with_reducible repeat (first | apply Kd.R_alloc | apply Kd.R_drewN | apply Kd.R_drew)); exact (Kd.R_mono (Kd.R_far (p := ⟨gb701, 2, none⟩) (Kd.R_types HO737.out BK701.out (by decide)) (fun _ hk => hk.2) (.slice Ao76 y735.length co76)) (fun _ h_ => h_.1))) (Kd.R_base ho1) hb); replace BK695 := Aside0.mk (blk_below (g := gb695) (o := .cells #[.int .i64 0, .slice none 0 0, .slice none 0 0] 57 (0, 0)) (by (with_reducible repeat (first | refine blk_drewN ?_ _ | refine blk_drew ?_ | refine blk_alloc ?_ _)); refine blk_far ?_ NB695_701.out _; (with_reducible repeat (first | refine blk_drewN ?_ _ | refine blk_drew ?_ | refine blk_alloc ?_ _)); exact BK695.out) hb); replace BK701 := Aside0.mk (blk_below (g := gb701) (o := .cells #[.int .i64 x702000_1, .slice Ao79 x702001_1.length co79, .slice Ao76 y735.length co76] 57 (0, 0)) (by (with_reducible repeat (first | refine blk_drewN ?_ _ | refine blk_drew ?_ | refine blk_alloc ?_ _)); refine blk_put (cs := #[.int .i64 x702000_1, .slice Ao79 x702001_1.length co79, .slice (some ad734) x702002_1.length co71]) ?_ 2 _ rfl; (with_reducible repeat (first | refine blk_drewN ?_ _ | refine blk_drew ?_ | refine blk_alloc ?_ _)); exact BK701.out) hb); replace HK := Aside0.mk (KeepBut.trans (by repeat (first | (with_reducible first | exact HK.out | apply KeepBut.set_ | apply keep_drewN | apply keep_drew | apply keep_alloc | refine keep_far ?_ GW695.out _ | refine keep_far ?_ GW701.out _) | exact HK.out)) (KeepBut.of_below hb g none) (.inl rfl)); replace HB := Aside0.mk (below_step (by repeat (first | (with_reducible first | exact HB.out | apply below_alloc | apply pw_below_drewN | apply below_drew1 | refine below_set ?_ (IsS113.ge HI0.out) | refine below_set ?_ GE695.out | refine below_set ?_ GE701.out) | exact HB.out)) hb); replace HI0 := Aside0.mk (IsS113.below (show IsS113 w0 (w75.setCell ⟨gb701, 2, none⟩ (.slice Ao76 y735.length co76)) g s0_0 t720 from by repeat (first | (with_reducible first | exact HI0.out | apply IsS113.alloc | apply IsS113.drewN | apply IsS113.drew | apply IsS113.set_1 | refine IsS113.far ?_ NB0_695.out _ | refine IsS113.far ?_ NB0_701.out _) | exact HI0.out)) hb); (try clear hb); (try clear hb2); (try clear hk); (try clear hi); (try clear ho0); (try clear ho1); have hnb81 := NB695_0.out; have hnc81 := NB0_695.out; have hcz82_0 := bc w80 BK695 0 (.int .i64 0) rfl; have hcz82_1 := bc w80 BK695 1 (.slice none 0 0) rfl; have hcz82_2 := bc w80 BK695 2 (.slice none 0 0) rfl; have hfz82_0 := fz BK695 0; have hfz82_1 := fz BK695 1; have hfz82_2 := fz BK695 2; obtain ⟨Ao83, co83, eo83⟩ := Kd.R_slice HO741.out; subst eo83; obtain ⟨Ao84, co84, eo84⟩ := Kd.R_slice HO744.out; subst eo84))
  refine bodyPost_ret (results_cell_row rfl _ _ gb695 57 #[.int .i64 t738, .slice Ao83 t739.length co83, .slice Ao84 t742.length co84] (0, 0) _ rfl (by (with_reducible repeat (first | refine blk_drewN ?_ _ | refine blk_drew ?_ | refine blk_alloc ?_ _)); refine blk_put (cs := #[.int .i64 t738, .slice Ao83 t739.length co83, .slice none 0 0]) ?_ 2 _ rfl; refine blk_put (cs := #[.int .i64 t738, .slice none 0 0, .slice none 0 0]) ?_ 1 _ rfl; refine blk_put (cs := #[.int .i64 0, .slice none 0 0, .slice none 0 0]) ?_ 0 _ rfl; (with_reducible repeat (first | refine blk_drewN ?_ _ | refine blk_drew ?_ | refine blk_alloc ?_ _)); exact BK695.out) Try.underlying57 rfl (by kernel_rfl)) rfl ?_
  exact ⟨_, _, by first | rfl | (simp [errW_none, errW_some] <;> rfl) | (simp [*, errW_none, errW_some] <;> rfl), by (with_reducible repeat (first | apply Kd.R_alloc | apply Kd.R_drewN | apply Kd.R_drew)); exact Kd.R_mono (Kd.R_far (p := ⟨gb695, 2, none⟩) (Kd.R_far (p := ⟨gb695, 1, none⟩) (Kd.R_far (p := ⟨gb695, 0, none⟩) (Kd.R_types HO741.out BK695.out (by decide)) (fun _ hk => hk.2) (.int .i64 t738)) (fun _ hk => hk.2) (.slice Ao83 t739.length co83)) (fun _ hk => hk.2) (.slice Ao84 t742.length co84)) (fun _ hk => trivial), by (with_reducible repeat (first | apply Kd.R_alloc | apply Kd.R_drewN | apply Kd.R_drew)); exact Kd.R_mono (Kd.R_far (p := ⟨gb695, 2, none⟩) (Kd.R_far (p := ⟨gb695, 1, none⟩) (Kd.R_far (p := ⟨gb695, 0, none⟩) (Kd.R_types HO744.out BK695.out (by decide)) (fun _ hk => hk.2) (.int .i64 t738)) (fun _ hk => hk.2) (.slice Ao83 t739.length co83)) (fun _ hk => hk.2) (.slice Ao84 t742.length co84)) (fun _ hk => trivial), by repeat (first | (with_reducible first | exact HI0.out | apply IsS113.alloc | apply IsS113.drewN | apply IsS113.drew | apply IsS113.set_1 | refine IsS113.far ?_ NB0_695.out _ | refine IsS113.far ?_ NB0_701.out _) | exact HI0.out), by repeat (first | (with_reducible first | exact HB.out | apply below_alloc | apply pw_below_drewN | apply below_drew1 | refine below_set ?_ (IsS113.ge HI0.out) | refine below_set ?_ GE695.out | refine below_set ?_ GE701.out) | exact HB.out), by repeat (first | (with_reducible first | exact HK.out | apply KeepBut.set_ | apply keep_drewN | apply keep_drew | apply keep_alloc | refine keep_far ?_ GW695.out _ | refine keep_far ?_ GW701.out _) | exact HK.out)⟩

end Go.Proofs.Ythgihpbpebbebaa.F
