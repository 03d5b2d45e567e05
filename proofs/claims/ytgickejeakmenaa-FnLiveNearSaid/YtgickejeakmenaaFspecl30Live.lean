-- Printed by wip/px/px.py of this claim's repository (the kit's printer, extended there). Lean checks it.
import Derived.Test.YtgickejeakmenaaFKinds
import Derived.Test.YtgickejeakmenaaFspecl30Open
import Derived.Test.YtgickejeakmenaaFspecl30Rdpick
import Derived.Test.YtgickejeakmenaaFspecl30Rdone
import Derived.Test.YtgickejeakmenaaFspecl30Net
import Derived.Test.YtgickejeakmenaaFspecl16Copy
import Derived.Test.YtgickejeakmenaaFspecLiveTell
import Derived.Test.YtgickejeakmenaaFspecl30News
namespace Go.Proofs.Ytgickejeakmenaa.F
open Go.RowKit Go.Proofs.YtgickejeakmenaaW.PrintWords Go.Proofs.YtgickejeakmenaaW.PrintLast Go.Proofs.YtgickejeakmenaaW.PrintMore
attribute [local go_sem] max2_int min2_int max_two min_two max_three min_three max_four min_four   -- for this text's walks alone
set_option linter.unusedVariables false
set_option linter.unusedSimpArgs false

/-! ### spec_l30Live: function 70 -/
def spec_l30Live.l0 : Nat → Int → List Int → Int → Int → List (S41) → List (S113) → Option (Int × (List (S41)) × (List (S113)) × Int)
 | 0, _, _, _, _, _, _ => none
 | k + 1, x4, x1000, x1001, x703000, x703001, x703002 => if x4 > 0 then ((spec_l30News.f k x1000 x1001 x703000 x703001).bind fun bt705 => ((spec_LiveTell.f k x703000 x703001 x703002 bt705.1 bt705.2.1 bt705.2.2.1).bind fun bt709 => (spec_l30Live.l0 k (wrap64 (x4 - 1)) x1000 bt705.2.2.2 bt709.1 bt709.2.1 bt709.2.2.1))) else (if (x703002.length : Int) > 0 then ((spec_l30Rd_pick.f k x1000 x1001 (x703002.length : Int)).bind fun bt718 => ((spec_l30Rd_pick.f k x1000 bt718.2 14).bind fun bt720 => (if bt720.1 = 0 then ((spec_l30Rd_one.f k x1000 bt720.2 (([(-2), 100] : List Int))).bind fun bt725 => (if 0 ≤ bt718.1 then (if bt718.1 < (x703002.length : Int) then ((spec_l16Copy.f x703000 x703001 (x703002.set (bt718.1 : Int).toNat (⟨(rd_T113 x703002 bt718.1).f0, (rd_T113 x703002 bt718.1).f1, bt725.1⟩ : S113))).bind fun bt728 => (some (bt728.1, bt728.2.1, bt728.2.2, bt725.2))) else (none)) else (none))) else (if bt720.1 = 1 then (if 0 ≤ bt718.1 then (if bt718.1 < (x703002.length : Int) then (if x703002.length < 5864062014805 then ((spec_l16Copy.f x703000 x703001 (x703002 ++ [(⟨(rd_T113 x703002 bt718.1).f0, (rd_T113 x703002 bt718.1).f1, (rd_T113 x703002 bt718.1).f2⟩ : S113)])).bind fun bt739 => (some (bt739.1, bt739.2.1, bt739.2.2, bt720.2))) else (none)) else (none)) else (none)) else ((spec_l16Copy.f x703000 x703001 x703002).bind fun bt746 => (some (bt746.1, bt746.2.1, bt746.2.2, bt720.2))))))) else ((spec_l16Copy.f x703000 x703001 x703002).bind fun bt753 => (some (bt753.1, bt753.2.1, bt753.2.2, x1001))))
def spec_l30Live.f (k : Nat) (s0_0 : List Int) (s0_1 : Int) : Option (Int × (List (S41)) × (List (S113)) × Int) := (spec_l30Net.f k s0_0 s0_1).bind fun bt697 => ((spec_l30Rd_pick.f k s0_0 bt697.2.2 7).bind fun bt703 => (spec_l30Live.l0 k bt703.1 s0_0 bt703.2 bt697.1 bt697.2.1 ([] : List (S113))))
theorem spec_l30Live.mono_l : ∀ k, (∀ y0 y1 y2 y3 y4 y5, LeO (spec_l30Live.l0 k y0 y1 y2 y3 y4 y5) (spec_l30Live.l0 (k + 1) y0 y1 y2 y3 y4 y5))
 | 0 => fun _ _ _ _ _ _ r h => by simp [spec_l30Live.l0] at h
 | k + 1 => by
  have ih0 := spec_l30Live.mono_l k
  ·intro y0 y1 y2 y3 y4 y5
   unfold spec_l30Live.l0
   repeat' first | (with_reducible exact ih0 _ _ _ _ _ _) | (with_reducible exact spec_LiveTell.mono _ _ _ _ _ _ _) | (with_reducible exact spec_l30News.mono _ _ _ _ _) | (with_reducible exact spec_l30Rd_one.mono _ _ _ _) | (with_reducible exact spec_l30Rd_pick.mono _ _ _ _) | (with_reducible exact LeO.refl _) | (with_reducible refine LeO.ite ?_ ?_) | (with_reducible refine LeO.bind ?_ (fun _ => ?_))
theorem spec_l30Live.mono : ∀ a0 a1 k, LeO (spec_l30Live.f k a0 a1) (spec_l30Live.f (k + 1) a0 a1) := by
 intro a0 a1 k
 have ih0 := spec_l30Live.mono_l k
 unfold spec_l30Live.f
 repeat' first | (with_reducible exact ih0 _ _ _ _ _ _) | (with_reducible exact spec_l30Net.mono _ _ _) | (with_reducible exact spec_l30Rd_pick.mono _ _ _ _) | (with_reducible refine LeO.bind ?_ (fun _ => ?_))
def spec_l30Live.T5 : Bool × List (List Nat × List Nat) := (true, [([], []), ([], []), ([], []), ([2], [2]), ([1, 3], [1, 3]), ([0, 4, 4], [0, 4]), ([5], [5]), ([6], [6]), ([6], [6]), ([], []), ([9, 7, 5, 0, 1, 2, 3, 4, 5, 6, 7, 9], [7, 9]), ([8, 10, 0, 1, 2, 3, 4, 5, 6, 7, 8, 9, 10], [8])])
def spec_l30Live.B5 : List Nat := [0, 0, 0, 4, 14, 31, 63, 127, 127, 0, 767, 2047]
theorem spec_l30Live.tab5 : rtab .any (opsOf Try.f70 5) = spec_l30Live.T5 := by kernel_rfl
theorem spec_l30Live.bits5 : waitsOk spec_l30Live.T5.2 spec_l30Live.B5 = true := by kernel_rfl
def spec_l30Live.T11 : Bool × List (List Nat × List Nat) := (true, [([], []), ([0], [0]), ([], []), ([], []), ([], []), ([3, 4], [3, 4]), ([1, 2, 0, 1, 2, 3, 4, 5], [1, 2]), ([6, 0, 1, 2, 3, 4, 5], [6]), ([7, 5, 5, 0, 1, 2, 3, 4, 5], [5, 7])])
def spec_l30Live.B11 : List Nat := [0, 1, 0, 0, 0, 24, 63, 127, 255]
theorem spec_l30Live.tab11 : rtab .any (opsOf Try.f70 11) = spec_l30Live.T11 := by kernel_rfl
theorem spec_l30Live.bits11 : waitsOk spec_l30Live.T11.2 spec_l30Live.B11 = true := by kernel_rfl
def spec_l30Live.T13 : Bool × List (List Nat × List Nat) := (true, [([], []), ([0], [0]), ([], []), ([2], [2]), ([], []), ([3, 4], [3, 4]), ([5], [5]), ([6], [6]), ([1, 7], [1, 7]), ([0, 1, 2, 3, 4, 5, 6, 7, 8], []), ([9, 8, 8, 0, 1, 2, 3, 4, 5, 6, 7, 8], [8, 9])])
def spec_l30Live.B13 : List Nat := [0, 1, 0, 4, 0, 28, 60, 124, 255, 511, 1023]
theorem spec_l30Live.tab13 : rtab .any (opsOf Try.f70 13) = spec_l30Live.T13 := by kernel_rfl
theorem spec_l30Live.bits13 : waitsOk spec_l30Live.T13.2 spec_l30Live.B13 = true := by kernel_rfl
set_option maxHeartbeats 8000000 in
set_option maxRecDepth 100000 in
theorem spec_l30Live.calls (k : Nat) (g : Nat) (s0_0 : List Int) (s0_1 : Int) (r1 : Int) (r2 : List (S41)) (r3 : List (S113)) (r4 : Int) (w0 w : World) (hI : IsS99 w0 w g s0_0 s0_1) (hB : Below w0.heap.size w0 w) (h : spec_l30Live.f k s0_0 s0_1 = some (r1, r2, r3, r4)) :
  Calls Try.prog 70 #[.pointer (some ⟨g, 0, none⟩)] w fun e w' => ∃ v1_ v2_ : Value, e = .returned (.agg #[.int .i64 r1, v1_, v2_]) ∧ Kd.R k41 41 w' w.heap.size (fun _ => True) v1_ r2 ∧ Kd.R k113 113 w' w.heap.size (fun _ => True) v2_ r3 ∧ IsS99 w0 w' g s0_0 r4 ∧ Below w0.heap.size w0 w' ∧ KeepBut w w' g none := by
 have hu44 := Try.underlying44
 have hu25 := Try.underlying25
 have hu113 := Try.underlying113
 have HI0 := ak hI
 have HK := ak (KeepBut.refl w g none)
 have HL := ak hB.size
 clear hI
 have HW0 := ak hB.size
 have HB := ak hB
 clear hB
 have H : ((spec_l30Net.f k s0_0 s0_1).bind fun bt697 => ((spec_l30Rd_pick.f k s0_0 bt697.2.2 7).bind fun bt703 => (spec_l30Live.l0 k bt703.1 s0_0 bt703.2 bt697.1 bt697.2.1 ([] : List (S113))))) = some (r1, r2, r3, r4) := h
 clear h
 replace H := Option.bind_eq_some_iff.mp H
 obtain ⟨⟨t697, t698, t701⟩, A20, H⟩ := H
 have A2 := ak A20
 clear A20
 replace H := Option.bind_eq_some_iff.mp H
 obtain ⟨⟨t703, t704⟩, A30, H⟩ := H
 have A3 := ak A30
 clear A30
 have H' := ak H
 clear H
 go_enter Try.func70, Try.ntmps70
 go_wp2_with (first | ((with_reducible refine gate_dst (N := 2) rfl ?_); refine box_event ?hg (N := 2) ?hd (cs := #[.int .i64 0, .slice none 0 0, .slice none 0 0]) (t := 44) ?hr ?_; (case hd => rfl); (case hg => rfl); (case hr => (go_simp; done)); intro gb696 hg w4 hbox hb; replace HB := ak (below_step (by repeat ((with_reducible exact HB.out))) hb); have BK696 := ak (hbox); have GW696 := ak ((by rw [hg]; exact (keep_size (w := w) (g := g) (row := none) (by repeat ((with_reducible exact HK.out)))) : w.heap.size ≤ gb696)); have GE696 := ak ((Nat.le_trans HW0.out (by rw [hg]; exact (keep_size (w := w) (g := g) (row := none) (by repeat ((with_reducible exact HK.out)))) : w.heap.size ≤ gb696) : w0.heap.size ≤ gb696)); replace HK := ak (KeepBut.trans (by repeat ((with_reducible exact HK.out))) (KeepBut.of_below hb g none) (.inl rfl)); have NB0_696 := ak ((by rw [hg]; exact Nat.ne_of_lt (IsS99.lt (show IsS99 w0 _ g s0_0 s0_1 from by repeat ((with_reducible exact HI0.out)))) : g ≠ gb696)); have NB696_0 := ak ((by rw [hg]; exact Nat.ne_of_gt (IsS99.lt (show IsS99 w0 _ g s0_0 s0_1 from by repeat ((with_reducible exact HI0.out)))) : gb696 ≠ g)); replace HI0 := ak (IsS99.below (by repeat ((with_reducible exact HI0.out))) hb); clear hb hbox hg) | ((with_reducible refine gate_callee (f := 101) rfl ?_); refine goesL_ (some 9) rfl rfl Try.func101 (by kernel_rfl) rfl #[.pointer (some ⟨g, 0, none⟩)] rfl (by (try simp only [List.map_toArray, List.map_cons, List.map_nil]); rfl) ?_; (with_reducible refine (spec_l30Net.calls k g s0_0 s0_1 t697 t698 t701 w0 _ ?side1 ?side2 A2.out).mono ?_); (case side1 => repeat ((with_reducible exact HI0.out))); (case side2 => repeat ((with_reducible exact HB.out))); rintro e w5 ⟨v699, rfl, ho0, hi, hb, hk⟩; refine ⟨_, rfl, ?_⟩; replace BK696 := ak (KeepBut.blk hk (g' := gb696) (o := .cells #[.int .i64 0, .slice none 0 0, .slice none 0 0] 44 (0, 0)) (bk BK696) NB696_0.out (by simp)); have HO700 := ak (Kd.R_lower ho0 (keep_size (w := w) (g := g) (row := none) (by repeat ((with_reducible exact HK.out))))); replace HK := ak (KeepBut.trans (by repeat ((with_reducible exact HK.out))) hk (.inl rfl)); replace HB := ak (hb); replace HI0 := ak (hi); (try clear hb); (try clear hb2); (try clear hk); (try clear hi); (try clear ho0); obtain ⟨Ao6, co6, eo6⟩ := Kd.R_slice HO700.out; subst eo6) | ((with_reducible refine gate_dst (N := 3) rfl ?_); refine box_event ?hg (N := 3) ?hd (cs := #[.int .i64 0, .slice none 0 0, .slice none 0 0]) (t := 44) ?hr ?_; (case hd => rfl); (case hg => rfl); (case hr => (go_simp; done)); intro gb702 hg w7 hbox hb; replace HO700 := ak (Kd.R_below (rk HO700) hb); replace HB := ak (below_step (by repeat ((with_reducible exact HB.out))) hb); have BK702 := ak (hbox); have GW702 := ak ((by rw [hg]; exact (keep_size (w := w) (g := g) (row := none) (by repeat ((with_reducible exact HK.out)))) : w.heap.size ≤ gb702)); have GE702 := ak ((Nat.le_trans HW0.out (by rw [hg]; exact (keep_size (w := w) (g := g) (row := none) (by repeat ((with_reducible exact HK.out)))) : w.heap.size ≤ gb702) : w0.heap.size ≤ gb702)); replace HK := ak (KeepBut.trans (by repeat ((with_reducible exact HK.out))) (KeepBut.of_below hb g none) (.inl rfl)); have NB696_702 := ak ((by rw [hg]; exact Nat.ne_of_lt (blk_lt (bk BK696)) : gb696 ≠ gb702)); have NB702_696 := ak ((by rw [hg]; exact Nat.ne_of_gt (blk_lt (bk BK696)) : gb702 ≠ gb696)); replace BK696 := ak (blk_below (bk BK696) hb); have NB0_702 := ak ((by rw [hg]; exact Nat.ne_of_lt (IsS99.lt (show IsS99 w0 _ g s0_0 t701 from by repeat ((with_reducible exact HI0.out)))) : g ≠ gb702)); have NB702_0 := ak ((by rw [hg]; exact Nat.ne_of_gt (IsS99.lt (show IsS99 w0 _ g s0_0 t701 from by repeat ((with_reducible exact HI0.out)))) : gb702 ≠ g)); replace HI0 := ak (IsS99.below (by repeat ((with_reducible exact HI0.out))) hb); clear hb hbox hg; have hnb8 := NB702_696.out; have hnc8 := NB696_702.out; have hnb9 := NB702_0.out; have hnc9 := NB0_702.out; have hcz10_0 := bc w7 BK702 0 (.int .i64 0) rfl; have hcz10_1 := bc w7 BK702 1 (.slice none 0 0) rfl; have hcz10_2 := bc w7 BK702 2 (.slice none 0 0) rfl; have hfz10_0 := fz BK702 0; have hfz10_1 := fz BK702 1; have hfz10_2 := fz BK702 2) | ((with_reducible refine gate_callee (f := 102) rfl ?_); refine goesL_ (some 12) rfl rfl Try.func102 (by kernel_rfl) rfl #[.pointer (some ⟨g, 0, none⟩), .int .i64 7] rfl (by (try simp only [List.map_toArray, List.map_cons, List.map_nil]); rfl) ?_; (with_reducible refine (spec_l30Rd_pick.calls k g s0_0 t701 7 t703 t704 w0 _ ?side1 ?side2 A3.out).mono ?_); (case side1 => repeat ((with_reducible first | exact HI0.out | refine IsS99.far ?_ NB0_702.out _))); (case side2 => repeat ((with_reducible first | exact HB.out | refine below_set ?_ GE702.out))); rintro e w11 ⟨rfl, hi, hb, hk⟩; refine ⟨_, rfl, ?_⟩; replace BK696 := ak (KeepBut.blk hk (g' := gb696) (o := .cells #[.int .i64 0, .slice none 0 0, .slice none 0 0] 44 (0, 0)) (by refine blk_far ?_ NB696_702.out _; refine blk_far ?_ NB696_702.out _; refine blk_far ?_ NB696_702.out _; exact BK696.out) NB696_0.out (by simp)); replace HO700 := ak (Kd.R_mono (Kd.R_keep (IsS99.apart (show IsS99 w0 _ g s0_0 t701 from by repeat ((with_reducible first | exact HI0.out | refine IsS99.far ?_ NB0_702.out _))) (by exact (Kd.R_mono (Kd.R_far (p := ⟨gb702, 2, none⟩) (Kd.R_far (p := ⟨gb702, 1, none⟩) (Kd.R_far (p := ⟨gb702, 0, none⟩) (Kd.R_types HO700.out BK702.out (by decide)) (fun _ hk => hk.2) (.int .i64 t697)) (fun _ hk => hk.2) (.slice Ao6 t698.length co6)) (fun _ hk => hk.2) (.slice none 0 0)) (fun _ h_ => h_.1))) (by decide)) hk (fun _ h => h.2)) (fun _ h => h.1)); replace BK702 := ak (KeepBut.blk hk (g' := gb702) (o := .cells #[.int .i64 t697, .slice Ao6 t698.length co6, .slice none 0 0] 44 (0, 0)) (by refine blk_put (cs := #[.int .i64 t697, .slice Ao6 t698.length co6, .slice none 0 0]) ?_ 2 _ rfl; refine blk_put (cs := #[.int .i64 t697, .slice none 0 0, .slice none 0 0]) ?_ 1 _ rfl; refine blk_put (cs := #[.int .i64 0, .slice none 0 0, .slice none 0 0]) ?_ 0 _ rfl; exact BK702.out) NB702_0.out (by simp)); replace HK := ak (KeepBut.trans (by repeat ((with_reducible first | exact HK.out | refine keep_far ?_ GW702.out _))) hk (.inl rfl)); replace HB := ak (hb); replace HI0 := ak (hi); (try clear hb); (try clear hb2); (try clear hk); (try clear hi)))
 go_loopg [4] k (fun kq v4 w' => ∃ (x4_1 : Int) (x1001_1 : Int) (x703000_1 : Int) (x703001_1 : List (S41)) (x703002_1 : List (S113)) (u703001 : Value) (u703002 : Value), v4 = .int .i64 x4_1 ∧ Aside0 (spec_l30Live.l0 kq x4_1 s0_0 x1001_1 x703000_1 x703001_1 x703002_1 = some (r1, r2, r3, r4)) ∧ Aside0 (kq ≤ k) ∧ Aside0 (Kd.R k41 41 w' w.heap.size (fun _ => True) u703001 x703001_1) ∧ Aside0 (Kd.R k113 113 w' w.heap.size (fun _ => True) u703002 x703002_1) ∧ Aside0 (w'.heap[gb696]? = some (.cells #[.int .i64 0, (.slice none 0 0), (.slice none 0 0)] 44 (0, 0))) ∧ Aside0 (w'.heap[gb702]? = some (.cells #[.int .i64 x703000_1, u703001, u703002] 44 (0, 0))) ∧ Aside0 (IsS99 w0 w' g s0_0 x1001_1) ∧ Aside0 (KeepBut w w' g none) ∧ Aside0 (Below w0.heap.size w0 w'))
 case atStart => exact ⟨(t703), (t704), (t697), (t698), (([] : List (S113))), (.slice Ao6 t698.length co6), (.slice none 0 0), (by rfl), H', ⟨Nat.le_refl _⟩, ⟨rk HO700⟩, ⟨by exact Kd.R_nil _ _ _ _ _⟩, ⟨bk BK696⟩, ⟨bk BK702⟩, ⟨by repeat ((with_reducible exact HI0.out))⟩, ⟨by repeat ((with_reducible exact HK.out))⟩, ⟨by repeat ((with_reducible exact HB.out))⟩⟩
 clear H'
 try clear c1
 try clear p2
 try clear c7
 try clear c8
 try clear c9
 try clear c10
 try clear hcz10_0
 try clear hcz10_1
 try clear hcz10_2
 try clear hfz10_0
 try clear hfz10_1
 try clear hfz10_2
 obtain ⟨x4_1, x1001_1, x703000_1, x703001_1, x703002_1, u703001, u703002, rfl, HA, HK1, HO_703001, HO_703002, BK696, BK702, HI0, HK, HB⟩ := hrel
 cases gk with
 | zero => exact absurd HA.out (by simp [spec_l30Live.l0])
 | succ k1 =>
  have H := HA.out
  clear HA
  simp only [spec_l30Live.l0] at H
  by_cases c12 : x4_1 > 0
  ·rw [if_pos c12] at H
   have c12b0 : decide (0 < x4_1) = true := decide_eq_true c12
   clear c12
   replace H := Option.bind_eq_some_iff.mp H
   obtain ⟨⟨t705, t706, t707, t708⟩, A130, H⟩ := H
   have A13 := ak A130
   clear A130
   replace H := Option.bind_eq_some_iff.mp H
   obtain ⟨⟨t709, t710, t713, t716⟩, A140, H⟩ := H
   have A14 := ak A140
   clear A140
   have H' := ak H
   clear H
   obtain ⟨Ao15, co15, eo15⟩ := Kd.R_slice HO_703001.out
   subst eo15
   obtain ⟨Ao16, co16, eo16⟩ := Kd.R_slice HO_703002.out
   subst eo16
   try go_wp2
   replace HO_703001 := ak (Kd.R_drew HO_703001.out)
   replace HO_703002 := ak (Kd.R_drew HO_703002.out)
   replace BK696 := ak (blk_drew BK696.out)
   replace BK702 := ak (blk_drew BK702.out)
   replace HI0 := ak (IsS99.drew HI0.out)
   replace HK := ak (keep_drew HK.out)
   replace HB := ak (below_drew1 HB.out)
   refine start_ (n := 12) (S := fun w' => w'.cell? ⟨gb702, 0, none⟩ = some (.int .i64 x703000_1) ∧ w'.cell? ⟨gb702, 1, none⟩ = some (.slice Ao15 x703001_1.length co15) ∧ w'.cell? ⟨gb702, 2, none⟩ = some (.slice Ao16 x703002_1.length co16)) (ds := []) (ms 12 0) (by kernel_rfl) rfl (by kernel_rfl) ⟨(blk_cell BK702.out 0).trans rfl, (blk_cell BK702.out 1).trans rfl, (blk_cell BK702.out 2).trans rfl⟩ (fun hHeld => ?_); refine with_tabW spec_l30Live.tab5 spec_l30Live.bits5 (fun HT_ HW_ => ?_)
   generalize wr.drew = w17 at HO_703001 HO_703002 BK696 BK702 HI0 HK HB hHeld ⊢
   refine pu 1 19 ?_ (ms 12 2) rfl rfl HT_ (by kernel_rfl) (fun _ _ _ h => h) (by rfl) ?_ ?_ ?_ ?_
   rotate_left
   ·intro w'
    go_simp
    with_reducible rfl
   rotate_left
   ·simp only [SX]
    rfl
   refine pu 2 20 ?_ (ms 12 6) rfl rfl HT_ (by kernel_rfl) (fun _ _ _ h => h) (by rfl) ?_ ?_ ?_ ?_
   rotate_left
   ·intro w'
    go_simp
    with_reducible rfl
   rotate_left
   ·simp only [SX]
    rfl
   refine tk 0 18 ?_ (ms 12 7) rfl rfl HT_ HW_ (by kernel_rfl) (fun _ _ _ h => h) (by rfl) ?_ hHeld ?_ ?_ ?_
   rotate_left
   ·rintro w' ⟨s0, s1, s2⟩
    go_simp
    with_reducible rfl
   rotate_left
   ·simp only [SX]
    rfl
   refine tk 3 21 ?_ (ms 12 15) rfl rfl HT_ HW_ (by kernel_rfl) (fun _ _ _ h => h) (by rfl) ?_ hHeld ?_ ?_ ?_
   rotate_left
   ·rintro w' ⟨s0, s1, s2⟩
    go_simp
    with_reducible rfl
   rotate_left
   ·simp only [SX]
    rfl
   refine join_ (σ := Value × Value × Nat) 2 (ms 12 1023) (fun s_ => [(22, .agg #[.int .i64 t705, .int .i64 t706, .int .i64 t707]), (23, .tuple #[.agg #[.int .i64 t709, s_.1, s_.2.1], .bool t716]), (5, .pointer (some ⟨s_.2.2, 0, none⟩)), (17, .tuple #[.agg #[.int .i64 t709, s_.1, s_.2.1], .bool t716]), (24, .agg #[.int .i64 t709, s_.1, s_.2.1]), (25, .bool t716)]) (fun s_ w' => (w'.cell? ⟨gb702, 0, none⟩ = some (.int .i64 x703000_1) ∧ w'.cell? ⟨gb702, 1, none⟩ = some (.slice Ao15 x703001_1.length co15) ∧ w'.cell? ⟨gb702, 2, none⟩ = some (.slice Ao16 x703002_1.length co16)) ∧ (Kd.R k41 41 w' w.heap.size (fun k_ => some k_ ≠ (.slice Ao15 x703001_1.length co15 : Value).ownBlock) s_.1 t710) ∧ (Kd.R k113 113 w' w.heap.size (fun k_ => some k_ ≠ (.slice Ao16 x703002_1.length co16 : Value).ownBlock) s_.2.1 t713) ∧ (Kd.R k41 41 w' w.heap.size (fun k_ => some k_ ≠ (s_.1 : Value).ownBlock) (.slice Ao15 x703001_1.length co15) x703001_1) ∧ (Kd.R k113 113 w' w.heap.size (fun k_ => some k_ ≠ (s_.2.1 : Value).ownBlock) (.slice Ao16 x703002_1.length co16) x703002_1) ∧ (w'.heap[gb696]? = some (.cells #[.int .i64 0, .slice none 0 0, .slice none 0 0] 44 (0, 0))) ∧ (w'.heap[gb702]? = some (.cells #[.int .i64 x703000_1, .slice Ao15 x703001_1.length co15, .slice Ao16 x703002_1.length co16] 44 (0, 0))) ∧ (w'.heap[s_.2.2]? = some (.cells #[.int .i64 0, .slice none 0 0, .slice none 0 0] 44 (0, 0))) ∧ (w.heap.size ≤ s_.2.2) ∧ (w0.heap.size ≤ s_.2.2) ∧ (g ≠ s_.2.2) ∧ (s_.2.2 ≠ g) ∧ (gb696 ≠ s_.2.2) ∧ (s_.2.2 ≠ gb696) ∧ (gb702 ≠ s_.2.2) ∧ (s_.2.2 ≠ gb702) ∧ (IsS99 w0 w' g s0_0 t708) ∧ (KeepBut w w' g none) ∧ (Below w0.heap.size w0 w')) ?_ ?_
   rotate_left
   ·intro hCont
    refine two_ (i := 4) (j := 9) (Ni := some 22) (Nj := some 5) (ms 12 31) (ms 12 527) rfl rfl rfl rfl (two_of HT_.out (by kernel_rfl)) (by decide) (by decide) (fun K hK => ?_) (fun K hK => ?_)
    rotate_left
    ·skip
     refine box_step ?hg (N := 5) ?hd (cs := #[.int .i64 0, .slice none 0 0, .slice none 0 0]) (t := 44) ?hr ?_; (case hd => rfl); (case hg => rfl); (case hr => (go_simp; done))
     intro gb717 hg w18 hbox hb
     replace HO_703001 := ak (Kd.R_below (rk HO_703001) hb)
     replace HO_703002 := ak (Kd.R_below (rk HO_703002) hb)
     replace HB := ak (below_step (by repeat ((with_reducible exact HB.out))) hb)
     have BK717 := ak (hbox)
     have GW717 := ak ((by rw [hg]; exact (keep_size (w := w) (g := g) (row := none) (by repeat ((with_reducible exact HK.out)))) : w.heap.size ≤ gb717))
     have GE717 := ak ((Nat.le_trans HW0.out (by rw [hg]; exact (keep_size (w := w) (g := g) (row := none) (by repeat ((with_reducible exact HK.out)))) : w.heap.size ≤ gb717) : w0.heap.size ≤ gb717))
     replace HK := ak (KeepBut.trans (by repeat ((with_reducible exact HK.out))) (KeepBut.of_below hb g none) (.inl rfl))
     have NB696_717 := ak ((by rw [hg]; exact Nat.ne_of_lt (blk_lt (bk BK696)) : gb696 ≠ gb717))
     have NB717_696 := ak ((by rw [hg]; exact Nat.ne_of_gt (blk_lt (bk BK696)) : gb717 ≠ gb696))
     replace BK696 := ak (blk_below (bk BK696) hb)
     have NB702_717 := ak ((by rw [hg]; exact Nat.ne_of_lt (blk_lt (bk BK702)) : gb702 ≠ gb717))
     have NB717_702 := ak ((by rw [hg]; exact Nat.ne_of_gt (blk_lt (bk BK702)) : gb717 ≠ gb702))
     replace BK702 := ak (blk_below (bk BK702) hb)
     have NB0_717 := ak ((by rw [hg]; exact Nat.ne_of_lt (IsS99.lt (show IsS99 w0 _ g s0_0 x1001_1 from by repeat ((with_reducible exact HI0.out)))) : g ≠ gb717))
     have NB717_0 := ak ((by rw [hg]; exact Nat.ne_of_gt (IsS99.lt (show IsS99 w0 _ g s0_0 x1001_1 from by repeat ((with_reducible exact HI0.out)))) : gb717 ≠ g))
     replace HI0 := ak (IsS99.below (by repeat ((with_reducible exact HI0.out))) hb)
     clear hb hbox hg
     refine hK.out _ _ ⟨(blk_cell BK702.out 0).trans rfl, (blk_cell BK702.out 1).trans rfl, (blk_cell BK702.out 2).trans rfl⟩ (fun hHeld => ?_)
     clear hK K
     refine norm_ (a' := ?_) ?_ ?_
     rotate_left
     ·show Act.put _ (some 5) _ = _
      simp only [SX]
      rfl
     refine one_ (i := 4) (N := some 22) (ms 12 543) rfl rfl (one_of HT_.out (by kernel_rfl)) (by decide) (fun K hK => ?_)
     refine goes_ Try.func113 (by kernel_rfl) rfl #[.pointer (some ⟨g, 0, none⟩), .agg #[.int .i64 x703000_1, .slice Ao15 x703001_1.length co15]] (by rfl) rfl rfl (by (try simp only [List.map_toArray, List.map_cons, List.map_nil]); rfl) ?_
     with_reducible refine (spec_l30News.calls k1 g s0_0 x1001_1 x703000_1 _ _ x703001_1 t705 t706 t707 t708 w0 _ ?side1 ?side2 ?side3 ?side4 A13.out).mono ?_
     (case side1 => repeat ((with_reducible exact HI0.out)))
     (case side2 => repeat ((with_reducible exact HB.out)))
     (case side3 => exact Kd.C_foot_own (IsS99.apart (show IsS99 w0 _ g s0_0 x1001_1 from by repeat ((with_reducible exact HI0.out))) (rk HO_703001) (by decide)) (fun _ h_ => h_.2))
     (case side4 => exact (Kd.R_reads' HO_703001.out).2.1)
     rintro e w19 ⟨rfl, hi, hb, hk⟩
     refine ⟨_, rfl, ?_⟩
     replace HO_703001 := ak (Kd.R_mono (Kd.R_keep (IsS99.apart (show IsS99 w0 _ g s0_0 x1001_1 from by repeat ((with_reducible exact HI0.out))) (rk HO_703001) (by decide)) hk (fun _ h => h.2)) (fun _ h => h.1))
     replace HO_703002 := ak (Kd.R_mono (Kd.R_keep (IsS99.apart (show IsS99 w0 _ g s0_0 x1001_1 from by repeat ((with_reducible exact HI0.out))) (rk HO_703002) (by decide)) hk (fun _ h => h.2)) (fun _ h => h.1))
     replace BK696 := ak (KeepBut.blk hk (g' := gb696) (o := .cells #[.int .i64 0, .slice none 0 0, .slice none 0 0] 44 (0, 0)) (bk BK696) NB696_0.out (by simp))
     replace BK702 := ak (KeepBut.blk hk (g' := gb702) (o := .cells #[.int .i64 x703000_1, .slice Ao15 x703001_1.length co15, .slice Ao16 x703002_1.length co16] 44 (0, 0)) (bk BK702) NB702_0.out (by simp))
     replace BK717 := ak (KeepBut.blk hk (g' := gb717) (o := .cells #[.int .i64 0, .slice none 0 0, .slice none 0 0] 44 (0, 0)) (bk BK717) NB717_0.out (by simp))
     replace HK := ak (KeepBut.trans (by repeat ((with_reducible exact HK.out))) hk (.inl rfl))
     replace HB := ak (hb)
     replace HI0 := ak (hi)
     (try clear hb)
     (try clear hb2)
     (try clear hk)
     (try clear hi)
     refine hK.out _ _ ⟨(blk_cell BK702.out 0).trans rfl, (blk_cell BK702.out 1).trans rfl, (blk_cell BK702.out 2).trans rfl⟩ (fun hHeld => ?_)
     clear hK K
     refine norm_ (a' := ?_) ?_ ?_
     rotate_left
     ·show Act.put _ (some 22) _ = _
      simp only [SX]
      rfl
     refine one_ (i := 5) (N := some 23) (ms 12 575) rfl rfl (one_of HT_.out (by kernel_rfl)) (by decide) (fun K hK => ?_)
     refine goes_ Try.func112 (by kernel_rfl) rfl #[.agg #[.int .i64 x703000_1, .slice Ao15 x703001_1.length co15, .slice Ao16 x703002_1.length co16], .agg #[.int .i64 t705, .int .i64 t706, .int .i64 t707]] (by rfl) rfl rfl (by (try simp only [List.map_toArray, List.map_cons, List.map_nil]); rfl) ?_
     with_reducible refine (spec_LiveTell.calls k1 x703000_1 _ _ x703001_1 _ _ x703002_1 t705 t706 t707 t709 t710 t713 t716 _ ?side1 ?side2 ?side3 ?side4 A14.out).mono ?_
     (case side1 => repeat (exact (Kd.R_reads' HO_703001.out).2.2))
     (case side2 => exact (Kd.R_reads' HO_703001.out).2.1)
     (case side3 => repeat (exact (Kd.R_reads' HO_703002.out).2.2))
     (case side4 => exact (Kd.R_reads' HO_703002.out).2.1)
     rintro e w20 ⟨v711, v714, rfl, ho0, ho1, hb⟩
     refine ⟨_, rfl, ?_⟩
     have HO712 := ak (Kd.R_lower (Kd.R_new' ho0 (Kd.R_lt (rk HO_703001))) (keep_size (w := w) (g := g) (row := none) (by repeat ((with_reducible exact HK.out)))))
     replace HO_703001 := ak (Kd.R_elder' (rk HO_703001) (Kd.R_base ho0) hb)
     have HO715 := ak (Kd.R_lower (Kd.R_new' ho1 (Kd.R_lt (rk HO_703002))) (keep_size (w := w) (g := g) (row := none) (by repeat ((with_reducible exact HK.out)))))
     replace HO_703002 := ak (Kd.R_elder' (rk HO_703002) (Kd.R_base ho1) hb)
     replace BK696 := ak (blk_below (bk BK696) hb)
     replace BK702 := ak (blk_below (bk BK702) hb)
     replace BK717 := ak (blk_below (bk BK717) hb)
     replace HK := ak (KeepBut.trans (by repeat ((with_reducible exact HK.out))) (KeepBut.of_below hb g none) (.inl rfl))
     replace HB := ak (below_step (by repeat ((with_reducible exact HB.out))) hb)
     replace HI0 := ak (IsS99.below (by repeat ((with_reducible exact HI0.out))) hb)
     (try clear hb)
     (try clear hb2)
     (try clear hk)
     (try clear hi)
     (try clear ho0)
     (try clear ho1)
     refine hK.out _ _ ⟨(blk_cell BK702.out 0).trans rfl, (blk_cell BK702.out 1).trans rfl, (blk_cell BK702.out 2).trans rfl⟩ (fun hHeld => ?_)
     clear hK K
     refine norm_ (a' := ?_) ?_ ?_
     rotate_left
     ·show Act.put _ (some 23) _ = _
      simp only [SX]
      rfl
     refine pu 6 17 ?_ (ms 12 639) rfl rfl HT_ (by kernel_rfl) (fun _ _ _ h => h) (by rfl) ?_ ?_ ?_ ?_
     rotate_left
     ·intro w'
      go_simp
      with_reducible rfl
     rotate_left
     ·simp only [SX]
      rfl
     refine pu 7 24 ?_ (ms 12 767) rfl rfl HT_ (by kernel_rfl) (fun _ _ _ h => h) (by rfl) ?_ ?_ ?_ ?_
     rotate_left
     ·intro w'
      go_simp
      with_reducible rfl
     rotate_left
     ·simp only [SX]
      rfl
     refine pu 8 25 ?_ (ms 12 1023) rfl rfl HT_ (by kernel_rfl) (fun _ _ _ h => h) (by rfl) ?_ ?_ ?_ ?_
     rotate_left
     ·intro w'
      go_simp
      with_reducible rfl
     rotate_left
     ·simp only [SX]
      rfl
     exact norm_ (by simp only [putAll, Act.put, List.setIfInBounds_toArray, List.set_cons_zero, List.set_cons_succ]) (hCont (v711, v714, gb717) _ ⟨hHeld, (by exact Kd.R_mono HO712.out (fun _ hk => hk.2)), (by exact Kd.R_mono HO715.out (fun _ hk => hk.2)), (by exact Kd.R_mono HO_703001.out (fun _ hk => hk.2)), (by exact Kd.R_mono HO_703002.out (fun _ hk => hk.2)), (bk BK696), (bk BK702), (bk BK717), GW717.out, GE717.out, NB0_717.out, NB717_0.out, NB696_717.out, NB717_696.out, NB702_717.out, NB717_702.out, (by repeat ((with_reducible exact HI0.out))), (by repeat ((with_reducible exact HK.out))), (by repeat ((with_reducible exact HB.out)))⟩)
    skip
    refine goes_ Try.func113 (by kernel_rfl) rfl #[.pointer (some ⟨g, 0, none⟩), .agg #[.int .i64 x703000_1, .slice Ao15 x703001_1.length co15]] (by rfl) rfl rfl (by (try simp only [List.map_toArray, List.map_cons, List.map_nil]); rfl) ?_
    with_reducible refine (spec_l30News.calls k1 g s0_0 x1001_1 x703000_1 _ _ x703001_1 t705 t706 t707 t708 w0 _ ?side1 ?side2 ?side3 ?side4 A13.out).mono ?_
    (case side1 => repeat ((with_reducible exact HI0.out)))
    (case side2 => repeat ((with_reducible exact HB.out)))
    (case side3 => exact Kd.C_foot_own (IsS99.apart (show IsS99 w0 _ g s0_0 x1001_1 from by repeat ((with_reducible exact HI0.out))) (rk HO_703001) (by decide)) (fun _ h_ => h_.2))
    (case side4 => exact (Kd.R_reads' HO_703001.out).2.1)
    rintro e w18 ⟨rfl, hi, hb, hk⟩
    refine ⟨_, rfl, ?_⟩
    replace HO_703001 := ak (Kd.R_mono (Kd.R_keep (IsS99.apart (show IsS99 w0 _ g s0_0 x1001_1 from by repeat ((with_reducible exact HI0.out))) (rk HO_703001) (by decide)) hk (fun _ h => h.2)) (fun _ h => h.1))
    replace HO_703002 := ak (Kd.R_mono (Kd.R_keep (IsS99.apart (show IsS99 w0 _ g s0_0 x1001_1 from by repeat ((with_reducible exact HI0.out))) (rk HO_703002) (by decide)) hk (fun _ h => h.2)) (fun _ h => h.1))
    replace BK696 := ak (KeepBut.blk hk (g' := gb696) (o := .cells #[.int .i64 0, .slice none 0 0, .slice none 0 0] 44 (0, 0)) (bk BK696) NB696_0.out (by simp))
    replace BK702 := ak (KeepBut.blk hk (g' := gb702) (o := .cells #[.int .i64 x703000_1, .slice Ao15 x703001_1.length co15, .slice Ao16 x703002_1.length co16] 44 (0, 0)) (bk BK702) NB702_0.out (by simp))
    replace HK := ak (KeepBut.trans (by repeat ((with_reducible exact HK.out))) hk (.inl rfl))
    replace HB := ak (hb)
    replace HI0 := ak (hi)
    (try clear hb)
    (try clear hb2)
    (try clear hk)
    (try clear hi)
    refine hK.out _ _ ⟨(blk_cell BK702.out 0).trans rfl, (blk_cell BK702.out 1).trans rfl, (blk_cell BK702.out 2).trans rfl⟩ (fun hHeld => ?_)
    clear hK K
    refine norm_ (a' := ?_) ?_ ?_
    rotate_left
    ·show Act.put _ (some 22) _ = _
     simp only [SX]
     rfl
    refine two_ (i := 5) (j := 9) (Ni := some 23) (Nj := some 5) (ms 12 63) (ms 12 543) rfl rfl rfl rfl (two_of HT_.out (by kernel_rfl)) (by decide) (by decide) (fun K hK => ?_) (fun K hK => ?_)
    ·skip
     refine goes_ Try.func112 (by kernel_rfl) rfl #[.agg #[.int .i64 x703000_1, .slice Ao15 x703001_1.length co15, .slice Ao16 x703002_1.length co16], .agg #[.int .i64 t705, .int .i64 t706, .int .i64 t707]] (by rfl) rfl rfl (by (try simp only [List.map_toArray, List.map_cons, List.map_nil]); rfl) ?_
     with_reducible refine (spec_LiveTell.calls k1 x703000_1 _ _ x703001_1 _ _ x703002_1 t705 t706 t707 t709 t710 t713 t716 _ ?side1 ?side2 ?side3 ?side4 A14.out).mono ?_
     (case side1 => repeat (exact (Kd.R_reads' HO_703001.out).2.2))
     (case side2 => exact (Kd.R_reads' HO_703001.out).2.1)
     (case side3 => repeat (exact (Kd.R_reads' HO_703002.out).2.2))
     (case side4 => exact (Kd.R_reads' HO_703002.out).2.1)
     rintro e w19 ⟨v711, v714, rfl, ho0, ho1, hb⟩
     refine ⟨_, rfl, ?_⟩
     have HO712 := ak (Kd.R_lower (Kd.R_new' ho0 (Kd.R_lt (rk HO_703001))) (keep_size (w := w) (g := g) (row := none) (by repeat ((with_reducible exact HK.out)))))
     replace HO_703001 := ak (Kd.R_elder' (rk HO_703001) (Kd.R_base ho0) hb)
     have HO715 := ak (Kd.R_lower (Kd.R_new' ho1 (Kd.R_lt (rk HO_703002))) (keep_size (w := w) (g := g) (row := none) (by repeat ((with_reducible exact HK.out)))))
     replace HO_703002 := ak (Kd.R_elder' (rk HO_703002) (Kd.R_base ho1) hb)
     replace BK696 := ak (blk_below (bk BK696) hb)
     replace BK702 := ak (blk_below (bk BK702) hb)
     replace HK := ak (KeepBut.trans (by repeat ((with_reducible exact HK.out))) (KeepBut.of_below hb g none) (.inl rfl))
     replace HB := ak (below_step (by repeat ((with_reducible exact HB.out))) hb)
     replace HI0 := ak (IsS99.below (by repeat ((with_reducible exact HI0.out))) hb)
     (try clear hb)
     (try clear hb2)
     (try clear hk)
     (try clear hi)
     (try clear ho0)
     (try clear ho1)
     refine hK.out _ _ ⟨(blk_cell BK702.out 0).trans rfl, (blk_cell BK702.out 1).trans rfl, (blk_cell BK702.out 2).trans rfl⟩ (fun hHeld => ?_)
     clear hK K
     refine norm_ (a' := ?_) ?_ ?_
     rotate_left
     ·show Act.put _ (some 23) _ = _
      simp only [SX]
      rfl
     refine pu 6 17 ?_ (ms 12 127) rfl rfl HT_ (by kernel_rfl) (fun _ _ _ h => h) (by rfl) ?_ ?_ ?_ ?_
     rotate_left
     ·intro w'
      go_simp
      with_reducible rfl
     rotate_left
     ·simp only [SX]
      rfl
     refine pu 7 24 ?_ (ms 12 255) rfl rfl HT_ (by kernel_rfl) (fun _ _ _ h => h) (by rfl) ?_ ?_ ?_ ?_
     rotate_left
     ·intro w'
      go_simp
      with_reducible rfl
     rotate_left
     ·simp only [SX]
      rfl
     refine pu 8 25 ?_ (ms 12 511) rfl rfl HT_ (by kernel_rfl) (fun _ _ _ h => h) (by rfl) ?_ ?_ ?_ ?_
     rotate_left
     ·intro w'
      go_simp
      with_reducible rfl
     rotate_left
     ·simp only [SX]
      rfl
     refine one_ (i := 9) (N := some 5) (ms 12 1023) rfl rfl (one_of HT_.out (by kernel_rfl)) (by decide) (fun K hK => ?_)
     refine box_step ?hg (N := 5) ?hd (cs := #[.int .i64 0, .slice none 0 0, .slice none 0 0]) (t := 44) ?hr ?_; (case hd => rfl); (case hg => rfl); (case hr => (go_simp; done))
     intro gb717 hg w20 hbox hb
     replace HO_703001 := ak (Kd.R_below (rk HO_703001) hb)
     replace HO_703002 := ak (Kd.R_below (rk HO_703002) hb)
     replace HO712 := ak (Kd.R_below (rk HO712) hb)
     replace HO715 := ak (Kd.R_below (rk HO715) hb)
     replace HB := ak (below_step (by repeat ((with_reducible exact HB.out))) hb)
     have BK717 := ak (hbox)
     have GW717 := ak ((by rw [hg]; exact (keep_size (w := w) (g := g) (row := none) (by repeat ((with_reducible exact HK.out)))) : w.heap.size ≤ gb717))
     have GE717 := ak ((Nat.le_trans HW0.out (by rw [hg]; exact (keep_size (w := w) (g := g) (row := none) (by repeat ((with_reducible exact HK.out)))) : w.heap.size ≤ gb717) : w0.heap.size ≤ gb717))
     replace HK := ak (KeepBut.trans (by repeat ((with_reducible exact HK.out))) (KeepBut.of_below hb g none) (.inl rfl))
     have NB696_717 := ak ((by rw [hg]; exact Nat.ne_of_lt (blk_lt (bk BK696)) : gb696 ≠ gb717))
     have NB717_696 := ak ((by rw [hg]; exact Nat.ne_of_gt (blk_lt (bk BK696)) : gb717 ≠ gb696))
     replace BK696 := ak (blk_below (bk BK696) hb)
     have NB702_717 := ak ((by rw [hg]; exact Nat.ne_of_lt (blk_lt (bk BK702)) : gb702 ≠ gb717))
     have NB717_702 := ak ((by rw [hg]; exact Nat.ne_of_gt (blk_lt (bk BK702)) : gb717 ≠ gb702))
     replace BK702 := ak (blk_below (bk BK702) hb)
     have NB0_717 := ak ((by rw [hg]; exact Nat.ne_of_lt (IsS99.lt (show IsS99 w0 _ g s0_0 t708 from by repeat ((with_reducible exact HI0.out)))) : g ≠ gb717))
     have NB717_0 := ak ((by rw [hg]; exact Nat.ne_of_gt (IsS99.lt (show IsS99 w0 _ g s0_0 t708 from by repeat ((with_reducible exact HI0.out)))) : gb717 ≠ g))
     replace HI0 := ak (IsS99.below (by repeat ((with_reducible exact HI0.out))) hb)
     clear hb hbox hg
     refine hK.out _ _ ⟨(blk_cell BK702.out 0).trans rfl, (blk_cell BK702.out 1).trans rfl, (blk_cell BK702.out 2).trans rfl⟩ (fun hHeld => ?_)
     clear hK K
     refine norm_ (a' := ?_) ?_ ?_
     rotate_left
     ·show Act.put _ (some 5) _ = _
      simp only [SX]
      rfl
     exact norm_ (by simp only [putAll, Act.put, List.setIfInBounds_toArray, List.set_cons_zero, List.set_cons_succ]) (hCont (v711, v714, gb717) _ ⟨hHeld, (by exact Kd.R_mono HO712.out (fun _ hk => hk.2)), (by exact Kd.R_mono HO715.out (fun _ hk => hk.2)), (by exact Kd.R_mono HO_703001.out (fun _ hk => hk.2)), (by exact Kd.R_mono HO_703002.out (fun _ hk => hk.2)), (bk BK696), (bk BK702), (bk BK717), GW717.out, GE717.out, NB0_717.out, NB717_0.out, NB696_717.out, NB717_696.out, NB702_717.out, NB717_702.out, (by repeat ((with_reducible exact HI0.out))), (by repeat ((with_reducible exact HK.out))), (by repeat ((with_reducible exact HB.out)))⟩)
    skip
    refine box_step ?hg (N := 5) ?hd (cs := #[.int .i64 0, .slice none 0 0, .slice none 0 0]) (t := 44) ?hr ?_; (case hd => rfl); (case hg => rfl); (case hr => (go_simp; done))
    intro gb717 hg w19 hbox hb
    replace HO_703001 := ak (Kd.R_below (rk HO_703001) hb)
    replace HO_703002 := ak (Kd.R_below (rk HO_703002) hb)
    replace HB := ak (below_step (by repeat ((with_reducible exact HB.out))) hb)
    have BK717 := ak (hbox)
    have GW717 := ak ((by rw [hg]; exact (keep_size (w := w) (g := g) (row := none) (by repeat ((with_reducible exact HK.out)))) : w.heap.size ≤ gb717))
    have GE717 := ak ((Nat.le_trans HW0.out (by rw [hg]; exact (keep_size (w := w) (g := g) (row := none) (by repeat ((with_reducible exact HK.out)))) : w.heap.size ≤ gb717) : w0.heap.size ≤ gb717))
    replace HK := ak (KeepBut.trans (by repeat ((with_reducible exact HK.out))) (KeepBut.of_below hb g none) (.inl rfl))
    have NB696_717 := ak ((by rw [hg]; exact Nat.ne_of_lt (blk_lt (bk BK696)) : gb696 ≠ gb717))
    have NB717_696 := ak ((by rw [hg]; exact Nat.ne_of_gt (blk_lt (bk BK696)) : gb717 ≠ gb696))
    replace BK696 := ak (blk_below (bk BK696) hb)
    have NB702_717 := ak ((by rw [hg]; exact Nat.ne_of_lt (blk_lt (bk BK702)) : gb702 ≠ gb717))
    have NB717_702 := ak ((by rw [hg]; exact Nat.ne_of_gt (blk_lt (bk BK702)) : gb717 ≠ gb702))
    replace BK702 := ak (blk_below (bk BK702) hb)
    have NB0_717 := ak ((by rw [hg]; exact Nat.ne_of_lt (IsS99.lt (show IsS99 w0 _ g s0_0 t708 from by repeat ((with_reducible exact HI0.out)))) : g ≠ gb717))
    have NB717_0 := ak ((by rw [hg]; exact Nat.ne_of_gt (IsS99.lt (show IsS99 w0 _ g s0_0 t708 from by repeat ((with_reducible exact HI0.out)))) : gb717 ≠ g))
    replace HI0 := ak (IsS99.below (by repeat ((with_reducible exact HI0.out))) hb)
    clear hb hbox hg
    refine hK.out _ _ ⟨(blk_cell BK702.out 0).trans rfl, (blk_cell BK702.out 1).trans rfl, (blk_cell BK702.out 2).trans rfl⟩ (fun hHeld => ?_)
    clear hK K
    refine norm_ (a' := ?_) ?_ ?_
    rotate_left
    ·show Act.put _ (some 5) _ = _
     simp only [SX]
     rfl
    refine one_ (i := 5) (N := some 23) (ms 12 575) rfl rfl (one_of HT_.out (by kernel_rfl)) (by decide) (fun K hK => ?_)
    refine goes_ Try.func112 (by kernel_rfl) rfl #[.agg #[.int .i64 x703000_1, .slice Ao15 x703001_1.length co15, .slice Ao16 x703002_1.length co16], .agg #[.int .i64 t705, .int .i64 t706, .int .i64 t707]] (by rfl) rfl rfl (by (try simp only [List.map_toArray, List.map_cons, List.map_nil]); rfl) ?_
    with_reducible refine (spec_LiveTell.calls k1 x703000_1 _ _ x703001_1 _ _ x703002_1 t705 t706 t707 t709 t710 t713 t716 _ ?side1 ?side2 ?side3 ?side4 A14.out).mono ?_
    (case side1 => repeat (exact (Kd.R_reads' HO_703001.out).2.2))
    (case side2 => exact (Kd.R_reads' HO_703001.out).2.1)
    (case side3 => repeat (exact (Kd.R_reads' HO_703002.out).2.2))
    (case side4 => exact (Kd.R_reads' HO_703002.out).2.1)
    rintro e w20 ⟨v711, v714, rfl, ho0, ho1, hb⟩
    refine ⟨_, rfl, ?_⟩
    have HO712 := ak (Kd.R_lower (Kd.R_new' ho0 (Kd.R_lt (rk HO_703001))) (keep_size (w := w) (g := g) (row := none) (by repeat ((with_reducible exact HK.out)))))
    replace HO_703001 := ak (Kd.R_elder' (rk HO_703001) (Kd.R_base ho0) hb)
    have HO715 := ak (Kd.R_lower (Kd.R_new' ho1 (Kd.R_lt (rk HO_703002))) (keep_size (w := w) (g := g) (row := none) (by repeat ((with_reducible exact HK.out)))))
    replace HO_703002 := ak (Kd.R_elder' (rk HO_703002) (Kd.R_base ho1) hb)
    replace BK696 := ak (blk_below (bk BK696) hb)
    replace BK702 := ak (blk_below (bk BK702) hb)
    replace BK717 := ak (blk_below (bk BK717) hb)
    replace HK := ak (KeepBut.trans (by repeat ((with_reducible exact HK.out))) (KeepBut.of_below hb g none) (.inl rfl))
    replace HB := ak (below_step (by repeat ((with_reducible exact HB.out))) hb)
    replace HI0 := ak (IsS99.below (by repeat ((with_reducible exact HI0.out))) hb)
    (try clear hb)
    (try clear hb2)
    (try clear hk)
    (try clear hi)
    (try clear ho0)
    (try clear ho1)
    refine hK.out _ _ ⟨(blk_cell BK702.out 0).trans rfl, (blk_cell BK702.out 1).trans rfl, (blk_cell BK702.out 2).trans rfl⟩ (fun hHeld => ?_)
    clear hK K
    refine norm_ (a' := ?_) ?_ ?_
    rotate_left
    ·show Act.put _ (some 23) _ = _
     simp only [SX]
     rfl
    refine pu 6 17 ?_ (ms 12 639) rfl rfl HT_ (by kernel_rfl) (fun _ _ _ h => h) (by rfl) ?_ ?_ ?_ ?_
    rotate_left
    ·intro w'
     go_simp
     with_reducible rfl
    rotate_left
    ·simp only [SX]
     rfl
    refine pu 7 24 ?_ (ms 12 767) rfl rfl HT_ (by kernel_rfl) (fun _ _ _ h => h) (by rfl) ?_ ?_ ?_ ?_
    rotate_left
    ·intro w'
     go_simp
     with_reducible rfl
    rotate_left
    ·simp only [SX]
     rfl
    refine pu 8 25 ?_ (ms 12 1023) rfl rfl HT_ (by kernel_rfl) (fun _ _ _ h => h) (by rfl) ?_ ?_ ?_ ?_
    rotate_left
    ·intro w'
     go_simp
     with_reducible rfl
    rotate_left
    ·simp only [SX]
     rfl
    exact norm_ (by simp only [putAll, Act.put, List.setIfInBounds_toArray, List.set_cons_zero, List.set_cons_succ]) (hCont (v711, v714, gb717) _ ⟨hHeld, (by exact Kd.R_mono HO712.out (fun _ hk => hk.2)), (by exact Kd.R_mono HO715.out (fun _ hk => hk.2)), (by exact Kd.R_mono HO_703001.out (fun _ hk => hk.2)), (by exact Kd.R_mono HO_703002.out (fun _ hk => hk.2)), (bk BK696), (bk BK702), (bk BK717), GW717.out, GE717.out, NB0_717.out, NB717_0.out, NB696_717.out, NB717_696.out, NB702_717.out, NB717_702.out, (by repeat ((with_reducible exact HI0.out))), (by repeat ((with_reducible exact HK.out))), (by repeat ((with_reducible exact HB.out)))⟩)
   rintro ⟨v711, v714, gb717⟩ w21 ⟨hS_, h0_, h1_, h2_, h3_, h4_, h5_, h6_, h7_, h8_, h9_, h10_, h11_, h12_, h13_, h14_, h15_, h16_, h17_⟩
   have HO712 : Aside0 (Kd.R k41 41 w21 w.heap.size (fun k_ => some k_ ≠ (.slice Ao15 x703001_1.length co15 : Value).ownBlock) v711 t710) := ⟨h0_⟩
   have HO715 : Aside0 (Kd.R k113 113 w21 w.heap.size (fun k_ => some k_ ≠ (.slice Ao16 x703002_1.length co16 : Value).ownBlock) v714 t713) := ⟨h1_⟩
   replace HO_703001 : Aside0 (Kd.R k41 41 w21 w.heap.size (fun k_ => some k_ ≠ (v711 : Value).ownBlock) (.slice Ao15 x703001_1.length co15) x703001_1) := ⟨h2_⟩
   replace HO_703002 : Aside0 (Kd.R k113 113 w21 w.heap.size (fun k_ => some k_ ≠ (v714 : Value).ownBlock) (.slice Ao16 x703002_1.length co16) x703002_1) := ⟨h3_⟩
   replace BK696 : Aside0 (w21.heap[gb696]? = some (.cells #[.int .i64 0, .slice none 0 0, .slice none 0 0] 44 (0, 0))) := ⟨h4_⟩
   replace BK702 : Aside0 (w21.heap[gb702]? = some (.cells #[.int .i64 x703000_1, .slice Ao15 x703001_1.length co15, .slice Ao16 x703002_1.length co16] 44 (0, 0))) := ⟨h5_⟩
   have BK717 : Aside0 (w21.heap[gb717]? = some (.cells #[.int .i64 0, .slice none 0 0, .slice none 0 0] 44 (0, 0))) := ⟨h6_⟩
   have GW717 : Aside0 (w.heap.size ≤ gb717) := ⟨h7_⟩
   have GE717 : Aside0 (w0.heap.size ≤ gb717) := ⟨h8_⟩
   have NB0_717 : Aside0 (g ≠ gb717) := ⟨h9_⟩
   have NB717_0 : Aside0 (gb717 ≠ g) := ⟨h10_⟩
   have NB696_717 : Aside0 (gb696 ≠ gb717) := ⟨h11_⟩
   have NB717_696 : Aside0 (gb717 ≠ gb696) := ⟨h12_⟩
   have NB702_717 : Aside0 (gb702 ≠ gb717) := ⟨h13_⟩
   have NB717_702 : Aside0 (gb717 ≠ gb702) := ⟨h14_⟩
   replace HI0 : Aside0 (IsS99 w0 w21 g s0_0 t708) := ⟨h15_⟩
   replace HK : Aside0 (KeepBut w w21 g none) := ⟨h16_⟩
   replace HB : Aside0 (Below w0.heap.size w0 w21) := ⟨h17_⟩
   clear h0_ h1_ h2_ h3_ h4_ h5_ h6_ h7_ h8_ h9_ h10_ h11_ h12_ h13_ h14_ h15_ h16_ h17_
   have hHeld : w21.cell? ⟨gb702, 0, none⟩ = some (.int .i64 x703000_1) ∧ w21.cell? ⟨gb702, 1, none⟩ = some (.slice Ao15 x703001_1.length co15) ∧ w21.cell? ⟨gb702, 2, none⟩ = some (.slice Ao16 x703002_1.length co16) := hS_
   obtain ⟨Ao23, co23, eo23⟩ := Kd.R_slice HO712.out
   (subst eo23)
   obtain ⟨Ao25, co25, eo25⟩ := Kd.R_slice HO715.out
   (subst eo25)
   refine norm_ (a' := ?_) ?_ ?_
   rotate_left
   ·simp only [putAll, Act.put, List.setIfInBounds_toArray, List.set_cons_zero, List.set_cons_succ]
    rfl
   refine one_ (i := 10) (N := none) (ms 12 2047) rfl rfl (one_of HT_.out (by kernel_rfl)) (by decide) (fun K hK => ?_)
   have hs22 : w21.cell? ⟨gb717, 0, none⟩ = some (.int .i64 0) := (blk_cell BK717.out 0).trans rfl
   have hfs22 := blk_frozen BK717.out 0
   have hns22_0 := NB696_717.out
   have hns22_1 := NB702_717.out
   have hms22_0 := NB717_696.out
   have hms22_1 := NB717_702.out
   have hs24 : w21.cell? ⟨gb717, 1, none⟩ = some (.slice none 0 0) := (blk_cell BK717.out 1).trans rfl
   have hfs24 := blk_frozen BK717.out 1
   have hns24_0 := NB696_717.out
   have hns24_1 := NB702_717.out
   have hms24_0 := NB717_696.out
   have hms24_1 := NB717_702.out
   have hs26 : w21.cell? ⟨gb717, 2, none⟩ = some (.slice none 0 0) := (blk_cell BK717.out 2).trans rfl
   have hfs26 := blk_frozen BK717.out 2
   have hns26_0 := NB696_717.out
   have hns26_1 := NB702_717.out
   have hms26_0 := NB717_696.out
   have hms26_1 := NB717_702.out
   refine skip_ (w1 := ?_) (by rfl) rfl ?_ ?_
   rotate_left
   ·go_simp
    rfl
   refine hK.out _ _ ⟨((cell_far (p := ⟨gb717, _, none⟩) NB702_717.out _).trans (((cell_far (p := ⟨gb717, _, none⟩) NB702_717.out _).trans (((cell_far (p := ⟨gb717, _, none⟩) NB702_717.out _).trans (hHeld.1)))))), ((cell_far (p := ⟨gb717, _, none⟩) NB702_717.out _).trans (((cell_far (p := ⟨gb717, _, none⟩) NB702_717.out _).trans (((cell_far (p := ⟨gb717, _, none⟩) NB702_717.out _).trans (hHeld.2.1)))))), ((cell_far (p := ⟨gb717, _, none⟩) NB702_717.out _).trans (((cell_far (p := ⟨gb717, _, none⟩) NB702_717.out _).trans (((cell_far (p := ⟨gb717, _, none⟩) NB702_717.out _).trans (hHeld.2.2))))))⟩ (fun hHeld => ?_)
   clear hK K
   refine pu 11 6 ?_ (ms 12 4095) rfl rfl HT_ (by kernel_rfl) (fun _ _ _ h => h) (by rfl) ?_ ?_ ?_ ?_
   rotate_left
   ·intro w'
    go_simp
    with_reducible rfl
   rotate_left
   ·simp only [SX]
    rfl
   refine done_ (done_of HT_.out (by kernel_rfl)) ?_
   have hnb27 := NB717_696.out
   have hnc27 := NB696_717.out
   have hnb28 := NB717_702.out
   have hnc28 := NB702_717.out
   have hnb29 := NB717_0.out
   have hnc29 := NB0_717.out
   have hcz30_0 := bc w21 BK717 0 (.int .i64 0) rfl
   have hcz30_1 := bc w21 BK717 1 (.slice none 0 0) rfl
   have hcz30_2 := bc w21 BK717 2 (.slice none 0 0) rfl
   have hfz30_0 := fz BK717 0
   have hfz30_1 := fz BK717 1
   have hfz30_2 := fz BK717 2
   have hnb31 := NB702_696.out
   have hnc31 := NB696_702.out
   have hnb32 := NB702_0.out
   have hnc32 := NB0_702.out
   have hcz33_0 := bc w21 BK702 0 (.int .i64 x703000_1) rfl
   have hcz33_1 := bc w21 BK702 1 (.slice Ao15 x703001_1.length co15) rfl
   have hcz33_2 := bc w21 BK702 2 (.slice Ao16 x703002_1.length co16) rfl
   have hfz33_0 := fz BK702 0
   have hfz33_1 := fz BK702 1
   have hfz33_2 := fz BK702 2
   try go_wp2
   go_roundg k1
   case measure => have := HK1.out; omega
   case rel => exact ⟨(wrap64 (x4_1 - 1)), (t708), (t709), (t710), (t713), (.slice Ao23 t710.length co23), (.slice Ao25 t713.length co25), (by rfl), H', ⟨by have := HK1.out; omega⟩, ⟨by exact Kd.R_mono (Kd.R_far (p := ⟨gb702, 2, none⟩) (Kd.R_far (p := ⟨gb702, 1, none⟩) (Kd.R_far (p := ⟨gb702, 0, none⟩) (Kd.R_far (p := ⟨gb717, 2, none⟩) (Kd.R_far (p := ⟨gb717, 1, none⟩) (Kd.R_far (p := ⟨gb717, 0, none⟩) (Kd.R_types (Kd.R_types HO712.out BK717.out (by decide)) BK702.out (by decide)) (fun _ hk => hk.1.2) (.int .i64 t709)) (fun _ hk => hk.1.2) (.slice Ao23 t710.length co23)) (fun _ hk => hk.1.2) (.slice Ao25 t713.length co25)) (fun _ hk => hk.2) (.int .i64 t709)) (fun _ hk => hk.2) (.slice Ao23 t710.length co23)) (fun _ hk => hk.2) (.slice Ao25 t713.length co25)) (fun _ hk => trivial)⟩, ⟨by exact Kd.R_mono (Kd.R_far (p := ⟨gb702, 2, none⟩) (Kd.R_far (p := ⟨gb702, 1, none⟩) (Kd.R_far (p := ⟨gb702, 0, none⟩) (Kd.R_far (p := ⟨gb717, 2, none⟩) (Kd.R_far (p := ⟨gb717, 1, none⟩) (Kd.R_far (p := ⟨gb717, 0, none⟩) (Kd.R_types (Kd.R_types HO715.out BK717.out (by decide)) BK702.out (by decide)) (fun _ hk => hk.1.2) (.int .i64 t709)) (fun _ hk => hk.1.2) (.slice Ao23 t710.length co23)) (fun _ hk => hk.1.2) (.slice Ao25 t713.length co25)) (fun _ hk => hk.2) (.int .i64 t709)) (fun _ hk => hk.2) (.slice Ao23 t710.length co23)) (fun _ hk => hk.2) (.slice Ao25 t713.length co25)) (fun _ hk => trivial)⟩, ⟨by refine blk_far ?_ NB696_702.out _; refine blk_far ?_ NB696_702.out _; refine blk_far ?_ NB696_702.out _; refine blk_far ?_ NB696_717.out _; refine blk_far ?_ NB696_717.out _; refine blk_far ?_ NB696_717.out _; exact BK696.out⟩, ⟨by refine blk_put (cs := #[.int .i64 t709, .slice Ao23 t710.length co23, .slice Ao16 x703002_1.length co16]) ?_ 2 _ rfl; refine blk_put (cs := #[.int .i64 t709, .slice Ao15 x703001_1.length co15, .slice Ao16 x703002_1.length co16]) ?_ 1 _ rfl; refine blk_put (cs := #[.int .i64 x703000_1, .slice Ao15 x703001_1.length co15, .slice Ao16 x703002_1.length co16]) ?_ 0 _ rfl; refine blk_far ?_ NB702_717.out _; refine blk_far ?_ NB702_717.out _; refine blk_far ?_ NB702_717.out _; exact BK702.out⟩, ⟨by repeat ((with_reducible first | exact HI0.out | refine IsS99.far ?_ NB0_702.out _ | refine IsS99.far ?_ NB0_717.out _))⟩, ⟨by repeat ((with_reducible first | exact HK.out | refine keep_far ?_ GW702.out _ | refine keep_far ?_ GW717.out _))⟩, ⟨by repeat ((with_reducible first | exact HB.out | refine below_set ?_ GE702.out | refine below_set ?_ GE717.out))⟩⟩
  rw [if_neg c12] at H
  have c12b0 : decide (0 < x4_1) = false := decide_eq_false c12
  clear c12
  by_cases c34 : (x703002_1.length : Int) > 0
  rotate_left
  ·rw [if_neg c34] at H
   have c34b0 : decide (0 < (x703002_1.length : Int)) = false := decide_eq_false c34
   have c34b1 : decide (0 < x703002_1.length) = false := decide_eq_false (by omega)
   clear c34
   replace H := Option.bind_eq_some_iff.mp H
   obtain ⟨⟨t753, t754, t757⟩, A990, H⟩ := H
   have A99 := ak A990
   clear A990
   simp only [Option.some.injEq, Prod.mk.injEq] at H
   obtain ⟨rfl, rfl, rfl, rfl⟩ := H
   have hnb100 := NB702_696.out
   have hnc100 := NB696_702.out
   have hnb101 := NB702_0.out
   have hnc101 := NB0_702.out
   have hcz102_0 := bc wr BK702 0 (.int .i64 x703000_1) rfl
   have hcz102_1 := bc wr BK702 1 (u703001) rfl
   have hcz102_2 := bc wr BK702 2 (u703002) rfl
   have hfz102_0 := fz BK702 0
   have hfz102_1 := fz BK702 1
   have hfz102_2 := fz BK702 2
   obtain ⟨Ao103, co103, eo103⟩ := Kd.R_slice HO_703002.out
   subst eo103
   obtain ⟨Ao104, co104, eo104⟩ := Kd.R_slice HO_703001.out
   subst eo104
   go_wp2_with (((with_reducible refine gate_callee (f := 114) rfl ?_); refine goesL_ (some 61) rfl rfl Try.func114 (by kernel_rfl) rfl #[.agg #[.int .i64 x703000_1, .slice Ao104 x703001_1.length co104, .slice Ao103 x703002_1.length co103]] rfl (by (try simp only [List.map_toArray, List.map_cons, List.map_nil]); rfl) ?_; (with_reducible refine (spec_l16Copy.calls x703000_1 _ _ x703001_1 _ _ x703002_1 t753 t754 t757 _ ?side1 ?side2 ?side3 ?side4 A99.out).mono ?_); (case side1 => repeat (exact (Kd.R_reads' HO_703001.out).2.2)); (case side2 => exact (Kd.R_reads' HO_703001.out).2.1); (case side3 => repeat (exact (Kd.R_reads' HO_703002.out).2.2)); (case side4 => exact (Kd.R_reads' HO_703002.out).2.1); rintro e w105 ⟨v755, v758, rfl, ho0, ho1, hb⟩; refine ⟨_, rfl, ?_⟩; have HO756 := ak (Kd.R_lower (Kd.R_new' ho0 (Kd.R_lt (rk HO_703001))) (keep_size (w := w) (g := g) (row := none) (by repeat ((with_reducible exact HK.out))))); replace HO_703001 := ak (Kd.R_elder' (rk HO_703001) (Kd.R_base ho0) hb); have HO759 := ak (Kd.R_lower (Kd.R_new' ho1 (Kd.R_lt (rk HO_703002))) (keep_size (w := w) (g := g) (row := none) (by repeat ((with_reducible exact HK.out))))); replace HO_703002 := ak (Kd.R_elder' (rk HO_703002) (Kd.R_base ho1) hb); replace BK696 := ak (blk_below (bk BK696) hb); replace BK702 := ak (blk_below (bk BK702) hb); replace HK := ak (KeepBut.trans (by repeat ((with_reducible exact HK.out))) (KeepBut.of_below hb g none) (.inl rfl)); replace HB := ak (below_step (by repeat ((with_reducible exact HB.out))) hb); replace HI0 := ak (IsS99.below (by repeat ((with_reducible exact HI0.out))) hb); (try clear hb); (try clear hb2); (try clear hk); (try clear hi); (try clear ho0); (try clear ho1); have hnb106 := NB696_0.out; have hnc106 := NB0_696.out; have hcz107_0 := bc w105 BK696 0 (.int .i64 0) rfl; have hcz107_1 := bc w105 BK696 1 (.slice none 0 0) rfl; have hcz107_2 := bc w105 BK696 2 (.slice none 0 0) rfl; have hfz107_0 := fz BK696 0; have hfz107_1 := fz BK696 1; have hfz107_2 := fz BK696 2; obtain ⟨Ao108, co108, eo108⟩ := Kd.R_slice HO756.out; subst eo108; obtain ⟨Ao109, co109, eo109⟩ := Kd.R_slice HO759.out; subst eo109))
   refine bodyPost_ret (results_cell_row rfl _ _ gb696 44 #[.int .i64 t753, .slice Ao108 t754.length co108, .slice Ao109 t757.length co109] (0, 0) _ rfl (by refine blk_put (cs := #[.int .i64 t753, .slice Ao108 t754.length co108, .slice none 0 0]) ?_ 2 _ rfl; refine blk_put (cs := #[.int .i64 t753, .slice none 0 0, .slice none 0 0]) ?_ 1 _ rfl; refine blk_put (cs := #[.int .i64 0, .slice none 0 0, .slice none 0 0]) ?_ 0 _ rfl; exact BK696.out) Try.underlying44 rfl (by kernel_rfl)) rfl ?_
   exact ⟨_, _, by rfl, by exact Kd.R_mono (Kd.R_far (p := ⟨gb696, 2, none⟩) (Kd.R_far (p := ⟨gb696, 1, none⟩) (Kd.R_far (p := ⟨gb696, 0, none⟩) (Kd.R_types HO756.out BK696.out (by decide)) (fun _ hk => hk.2) (.int .i64 t753)) (fun _ hk => hk.2) (.slice Ao108 t754.length co108)) (fun _ hk => hk.2) (.slice Ao109 t757.length co109)) (fun _ hk => trivial), by exact Kd.R_mono (Kd.R_far (p := ⟨gb696, 2, none⟩) (Kd.R_far (p := ⟨gb696, 1, none⟩) (Kd.R_far (p := ⟨gb696, 0, none⟩) (Kd.R_types HO759.out BK696.out (by decide)) (fun _ hk => hk.2) (.int .i64 t753)) (fun _ hk => hk.2) (.slice Ao108 t754.length co108)) (fun _ hk => hk.2) (.slice Ao109 t757.length co109)) (fun _ hk => trivial), by repeat ((with_reducible first | exact HI0.out | refine IsS99.far ?_ NB0_696.out _)), by repeat ((with_reducible first | exact HB.out | refine below_set ?_ GE696.out)), by repeat ((with_reducible first | exact HK.out | refine keep_far ?_ GW696.out _))⟩
  rw [if_pos c34] at H
  have c34b0 : decide (0 < (x703002_1.length : Int)) = true := decide_eq_true c34
  have c34b1 : decide (0 < x703002_1.length) = true := decide_eq_true (by omega)
  clear c34
  replace H := Option.bind_eq_some_iff.mp H
  obtain ⟨⟨t718, t719⟩, A350, H⟩ := H
  have A35 := ak A350
  clear A350
  replace H := Option.bind_eq_some_iff.mp H
  obtain ⟨⟨t720, t721⟩, A360, H⟩ := H
  have A36 := ak A360
  clear A360
  by_cases c37 : t720 = 0
  ·rw [if_pos c37] at H
   have c37b0 : (t720 == 0) = true := beq_iff_eq.mpr c37
   have c37b1 : (t720 != 0) = false := bne_eq_false_iff_eq.mpr c37
   clear c37
   obtain ⟨y722, hy722⟩ : ∃ y_ : List Int, y_ = (([(-2), 100] : List Int)) := ⟨_, rfl⟩
   replace H : ((spec_l30Rd_one.f k1 s0_0 t721 y722).bind fun bt725 => (if 0 ≤ t718 then (if t718 < (x703002_1.length : Int) then ((spec_l16Copy.f x703000_1 x703001_1 (x703002_1.set (t718 : Int).toNat (⟨(rd_T113 x703002_1 t718).f0, (rd_T113 x703002_1 t718).f1, bt725.1⟩ : S113))).bind fun bt728 => (some (bt728.1, bt728.2.1, bt728.2.2, bt725.2))) else (none)) else (none))) = some (r1, r2, r3, r4) := by (rw [hy722]; with_reducible exact H)
   have Ny722 := ak hy722
   clear hy722
   replace H := Option.bind_eq_some_iff.mp H
   obtain ⟨⟨t725, t726⟩, A380, H⟩ := H
   have A38 := ak A380
   clear A380
   by_cases c39 : 0 ≤ t718
   rotate_left
   ·rw [if_neg c39] at H
    exact absurd H (by simp)
   rw [if_pos c39] at H
   have c39b0 : decide (0 ≤ t718) = true := decide_eq_true c39
   clear c39
   by_cases c40 : t718 < (x703002_1.length : Int)
   rotate_left
   ·rw [if_neg c40] at H
    exact absurd H (by simp)
   rw [if_pos c40] at H
   have c40b0 : decide (t718 < (x703002_1.length : Int)) = true := decide_eq_true c40
   clear c40
   obtain ⟨y727, hy727⟩ : ∃ y_ : List (S113), y_ = (x703002_1.set (t718 : Int).toNat (⟨(rd_T113 x703002_1 t718).f0, (rd_T113 x703002_1 t718).f1, t725⟩ : S113)) := ⟨_, rfl⟩
   replace H : ((spec_l16Copy.f x703000_1 x703001_1 y727).bind fun bt728 => (some (bt728.1, bt728.2.1, bt728.2.2, t726))) = some (r1, r2, r3, r4) := by (rw [hy727]; with_reducible exact H)
   have Ny727 := ak hy727
   clear hy727
   replace H := Option.bind_eq_some_iff.mp H
   obtain ⟨⟨t728, t729, t732⟩, A420, H⟩ := H
   have A42 := ak A420
   clear A420
   simp only [Option.some.injEq, Prod.mk.injEq] at H
   obtain ⟨rfl, rfl, rfl, rfl⟩ := H
   have hnb43 := NB702_696.out
   have hnc43 := NB696_702.out
   have hnb44 := NB702_0.out
   have hnc44 := NB0_702.out
   have hcz45_0 := bc wr BK702 0 (.int .i64 x703000_1) rfl
   have hcz45_1 := bc wr BK702 1 (u703001) rfl
   have hcz45_2 := bc wr BK702 2 (u703002) rfl
   have hfz45_0 := fz BK702 0
   have hfz45_1 := fz BK702 1
   have hfz45_2 := fz BK702 2
   obtain ⟨Ao46, co46, eo46⟩ := Kd.R_slice HO_703002.out
   subst eo46
   try go_wp2_with (first | ((with_reducible refine gate_callee (f := 102) rfl ?_); refine goesL_ (some 35) rfl rfl Try.func102 (by kernel_rfl) rfl #[.pointer (some ⟨g, 0, none⟩), .int .i64 (x703002_1.length : Int)] rfl (by (try simp only [List.map_toArray, List.map_cons, List.map_nil]); rfl) ?_; (with_reducible refine (spec_l30Rd_pick.calls k1 g s0_0 x1001_1 (x703002_1.length : Int) t718 t719 w0 _ ?side1 ?side2 A35.out).mono ?_); (case side1 => repeat ((with_reducible exact HI0.out))); (case side2 => repeat ((with_reducible exact HB.out))); rintro e w47 ⟨rfl, hi, hb, hk⟩; refine ⟨_, rfl, ?_⟩; replace HO_703001 := ak (Kd.R_mono (Kd.R_keep (IsS99.apart (show IsS99 w0 _ g s0_0 x1001_1 from by repeat ((with_reducible exact HI0.out))) (rk HO_703001) (by decide)) hk (fun _ h => h.2)) (fun _ h => h.1)); replace HO_703002 := ak (Kd.R_mono (Kd.R_keep (IsS99.apart (show IsS99 w0 _ g s0_0 x1001_1 from by repeat ((with_reducible exact HI0.out))) (rk HO_703002) (by decide)) hk (fun _ h => h.2)) (fun _ h => h.1)); replace BK696 := ak (KeepBut.blk hk (g' := gb696) (o := .cells #[.int .i64 0, .slice none 0 0, .slice none 0 0] 44 (0, 0)) (bk BK696) NB696_0.out (by simp)); replace BK702 := ak (KeepBut.blk hk (g' := gb702) (o := .cells #[.int .i64 x703000_1, u703001, .slice Ao46 x703002_1.length co46] 44 (0, 0)) (bk BK702) NB702_0.out (by simp)); replace HK := ak (KeepBut.trans (by repeat ((with_reducible exact HK.out))) hk (.inl rfl)); replace HB := ak (hb); replace HI0 := ak (hi); (try clear hb); (try clear hb2); (try clear hk); (try clear hi)) | ((with_reducible refine gate_callee (f := 102) rfl ?_); refine goesL_ (some 37) rfl rfl Try.func102 (by kernel_rfl) rfl #[.pointer (some ⟨g, 0, none⟩), .int .i64 14] rfl (by (try simp only [List.map_toArray, List.map_cons, List.map_nil]); rfl) ?_; (with_reducible refine (spec_l30Rd_pick.calls k1 g s0_0 t719 14 t720 t721 w0 _ ?side1 ?side2 A36.out).mono ?_); (case side1 => repeat ((with_reducible exact HI0.out))); (case side2 => repeat ((with_reducible exact HB.out))); rintro e w48 ⟨rfl, hi, hb, hk⟩; refine ⟨_, rfl, ?_⟩; replace HO_703001 := ak (Kd.R_mono (Kd.R_keep (IsS99.apart (show IsS99 w0 _ g s0_0 t719 from by repeat ((with_reducible exact HI0.out))) (rk HO_703001) (by decide)) hk (fun _ h => h.2)) (fun _ h => h.1)); replace HO_703002 := ak (Kd.R_mono (Kd.R_keep (IsS99.apart (show IsS99 w0 _ g s0_0 t719 from by repeat ((with_reducible exact HI0.out))) (rk HO_703002) (by decide)) hk (fun _ h => h.2)) (fun _ h => h.1)); replace BK696 := ak (KeepBut.blk hk (g' := gb696) (o := .cells #[.int .i64 0, .slice none 0 0, .slice none 0 0] 44 (0, 0)) (bk BK696) NB696_0.out (by simp)); replace BK702 := ak (KeepBut.blk hk (g' := gb702) (o := .cells #[.int .i64 x703000_1, u703001, .slice Ao46 x703002_1.length co46] 44 (0, 0)) (bk BK702) NB702_0.out (by simp)); replace HK := ak (KeepBut.trans (by repeat ((with_reducible exact HK.out))) hk (.inl rfl)); replace HB := ak (hb); replace HI0 := ak (hi); (try clear hb); (try clear hb2); (try clear hk); (try clear hi)))
   replace HO_703001 := ak (Kd.R_drew HO_703001.out)
   replace HO_703002 := ak (Kd.R_drew HO_703002.out)
   replace BK696 := ak (blk_drew BK696.out)
   replace BK702 := ak (blk_drew BK702.out)
   replace HI0 := ak (IsS99.drew HI0.out)
   replace HK := ak (keep_drew HK.out)
   replace HB := ak (below_drew1 HB.out)
   refine start_ (n := 9) (S := fun w' => w'.cell? ⟨gb702, 0, none⟩ = some (.int .i64 x703000_1) ∧ w'.cell? ⟨gb702, 1, none⟩ = some (u703001) ∧ w'.cell? ⟨gb702, 2, none⟩ = some (.slice Ao46 x703002_1.length co46)) (ds := [8]) (ms 9 0) (by kernel_rfl) rfl (by kernel_rfl) ⟨(blk_cell BK702.out 0).trans rfl, (blk_cell BK702.out 1).trans rfl, (blk_cell BK702.out 2).trans rfl⟩ (fun hHeld => ?_); refine with_tabW spec_l30Live.tab11 spec_l30Live.bits11 (fun HT_ HW_ => ?_)
   generalize w48.drew = w49 at HO_703001 HO_703002 BK696 BK702 HI0 HK HB hHeld ⊢
   refine pu 0 40 ?_ (ms 9 1) rfl rfl HT_ (by kernel_rfl) (fun _ _ _ h => h) (by rfl) ?_ ?_ ?_ ?_
   rotate_left
   ·intro w'
    go_simp
    with_reducible rfl
   rotate_left
   ·simp only [SX]
    rfl
   refine pu 2 42 ?_ (ms 9 5) rfl rfl HT_ (by kernel_rfl) (fun _ _ _ h => h) (by rfl) ?_ ?_ ?_ ?_
   rotate_left
   ·intro w'
    go_simp
    with_reducible rfl
   rotate_left
   ·simp only [SX]
    rfl
   refine pu 3 43 ?_ (ms 9 13) rfl rfl HT_ (by kernel_rfl) (fun _ _ _ h => h) (by rfl) ?_ ?_ ?_ ?_
   rotate_left
   ·intro w'
    go_simp
    with_reducible rfl
   rotate_left
   ·simp only [SX]
    rfl
   refine tk 1 41 ?_ (ms 9 15) rfl rfl HT_ HW_ (by kernel_rfl) (fun _ _ _ h => h) (by rfl) ?_ hHeld ?_ ?_ ?_
   rotate_left
   ·rintro w' ⟨s0, s1, s2⟩
    go_simp
    with_reducible rfl
   rotate_left
   ·simp only [SX]
    rfl
   refine one_ (i := 4) (N := some 44) (ms 9 31) rfl rfl (one_of HT_.out (by kernel_rfl)) (by decide) (fun K hK => ?_)
   refine Kd.R_lit_step (Kd.int .i64) _ 3 ?hg (N := 44) ?hd (xs := ([(-2), 100] : List Int)) (inner := [.int .i64 (-2), .int .i64 100]) (ok := fun _ => True) (okp := fun _ => True) ?hr ?hp (fun _ hk => hk) trivial (Below.refl _ _) (Nat.le_refl _) (by simp) ?_; (case hd => rfl); (case hg => rfl); (case hr => (go_simp; done)); (case hp => exact (Reps.one (show Kd.M (Kd.int .i64) _ _ _ (-2) [.int .i64 (-2)] from rfl) (Reps.one (show Kd.M (Kd.int .i64) _ _ _ 100 [.int .i64 100] from rfl) (Reps.none _ _))))
   intro v723 w50 ho51 hb hg_ hnew_
   clear hg_ hnew_
   (rw [← Ny722.out] at ho51)
   replace HO_703001 := ak (Kd.R_below (rk HO_703001) hb)
   replace HO_703002 := ak (Kd.R_below (rk HO_703002) hb)
   have HO724 := ak (Kd.R_lower ho51 (keep_size (w := w) (g := g) (row := none) (by repeat ((with_reducible exact HK.out)))))
   replace BK696 := ak (blk_below (bk BK696) hb)
   replace BK702 := ak (blk_below (bk BK702) hb)
   replace HK := ak (KeepBut.trans (by repeat ((with_reducible exact HK.out))) (KeepBut.of_below hb g none) (.inl rfl))
   replace HB := ak (below_step (by repeat ((with_reducible exact HB.out))) hb)
   replace HI0 := ak (IsS99.below (by repeat ((with_reducible exact HI0.out))) hb)
   clear hb ho51
   obtain ⟨Ao52, co52, eo52⟩ := Kd.R_slice HO724.out
   (subst eo52)
   refine hK.out _ _ ⟨(blk_cell BK702.out 0).trans rfl, (blk_cell BK702.out 1).trans rfl, (blk_cell BK702.out 2).trans rfl⟩ (fun hHeld => ?_)
   clear hK K
   refine norm_ (a' := ?_) ?_ ?_
   rotate_left
   ·show Act.put _ (some 44) _ = _
    simp only [SX]
    rfl
   refine one_ (i := 5) (N := some 45) (ms 9 63) rfl rfl (one_of HT_.out (by kernel_rfl)) (by decide) (fun K hK => ?_)
   refine goes_ Try.func96 (by kernel_rfl) rfl #[.pointer (some ⟨g, 0, none⟩), .slice Ao52 y722.length co52] (by rfl) rfl rfl (by (try simp only [List.map_toArray, List.map_cons, List.map_nil]); rfl) ?_
   with_reducible refine (spec_l30Rd_one.calls k1 g s0_0 t721 _ _ y722 t725 t726 w0 _ ?side1 ?side2 ?side3 ?side4 ?side5 A38.out).mono ?_
   (case side1 => repeat ((with_reducible exact HI0.out)))
   (case side2 => repeat ((with_reducible exact HB.out)))
   (case side3 => repeat (exact (Kd.R_reads' HO724.out).2.2))
   (case side4 => exact (Kd.R_reads' HO724.out).2.1)
   (case side5 => exact far_slice (IsS99.own_ne HI0.out HO724.out (by decide)))
   rintro e w53 ⟨rfl, hi, hb, hk⟩
   refine ⟨_, rfl, ?_⟩
   replace HO_703001 := ak (Kd.R_mono (Kd.R_keep (IsS99.apart (show IsS99 w0 _ g s0_0 t721 from by repeat ((with_reducible exact HI0.out))) (rk HO_703001) (by decide)) hk (fun _ h => h.2)) (fun _ h => h.1))
   replace HO_703002 := ak (Kd.R_mono (Kd.R_keep (IsS99.apart (show IsS99 w0 _ g s0_0 t721 from by repeat ((with_reducible exact HI0.out))) (rk HO_703002) (by decide)) hk (fun _ h => h.2)) (fun _ h => h.1))
   replace BK696 := ak (KeepBut.blk hk (g' := gb696) (o := .cells #[.int .i64 0, .slice none 0 0, .slice none 0 0] 44 (0, 0)) (bk BK696) NB696_0.out (by simp))
   replace BK702 := ak (KeepBut.blk hk (g' := gb702) (o := .cells #[.int .i64 x703000_1, u703001, .slice Ao46 x703002_1.length co46] 44 (0, 0)) (bk BK702) NB702_0.out (by simp))
   replace HO724 := ak (Kd.R_mono (Kd.R_keep (IsS99.apart (show IsS99 w0 _ g s0_0 t721 from by repeat ((with_reducible exact HI0.out))) (rk HO724) (by decide)) hk (fun _ h => h.2)) (fun _ h => h.1))
   replace HK := ak (KeepBut.trans (by repeat ((with_reducible exact HK.out))) hk (.inl rfl))
   replace HB := ak (hb)
   replace HI0 := ak (hi)
   (try clear hb)
   (try clear hb2)
   (try clear hk)
   (try clear hi)
   have p41 : 0 ≤ (t718 : Int) := oT (by (with_reducible assumption))
   have q41 : (t718 : Int) < ((x703002_1.length : Int) : Int) := oT (by (with_reducible assumption))
   obtain ⟨go41, co41, eo41, gb41, gl41, cl41, HG41⟩ := Kd.R_form HO_703002.out (by omega)
   (cases eo41)
   have GB41 := ak gb41
   have GG41 := ak HG41
   clear gb41 gl41 HG41
   obtain ⟨ce41, hcl41, hM41, hcc41, hfr41⟩ := Kd.R_elem HO_703002.out z113 (t718 : Int) p41 q41
   obtain rfl := k113_openM hM41
   have hx41_0 : World.cell? _ ⟨go41, (t718 : Int).toNat * 3, none⟩ = some (.int .i64 ((rd_T113 x703002_1 t718).f0)) := hcc41 0 _ rfl
   have hx41_1 : World.cell? _ ⟨go41, (t718 : Int).toNat * 3 + 1, none⟩ = some (.int .i64 ((rd_T113 x703002_1 t718).f1)) := hcc41 1 _ rfl
   have hx41_2 : World.cell? _ ⟨go41, (t718 : Int).toNat * 3 + 2, none⟩ = some (.int .i64 ((rd_T113 x703002_1 t718).f2)) := hcc41 2 _ rfl
   have hf41_0 : World.frozen? _ ⟨go41, (t718 : Int).toNat * 3, none⟩ = false := hfr41 0
   have hf41_1 : World.frozen? _ ⟨go41, (t718 : Int).toNat * 3 + 1, none⟩ = false := hfr41 1
   have hf41_2 : World.frozen? _ ⟨go41, (t718 : Int).toNat * 3 + 2, none⟩ = false := hfr41 2
   clear hcl41 hcc41 hfr41 hM41
   replace p41 := eq_true p41
   replace q41 := eq_true q41
   have HN0_go41 := ak (show g ≠ go41 from by have h_ := IsS99.own_ne HI0.out HO_703002.out (by decide); intro e_; exact h_ (by rw [e_]; rfl))
   obtain ⟨ce54, hcl54, hM54, hcc54, hfr54⟩ := Kd.R_elem HO_703002.out z113 (t718 : Int) (oT (by (with_reducible assumption))) (by have h_ : (t718 : Int) < ((x703002_1.length : Int) : Int) := oT (by (with_reducible assumption)); exact h_)
   obtain rfl := k113_openM hM54
   have HP54 := (Kd.R_seg HO_703002.out (t718 : Int) (oT (by (with_reducible assumption))) (by have h_ : (t718 : Int) < ((x703002_1.length : Int) : Int) := oT (by (with_reducible assumption)); exact h_) (seg := [.int .i64 t725]) (j := 2) hcl54 hcc54 (show 3 ≤ 3 from by decide) (x' := (⟨(rd_T113 x703002_1 t718).f0, (rd_T113 x703002_1 t718).f1, t725⟩ : S113)) (k113_mkM _ _ _ (⟨(rd_T113 x703002_1 t718).f0, (rd_T113 x703002_1 t718).f1, t725⟩ : S113) ) (fun _ hk => hk)).1
   rw [← Ny727.out] at HP54
   have HQ54 := ak HP54
   clear hcl54 hcc54 hfr54 hM54 HP54
   refine hK.out _ _ ⟨(blk_cell BK702.out 0).trans rfl, (blk_cell BK702.out 1).trans rfl, (blk_cell BK702.out 2).trans rfl⟩ (fun hHeld => ?_)
   clear hK K
   refine norm_ (a' := ?_) ?_ ?_
   rotate_left
   ·show Act.put _ (some 45) _ = _
    simp only [SX]
    rfl
   refine pu 6 46 ?_ (ms 9 127) rfl rfl HT_ (by kernel_rfl) (fun _ _ _ h => h) (by rfl) ?_ ?_ ?_ ?_
   rotate_left
   ·intro w'
    go_simp
    with_reducible rfl
   rotate_left
   ·simp only [SX]
    rfl
   refine pu 7 47 ?_ (ms 9 255) rfl rfl HT_ (by kernel_rfl) (fun _ _ _ h => h) (by rfl) ?_ ?_ ?_ ?_
   rotate_left
   ·intro w'
    go_simp
    with_reducible rfl
   rotate_left
   ·simp only [SX]
    rfl
   refine last_ (i := 8) (N := none) (ms 9 511) rfl rfl (one_of HT_.out (by kernel_rfl)) (by decide) (fun K hK => ?_)
   refine skip_ (w1 := ?_) (by rfl) rfl ?_ ?_
   rotate_left
   ·go_simp
    rfl
   refine hK.out _ _ ?_
   clear hK K
   refine done_ (done_of HT_.out (by kernel_rfl)) ?_
   have n0_ : Aside0 (Kd.R k41 41 (w53.setCell ⟨go41, (t718 : Int).toNat * 3 + 2, none⟩ (.int .i64 t725)) w.heap.size (fun _ => True) u703001 x703001_1) := ⟨by exact Kd.R_mono (Kd.R_far (p := ⟨go41, (t718 : Int).toNat * 3 + 2, none⟩) (Kd.R_types HO_703001.out GG41.out (by decide)) (fun _ hk => hk.2) (.int .i64 t725)) (fun _ hk => trivial)⟩
   have n1_ : Aside0 (Kd.R k113 113 (w53.setCell ⟨go41, (t718 : Int).toNat * 3 + 2, none⟩ (.int .i64 t725)) w.heap.size (fun _ => True) (.slice (some ⟨go41, 0, none⟩) x703002_1.length co46) y727) := ⟨by exact HQ54.out⟩
   have n2_ : Aside0 (Kd.R (Kd.int .i64) 3 (w53.setCell ⟨go41, (t718 : Int).toNat * 3 + 2, none⟩ (.int .i64 t725)) w.heap.size (fun _ => True) (.slice Ao52 y722.length co52) y722) := ⟨by exact Kd.R_mono (Kd.R_far (p := ⟨go41, (t718 : Int).toNat * 3 + 2, none⟩) (Kd.R_types HO724.out GG41.out (by decide)) (fun _ hk => hk.2) (.int .i64 t725)) (fun _ hk => trivial)⟩
   have n3_ : Aside0 ((w53.setCell ⟨go41, (t718 : Int).toNat * 3 + 2, none⟩ (.int .i64 t725)).heap[gb696]? = some (.cells #[.int .i64 0, .slice none 0 0, .slice none 0 0] 44 (0, 0))) := ⟨by refine blk_far ?_ (by have h_ := Kd.R_ne HO_703002.out BK696.out (by decide); intro e_; exact h_ (by rw [e_]; rfl)) _; exact BK696.out⟩
   have n4_ : Aside0 ((w53.setCell ⟨go41, (t718 : Int).toNat * 3 + 2, none⟩ (.int .i64 t725)).heap[gb702]? = some (.cells #[.int .i64 x703000_1, u703001, .slice (some ⟨go41, 0, none⟩) x703002_1.length co46] 44 (0, 0))) := ⟨by refine blk_far ?_ (by have h_ := Kd.R_ne HO_703002.out BK702.out (by decide); intro e_; exact h_ (by rw [e_]; rfl)) _; exact BK702.out⟩
   have n5_ : Aside0 (IsS99 w0 (w53.setCell ⟨go41, (t718 : Int).toNat * 3 + 2, none⟩ (.int .i64 t725)) g s0_0 t726) := ⟨by repeat ((with_reducible first | exact HI0.out | refine IsS99.far ?_ HN0_go41.out _))⟩
   have n6_ : Aside0 (KeepBut w (w53.setCell ⟨go41, (t718 : Int).toNat * 3 + 2, none⟩ (.int .i64 t725)) g none) := ⟨by repeat ((with_reducible first | exact HK.out | refine keep_far ?_ GB41.out _))⟩
   have n7_ : Aside0 (Below w0.heap.size w0 (w53.setCell ⟨go41, (t718 : Int).toNat * 3 + 2, none⟩ (.int .i64 t725))) := ⟨by repeat ((with_reducible first | exact HB.out | refine below_set ?_ (Nat.le_trans HL.out GB41.out)))⟩
   (try clear HO_703001)
   (try clear HO_703002)
   (try clear HO724)
   (try clear BK696)
   (try clear BK702)
   (try clear HI0)
   (try clear HK)
   (try clear HB)
   generalize (w53.setCell ⟨go41, (t718 : Int).toNat * 3 + 2, none⟩ (.int .i64 t725)) = w55 at n0_ n1_ n2_ n3_ n4_ n5_ n6_ n7_ ⊢
   have HO_703001 := n0_
   have HO_703002 := n1_
   have HO724 := n2_
   have BK696 := n3_
   have BK702 := n4_
   have HI0 := n5_
   have HK := n6_
   have HB := n7_
   clear n0_ n1_ n2_ n3_ n4_ n5_ n6_ n7_
   have hcz56_0 := bc w55 BK702 0 (.int .i64 x703000_1) rfl
   have hcz56_1 := bc w55 BK702 1 (u703001) rfl
   have hcz56_2 := bc w55 BK702 2 (.slice (some ⟨go41, 0, none⟩) x703002_1.length co46) rfl
   have hfz56_0 := fz BK702 0
   have hfz56_1 := fz BK702 1
   have hfz56_2 := fz BK702 2
   obtain ⟨Ao57, co57, eo57⟩ := Kd.R_slice HO_703001.out
   subst eo57
   try go_wp2_with (((with_reducible refine gate_callee (f := 114) rfl ?_); refine goesL_ (some 61) rfl rfl Try.func114 (by kernel_rfl) rfl #[.agg #[.int .i64 x703000_1, .slice Ao57 x703001_1.length co57, .slice (some ⟨go41, 0, none⟩) y727.length co46]] rfl (by (try simp only [List.map_toArray, List.map_cons, List.map_nil]); (rw [show y727.length = x703002_1.length from (Kd.R_reads' HO_703002.out).1.symm] <;> rfl)) ?_; (with_reducible refine (spec_l16Copy.calls x703000_1 _ _ x703001_1 _ _ y727 t728 t729 t732 _ ?side1 ?side2 ?side3 ?side4 A42.out).mono ?_); (case side1 => repeat (exact (Kd.R_reads' HO_703001.out).2.2)); (case side2 => exact (Kd.R_reads' HO_703001.out).2.1); (case side3 => repeat (exact (Kd.R_reads' HO_703002.out).2.2)); (case side4 => rw [show y727.length = x703002_1.length from (Kd.R_reads' HO_703002.out).1.symm]; exact (Kd.R_reads' HO_703002.out).2.1); rintro e w58 ⟨v730, v733, rfl, ho0, ho1, hb⟩; refine ⟨_, rfl, ?_⟩; replace HO724 := ak (Kd.R_below (rk HO724) hb); have HO731 := ak (Kd.R_lower (Kd.R_new' ho0 (Kd.R_lt (rk HO_703001))) (keep_size (w := w) (g := g) (row := none) (by repeat ((with_reducible exact HK.out))))); replace HO_703001 := ak (Kd.R_elder' (rk HO_703001) (Kd.R_base ho0) hb); have HO734 := ak (Kd.R_lower (Kd.R_new' ho1 (Kd.R_lt (rk HO_703002))) (keep_size (w := w) (g := g) (row := none) (by repeat ((with_reducible exact HK.out))))); replace HO_703002 := ak (Kd.R_elder' (rk HO_703002) (Kd.R_base ho1) hb); replace BK696 := ak (blk_below (bk BK696) hb); replace BK702 := ak (blk_below (bk BK702) hb); replace HK := ak (KeepBut.trans (by repeat ((with_reducible exact HK.out))) (KeepBut.of_below hb g none) (.inl rfl)); replace HB := ak (below_step (by repeat ((with_reducible exact HB.out))) hb); replace HI0 := ak (IsS99.below (by repeat ((with_reducible exact HI0.out))) hb); (try clear hb); (try clear hb2); (try clear hk); (try clear hi); (try clear ho0); (try clear ho1); have hnb59 := NB696_0.out; have hnc59 := NB0_696.out; have hcz60_0 := bc w58 BK696 0 (.int .i64 0) rfl; have hcz60_1 := bc w58 BK696 1 (.slice none 0 0) rfl; have hcz60_2 := bc w58 BK696 2 (.slice none 0 0) rfl; have hfz60_0 := fz BK696 0; have hfz60_1 := fz BK696 1; have hfz60_2 := fz BK696 2; obtain ⟨Ao61, co61, eo61⟩ := Kd.R_slice HO731.out; subst eo61; obtain ⟨Ao62, co62, eo62⟩ := Kd.R_slice HO734.out; subst eo62))
   refine bodyPost_ret (results_cell_row rfl _ _ gb696 44 #[.int .i64 t728, .slice Ao61 t729.length co61, .slice Ao62 t732.length co62] (0, 0) _ rfl (by refine blk_put (cs := #[.int .i64 t728, .slice Ao61 t729.length co61, .slice none 0 0]) ?_ 2 _ rfl; refine blk_put (cs := #[.int .i64 t728, .slice none 0 0, .slice none 0 0]) ?_ 1 _ rfl; refine blk_put (cs := #[.int .i64 0, .slice none 0 0, .slice none 0 0]) ?_ 0 _ rfl; exact BK696.out) Try.underlying44 rfl (by kernel_rfl)) rfl ?_
   exact ⟨_, _, by rfl, by exact Kd.R_mono (Kd.R_far (p := ⟨gb696, 2, none⟩) (Kd.R_far (p := ⟨gb696, 1, none⟩) (Kd.R_far (p := ⟨gb696, 0, none⟩) (Kd.R_types HO731.out BK696.out (by decide)) (fun _ hk => hk.2) (.int .i64 t728)) (fun _ hk => hk.2) (.slice Ao61 t729.length co61)) (fun _ hk => hk.2) (.slice Ao62 t732.length co62)) (fun _ hk => trivial), by exact Kd.R_mono (Kd.R_far (p := ⟨gb696, 2, none⟩) (Kd.R_far (p := ⟨gb696, 1, none⟩) (Kd.R_far (p := ⟨gb696, 0, none⟩) (Kd.R_types HO734.out BK696.out (by decide)) (fun _ hk => hk.2) (.int .i64 t728)) (fun _ hk => hk.2) (.slice Ao61 t729.length co61)) (fun _ hk => hk.2) (.slice Ao62 t732.length co62)) (fun _ hk => trivial), by repeat ((with_reducible first | exact HI0.out | refine IsS99.far ?_ NB0_696.out _)), by repeat ((with_reducible first | exact HB.out | refine below_set ?_ GE696.out)), by repeat ((with_reducible first | exact HK.out | refine keep_far ?_ GW696.out _))⟩
  rw [if_neg c37] at H
  have c37b0 : (t720 == 0) = false := beq_eq_false_iff_ne.mpr c37
  have c37b1 : (t720 != 0) = true := bne_iff_ne.mpr c37
  by_cases c63 : t720 = 1
  rotate_left
  ·rw [if_neg c63] at H
   have c63b0 : (t720 == 1) = false := beq_eq_false_iff_ne.mpr c63
   have c63b1 : (t720 != 1) = true := bne_iff_ne.mpr c63
   replace H := Option.bind_eq_some_iff.mp H
   obtain ⟨⟨t746, t747, t750⟩, A850, H⟩ := H
   have A85 := ak A850
   clear A850
   simp only [Option.some.injEq, Prod.mk.injEq] at H
   obtain ⟨rfl, rfl, rfl, rfl⟩ := H
   have hnb86 := NB702_696.out
   have hnc86 := NB696_702.out
   have hnb87 := NB702_0.out
   have hnc87 := NB0_702.out
   have hcz88_0 := bc wr BK702 0 (.int .i64 x703000_1) rfl
   have hcz88_1 := bc wr BK702 1 (u703001) rfl
   have hcz88_2 := bc wr BK702 2 (u703002) rfl
   have hfz88_0 := fz BK702 0
   have hfz88_1 := fz BK702 1
   have hfz88_2 := fz BK702 2
   obtain ⟨Ao89, co89, eo89⟩ := Kd.R_slice HO_703002.out
   subst eo89
   go_wp2_with (first | ((with_reducible refine gate_callee (f := 102) rfl ?_); refine goesL_ (some 35) rfl rfl Try.func102 (by kernel_rfl) rfl #[.pointer (some ⟨g, 0, none⟩), .int .i64 (x703002_1.length : Int)] rfl (by (try simp only [List.map_toArray, List.map_cons, List.map_nil]); rfl) ?_; (with_reducible refine (spec_l30Rd_pick.calls k1 g s0_0 x1001_1 (x703002_1.length : Int) t718 t719 w0 _ ?side1 ?side2 A35.out).mono ?_); (case side1 => repeat ((with_reducible exact HI0.out))); (case side2 => repeat ((with_reducible exact HB.out))); rintro e w90 ⟨rfl, hi, hb, hk⟩; refine ⟨_, rfl, ?_⟩; replace HO_703001 := ak (Kd.R_mono (Kd.R_keep (IsS99.apart (show IsS99 w0 _ g s0_0 x1001_1 from by repeat ((with_reducible exact HI0.out))) (rk HO_703001) (by decide)) hk (fun _ h => h.2)) (fun _ h => h.1)); replace HO_703002 := ak (Kd.R_mono (Kd.R_keep (IsS99.apart (show IsS99 w0 _ g s0_0 x1001_1 from by repeat ((with_reducible exact HI0.out))) (rk HO_703002) (by decide)) hk (fun _ h => h.2)) (fun _ h => h.1)); replace BK696 := ak (KeepBut.blk hk (g' := gb696) (o := .cells #[.int .i64 0, .slice none 0 0, .slice none 0 0] 44 (0, 0)) (bk BK696) NB696_0.out (by simp)); replace BK702 := ak (KeepBut.blk hk (g' := gb702) (o := .cells #[.int .i64 x703000_1, u703001, .slice Ao89 x703002_1.length co89] 44 (0, 0)) (bk BK702) NB702_0.out (by simp)); replace HK := ak (KeepBut.trans (by repeat ((with_reducible exact HK.out))) hk (.inl rfl)); replace HB := ak (hb); replace HI0 := ak (hi); (try clear hb); (try clear hb2); (try clear hk); (try clear hi)) | ((with_reducible refine gate_callee (f := 102) rfl ?_); refine goesL_ (some 37) rfl rfl Try.func102 (by kernel_rfl) rfl #[.pointer (some ⟨g, 0, none⟩), .int .i64 14] rfl (by (try simp only [List.map_toArray, List.map_cons, List.map_nil]); rfl) ?_; (with_reducible refine (spec_l30Rd_pick.calls k1 g s0_0 t719 14 t720 t721 w0 _ ?side1 ?side2 A36.out).mono ?_); (case side1 => repeat ((with_reducible exact HI0.out))); (case side2 => repeat ((with_reducible exact HB.out))); rintro e w91 ⟨rfl, hi, hb, hk⟩; refine ⟨_, rfl, ?_⟩; replace HO_703001 := ak (Kd.R_mono (Kd.R_keep (IsS99.apart (show IsS99 w0 _ g s0_0 t719 from by repeat ((with_reducible exact HI0.out))) (rk HO_703001) (by decide)) hk (fun _ h => h.2)) (fun _ h => h.1)); replace HO_703002 := ak (Kd.R_mono (Kd.R_keep (IsS99.apart (show IsS99 w0 _ g s0_0 t719 from by repeat ((with_reducible exact HI0.out))) (rk HO_703002) (by decide)) hk (fun _ h => h.2)) (fun _ h => h.1)); replace BK696 := ak (KeepBut.blk hk (g' := gb696) (o := .cells #[.int .i64 0, .slice none 0 0, .slice none 0 0] 44 (0, 0)) (bk BK696) NB696_0.out (by simp)); replace BK702 := ak (KeepBut.blk hk (g' := gb702) (o := .cells #[.int .i64 x703000_1, u703001, .slice Ao89 x703002_1.length co89] 44 (0, 0)) (bk BK702) NB702_0.out (by simp)); replace HK := ak (KeepBut.trans (by repeat ((with_reducible exact HK.out))) hk (.inl rfl)); replace HB := ak (hb); replace HI0 := ak (hi); (try clear hb); (try clear hb2); (try clear hk); (try clear hi); have hcz92_0 := bc w91 BK702 0 (.int .i64 x703000_1) rfl; have hcz92_1 := bc w91 BK702 1 (u703001) rfl; have hcz92_2 := bc w91 BK702 2 (.slice Ao89 x703002_1.length co89) rfl; have hfz92_0 := fz BK702 0; have hfz92_1 := fz BK702 1; have hfz92_2 := fz BK702 2; obtain ⟨Ao93, co93, eo93⟩ := Kd.R_slice HO_703001.out; subst eo93) | ((with_reducible refine gate_callee (f := 114) rfl ?_); refine goesL_ (some 61) rfl rfl Try.func114 (by kernel_rfl) rfl #[.agg #[.int .i64 x703000_1, .slice Ao93 x703001_1.length co93, .slice Ao89 x703002_1.length co89]] rfl (by (try simp only [List.map_toArray, List.map_cons, List.map_nil]); rfl) ?_; (with_reducible refine (spec_l16Copy.calls x703000_1 _ _ x703001_1 _ _ x703002_1 t746 t747 t750 _ ?side1 ?side2 ?side3 ?side4 A85.out).mono ?_); (case side1 => repeat (exact (Kd.R_reads' HO_703001.out).2.2)); (case side2 => exact (Kd.R_reads' HO_703001.out).2.1); (case side3 => repeat (exact (Kd.R_reads' HO_703002.out).2.2)); (case side4 => exact (Kd.R_reads' HO_703002.out).2.1); rintro e w94 ⟨v748, v751, rfl, ho0, ho1, hb⟩; refine ⟨_, rfl, ?_⟩; have HO749 := ak (Kd.R_lower (Kd.R_new' ho0 (Kd.R_lt (rk HO_703001))) (keep_size (w := w) (g := g) (row := none) (by repeat ((with_reducible exact HK.out))))); replace HO_703001 := ak (Kd.R_elder' (rk HO_703001) (Kd.R_base ho0) hb); have HO752 := ak (Kd.R_lower (Kd.R_new' ho1 (Kd.R_lt (rk HO_703002))) (keep_size (w := w) (g := g) (row := none) (by repeat ((with_reducible exact HK.out))))); replace HO_703002 := ak (Kd.R_elder' (rk HO_703002) (Kd.R_base ho1) hb); replace BK696 := ak (blk_below (bk BK696) hb); replace BK702 := ak (blk_below (bk BK702) hb); replace HK := ak (KeepBut.trans (by repeat ((with_reducible exact HK.out))) (KeepBut.of_below hb g none) (.inl rfl)); replace HB := ak (below_step (by repeat ((with_reducible exact HB.out))) hb); replace HI0 := ak (IsS99.below (by repeat ((with_reducible exact HI0.out))) hb); (try clear hb); (try clear hb2); (try clear hk); (try clear hi); (try clear ho0); (try clear ho1); have hnb95 := NB696_0.out; have hnc95 := NB0_696.out; have hcz96_0 := bc w94 BK696 0 (.int .i64 0) rfl; have hcz96_1 := bc w94 BK696 1 (.slice none 0 0) rfl; have hcz96_2 := bc w94 BK696 2 (.slice none 0 0) rfl; have hfz96_0 := fz BK696 0; have hfz96_1 := fz BK696 1; have hfz96_2 := fz BK696 2; obtain ⟨Ao97, co97, eo97⟩ := Kd.R_slice HO749.out; subst eo97; obtain ⟨Ao98, co98, eo98⟩ := Kd.R_slice HO752.out; subst eo98))
   refine bodyPost_ret (results_cell_row rfl _ _ gb696 44 #[.int .i64 t746, .slice Ao97 t747.length co97, .slice Ao98 t750.length co98] (0, 0) _ rfl (by refine blk_put (cs := #[.int .i64 t746, .slice Ao97 t747.length co97, .slice none 0 0]) ?_ 2 _ rfl; refine blk_put (cs := #[.int .i64 t746, .slice none 0 0, .slice none 0 0]) ?_ 1 _ rfl; refine blk_put (cs := #[.int .i64 0, .slice none 0 0, .slice none 0 0]) ?_ 0 _ rfl; exact BK696.out) Try.underlying44 rfl (by kernel_rfl)) rfl ?_
   exact ⟨_, _, by rfl, by exact Kd.R_mono (Kd.R_far (p := ⟨gb696, 2, none⟩) (Kd.R_far (p := ⟨gb696, 1, none⟩) (Kd.R_far (p := ⟨gb696, 0, none⟩) (Kd.R_types HO749.out BK696.out (by decide)) (fun _ hk => hk.2) (.int .i64 t746)) (fun _ hk => hk.2) (.slice Ao97 t747.length co97)) (fun _ hk => hk.2) (.slice Ao98 t750.length co98)) (fun _ hk => trivial), by exact Kd.R_mono (Kd.R_far (p := ⟨gb696, 2, none⟩) (Kd.R_far (p := ⟨gb696, 1, none⟩) (Kd.R_far (p := ⟨gb696, 0, none⟩) (Kd.R_types HO752.out BK696.out (by decide)) (fun _ hk => hk.2) (.int .i64 t746)) (fun _ hk => hk.2) (.slice Ao97 t747.length co97)) (fun _ hk => hk.2) (.slice Ao98 t750.length co98)) (fun _ hk => trivial), by repeat ((with_reducible first | exact HI0.out | refine IsS99.far ?_ NB0_696.out _)), by repeat ((with_reducible first | exact HB.out | refine below_set ?_ GE696.out)), by repeat ((with_reducible first | exact HK.out | refine keep_far ?_ GW696.out _))⟩
  rw [if_pos c63] at H
  have c63b0 : (t720 == 1) = true := beq_iff_eq.mpr c63
  have c63b1 : (t720 != 1) = false := bne_eq_false_iff_eq.mpr c63
  clear c63
  by_cases c64 : 0 ≤ t718
  rotate_left
  ·rw [if_neg c64] at H
   exact absurd H (by simp)
  rw [if_pos c64] at H
  have c64b0 : decide (0 ≤ t718) = true := decide_eq_true c64
  clear c64
  by_cases c65 : t718 < (x703002_1.length : Int)
  rotate_left
  ·rw [if_neg c65] at H
   exact absurd H (by simp)
  rw [if_pos c65] at H
  have c65b0 : decide (t718 < (x703002_1.length : Int)) = true := decide_eq_true c65
  clear c65
  by_cases c66 : x703002_1.length < 5864062014805
  rotate_left
  ·rw [if_neg c66] at H
   exact absurd H (by simp)
  rw [if_pos c66] at H
  have LMc66 := ak c66
  clear c66
  obtain ⟨y736, hy736⟩ : ∃ y_ : List (S113), y_ = (x703002_1 ++ [(⟨(rd_T113 x703002_1 t718).f0, (rd_T113 x703002_1 t718).f1, (rd_T113 x703002_1 t718).f2⟩ : S113)]) := ⟨_, rfl⟩
  replace H : ((spec_l16Copy.f x703000_1 x703001_1 y736).bind fun bt739 => (some (bt739.1, bt739.2.1, bt739.2.2, t721))) = some (r1, r2, r3, r4) := by (rw [hy736]; with_reducible exact H)
  have Ny736 := ak hy736
  clear hy736
  replace H := Option.bind_eq_some_iff.mp H
  obtain ⟨⟨t739, t740, t743⟩, A670, H⟩ := H
  have A67 := ak A670
  clear A670
  simp only [Option.some.injEq, Prod.mk.injEq] at H
  obtain ⟨rfl, rfl, rfl, rfl⟩ := H
  have hnb68 := NB702_696.out
  have hnc68 := NB696_702.out
  have hnb69 := NB702_0.out
  have hnc69 := NB0_702.out
  have hcz70_0 := bc wr BK702 0 (.int .i64 x703000_1) rfl
  have hcz70_1 := bc wr BK702 1 (u703001) rfl
  have hcz70_2 := bc wr BK702 2 (u703002) rfl
  have hfz70_0 := fz BK702 0
  have hfz70_1 := fz BK702 1
  have hfz70_2 := fz BK702 2
  obtain ⟨Ao71, co71, eo71⟩ := Kd.R_slice HO_703002.out
  subst eo71
  try go_wp2_with (first | ((with_reducible refine gate_callee (f := 102) rfl ?_); refine goesL_ (some 35) rfl rfl Try.func102 (by kernel_rfl) rfl #[.pointer (some ⟨g, 0, none⟩), .int .i64 (x703002_1.length : Int)] rfl (by (try simp only [List.map_toArray, List.map_cons, List.map_nil]); rfl) ?_; (with_reducible refine (spec_l30Rd_pick.calls k1 g s0_0 x1001_1 (x703002_1.length : Int) t718 t719 w0 _ ?side1 ?side2 A35.out).mono ?_); (case side1 => repeat ((with_reducible exact HI0.out))); (case side2 => repeat ((with_reducible exact HB.out))); rintro e w72 ⟨rfl, hi, hb, hk⟩; refine ⟨_, rfl, ?_⟩; replace HO_703001 := ak (Kd.R_mono (Kd.R_keep (IsS99.apart (show IsS99 w0 _ g s0_0 x1001_1 from by repeat ((with_reducible exact HI0.out))) (rk HO_703001) (by decide)) hk (fun _ h => h.2)) (fun _ h => h.1)); replace HO_703002 := ak (Kd.R_mono (Kd.R_keep (IsS99.apart (show IsS99 w0 _ g s0_0 x1001_1 from by repeat ((with_reducible exact HI0.out))) (rk HO_703002) (by decide)) hk (fun _ h => h.2)) (fun _ h => h.1)); replace BK696 := ak (KeepBut.blk hk (g' := gb696) (o := .cells #[.int .i64 0, .slice none 0 0, .slice none 0 0] 44 (0, 0)) (bk BK696) NB696_0.out (by simp)); replace BK702 := ak (KeepBut.blk hk (g' := gb702) (o := .cells #[.int .i64 x703000_1, u703001, .slice Ao71 x703002_1.length co71] 44 (0, 0)) (bk BK702) NB702_0.out (by simp)); replace HK := ak (KeepBut.trans (by repeat ((with_reducible exact HK.out))) hk (.inl rfl)); replace HB := ak (hb); replace HI0 := ak (hi); (try clear hb); (try clear hb2); (try clear hk); (try clear hi)) | ((with_reducible refine gate_callee (f := 102) rfl ?_); refine goesL_ (some 37) rfl rfl Try.func102 (by kernel_rfl) rfl #[.pointer (some ⟨g, 0, none⟩), .int .i64 14] rfl (by (try simp only [List.map_toArray, List.map_cons, List.map_nil]); rfl) ?_; (with_reducible refine (spec_l30Rd_pick.calls k1 g s0_0 t719 14 t720 t721 w0 _ ?side1 ?side2 A36.out).mono ?_); (case side1 => repeat ((with_reducible exact HI0.out))); (case side2 => repeat ((with_reducible exact HB.out))); rintro e w73 ⟨rfl, hi, hb, hk⟩; refine ⟨_, rfl, ?_⟩; replace HO_703001 := ak (Kd.R_mono (Kd.R_keep (IsS99.apart (show IsS99 w0 _ g s0_0 t719 from by repeat ((with_reducible exact HI0.out))) (rk HO_703001) (by decide)) hk (fun _ h => h.2)) (fun _ h => h.1)); replace HO_703002 := ak (Kd.R_mono (Kd.R_keep (IsS99.apart (show IsS99 w0 _ g s0_0 t719 from by repeat ((with_reducible exact HI0.out))) (rk HO_703002) (by decide)) hk (fun _ h => h.2)) (fun _ h => h.1)); replace BK696 := ak (KeepBut.blk hk (g' := gb696) (o := .cells #[.int .i64 0, .slice none 0 0, .slice none 0 0] 44 (0, 0)) (bk BK696) NB696_0.out (by simp)); replace BK702 := ak (KeepBut.blk hk (g' := gb702) (o := .cells #[.int .i64 x703000_1, u703001, .slice Ao71 x703002_1.length co71] 44 (0, 0)) (bk BK702) NB702_0.out (by simp)); replace HK := ak (KeepBut.trans (by repeat ((with_reducible exact HK.out))) hk (.inl rfl)); replace HB := ak (hb); replace HI0 := ak (hi); (try clear hb); (try clear hb2); (try clear hk); (try clear hi)))
  replace HO_703001 := ak (Kd.R_drew HO_703001.out)
  replace HO_703002 := ak (Kd.R_drew HO_703002.out)
  replace BK696 := ak (blk_drew BK696.out)
  replace BK702 := ak (blk_drew BK702.out)
  replace HI0 := ak (IsS99.drew HI0.out)
  replace HK := ak (keep_drew HK.out)
  replace HB := ak (below_drew1 HB.out)
  have p735 : 0 ≤ (t718 : Int) := oT (by (with_reducible assumption))
  have q735 : t718 < (x703002_1.length : Int) := oT (by (with_reducible assumption))
  obtain ⟨ad735, e735, hx735_0, hx735_1, hx735_2⟩ := at_T113 (Kd.R_reads' HO_703002.out).2.2 t718 p735 q735
  cases e735
  replace p735 := eq_true p735
  replace q735 := eq_true q735
  refine start_ (n := 11) (S := fun w' => w'.cell? ⟨gb702, 0, none⟩ = some (.int .i64 x703000_1) ∧ w'.cell? ⟨gb702, 1, none⟩ = some (u703001) ∧ w'.cell? ⟨gb702, 2, none⟩ = some (.slice (some ad735) x703002_1.length co71) ∧ w'.cell? (ad735.add ((t718).toNat * 3)) = some (.int .i64 ((rd_T113 x703002_1 t718).f0)) ∧ w'.cell? ⟨(ad735.add ((t718).toNat * 3)).block, (ad735.add ((t718).toNat * 3)).off + 1, none⟩ = some (.int .i64 ((rd_T113 x703002_1 t718).f1)) ∧ w'.cell? ⟨(ad735.add ((t718).toNat * 3)).block, (ad735.add ((t718).toNat * 3)).off + 2, none⟩ = some (.int .i64 ((rd_T113 x703002_1 t718).f2))) (ds := [8, 10]) (ms 11 0) (by kernel_rfl) rfl (by kernel_rfl) ⟨(blk_cell BK702.out 0).trans rfl, (blk_cell BK702.out 1).trans rfl, (blk_cell BK702.out 2).trans rfl, hx735_0, hx735_1, hx735_2⟩ (fun hHeld => ?_); refine with_tabW spec_l30Live.tab13 spec_l30Live.bits13 (fun HT_ HW_ => ?_)
  generalize w73.drew = w74 at HO_703001 HO_703002 BK696 BK702 HI0 HK HB hx735_0 hx735_1 hx735_2 hHeld ⊢
  refine pu 0 50 ?_ (ms 11 1) rfl rfl HT_ (by kernel_rfl) (fun _ _ _ h => h) (by rfl) ?_ ?_ ?_ ?_
  rotate_left
  ·intro w'
   go_simp
   with_reducible rfl
  rotate_left
  ·simp only [SX]
   rfl
  refine pu 2 52 ?_ (ms 11 5) rfl rfl HT_ (by kernel_rfl) (fun _ _ _ h => h) (by rfl) ?_ ?_ ?_ ?_
  rotate_left
  ·intro w'
   go_simp
   with_reducible rfl
  rotate_left
  ·simp only [SX]
   rfl
  refine pu 4 54 ?_ (ms 11 21) rfl rfl HT_ (by kernel_rfl) (fun _ _ _ h => h) (by rfl) ?_ ?_ ?_ ?_
  rotate_left
  ·intro w'
   go_simp
   with_reducible rfl
  rotate_left
  ·simp only [SX]
   rfl
  refine tk 1 51 ?_ (ms 11 23) rfl rfl HT_ HW_ (by kernel_rfl) (fun _ _ _ h => h) (by rfl) ?_ hHeld ?_ ?_ ?_
  rotate_left
  ·rintro w' ⟨s0, s1, s2, s3, s4, s5⟩
   go_simp
   with_reducible rfl
  rotate_left
  ·simp only [SX]
   rfl
  refine tk 3 53 ?_ (ms 11 31) rfl rfl HT_ HW_ (by kernel_rfl) (fun _ _ _ h => h) (by rfl) ?_ hHeld ?_ ?_ ?_
  rotate_left
  ·rintro w' ⟨s0, s1, s2, s3, s4, s5⟩
   go_simp
   with_reducible rfl
  rotate_left
  ·simp only [SX]
   rfl
  refine pu 5 55 ?_ (ms 11 63) rfl rfl HT_ (by kernel_rfl) (fun _ _ _ h => h) (by rfl) ?_ ?_ ?_ ?_
  rotate_left
  ·intro w'
   go_simp
   with_reducible rfl
  rotate_left
  ·simp only [SX]
   rfl
  refine tk 6 56 ?_ (ms 11 127) rfl rfl HT_ HW_ (by kernel_rfl) (fun _ _ _ h => h) (by rfl) ?_ hHeld ?_ ?_ ?_
  rotate_left
  ·rintro w' ⟨s0, s1, s2, s3, s4, s5⟩
   go_simp
   with_reducible rfl
  rotate_left
  ·simp only [SX]
   rfl
  refine one_ (i := 7) (N := some 57) (ms 11 255) rfl rfl (one_of HT_.out (by kernel_rfl)) (by decide) (fun K hK => ?_)
  refine value_ (w1 := ?_) (v := ?_) (by rfl) rfl ?_ ?_
  rotate_left 2
  ·go_simp
   constructor
   rotate_left
   ·rfl
   rfl
  refine hK.out _ _ ⟨(blk_cell (blk_alloc BK702.out _) 0).trans rfl, (blk_cell (blk_alloc BK702.out _) 1).trans rfl, (blk_cell (blk_alloc BK702.out _) 2).trans rfl, (World.cell?_alloc_lt _ _ _ (World.block_lt_of_cell? _ _ (hHeld.2.2.2.1))).trans (hHeld.2.2.2.1), (World.cell?_alloc_lt _ _ _ (World.block_lt_of_cell? _ _ (hHeld.2.2.2.2.1))).trans (hHeld.2.2.2.2.1), (World.cell?_alloc_lt _ _ _ (World.block_lt_of_cell? _ _ (hHeld.2.2.2.2.2))).trans (hHeld.2.2.2.2.2)⟩ (fun hHeld => ?_)
  clear hK K
  refine norm_ (a' := ?_) ?_ ?_
  rotate_left
  ·show Act.put _ (some 57) _ = _
   simp only [SX]
   rfl
  refine last_ (i := 8) (N := some 58) (ms 11 511) rfl rfl (one_of HT_.out (by kernel_rfl)) (by decide) (fun K hK => ?_)
  refine Kd.R_append_step k113 w.heap.size (by rfl) (.tmp 51) (.tmp 57) 42 113 (.agg #[(.int .i64 0), (.int .i64 0), (.int .i64 0)]) 24 rfl Try.underlying42 info113 rfl (by decide) (by omega) (.slice (some ad735) x703002_1.length co71) x703002_1 (⟨(rd_T113 x703002_1 t718).f0, (rd_T113 x703002_1 t718).f1, (rd_T113 x703002_1 t718).f2⟩ : S113) [.int .i64 ((rd_T113 x703002_1 t718).f0), .int .i64 ((rd_T113 x703002_1 t718).f1), .int .i64 ((rd_T113 x703002_1 t718).f2)] (fun _ => True) (fun _ => False) rfl rfl ?aP (fun _ hk => hk.elim) ?aF ?aO (Below.refl _ _) ?aS ?aL ?_
  (case aP => exact k113_mkM _ _ _ (⟨(rd_T113 x703002_1 t718).f0, (rd_T113 x703002_1 t718).f1, (rd_T113 x703002_1 t718).f2⟩ : S113))
  (case aF => exact (fun _ _ => trivial))
  (case aO => exact (rk HO_703002))
  (case aS => exact (keep_size (w := w) (g := g) (row := none) (by repeat ((with_reducible exact HK.out)))))
  (case aL => have := LMc66.out; omega)
  intro v737 w75 ho hb hg hat
  rw [← Ny736.out] at ho
  have n0_ := ak (Kd.R_over' (rk HO_703001) (Kd.R_typed (rk HO_703002)) (by decide) hg)
  have n1_ := ak (blk_grown (bk BK696) hg (Kd.R_ne HO_703002.out BK696.out (by decide)))
  have n2_ := ak (blk_grown (bk BK702) hg (Kd.R_ne HO_703002.out BK702.out (by decide)))
  have n3_ := ak (IsS99.grown (by repeat ((with_reducible exact HI0.out))) hg (IsS99.own_ne HI0.out HO_703002.out (by decide)))
  have n4_ := ak (below_weaken (by repeat ((with_reducible exact HB.out))) HL.out hb)
  have n5_ := ak (KeepBut.trans (by repeat ((with_reducible exact HK.out))) (KeepBut.of_grown hg g) (Kd.R_base2 HO_703002.out))
  have n6_ := ak (ho)
  clear HO_703001
  clear BK696
  clear BK702
  clear HI0
  clear HB
  clear HK
  clear HO_703002
  have HO_703001 := n0_
  have BK696 := n1_
  have BK702 := n2_
  have HI0 := n3_
  have HB := n4_
  have HK := n5_
  have HO738 := n6_
  clear n0_ n1_ n2_ n3_ n4_ n5_ n6_
  clear ho hb hg hat
  obtain ⟨Ao76, co76, eo76⟩ := Kd.R_slice HO738.out
  (subst eo76)
  refine hK.out _ _ ?_
  clear hK K
  refine norm_ (a' := ?_) ?_ ?_
  rotate_left
  ·show Act.put _ (some 58) _ = _
   simp only [SX]
   rfl
  refine pu 9 59 ?_ (ms 11 1023) rfl rfl HT_ (by kernel_rfl) (fun _ _ _ h => h) (by rfl) ?_ ?_ ?_ ?_
  rotate_left
  ·intro w'
   go_simp
   with_reducible rfl
  rotate_left
  ·simp only [SX]
   rfl
  refine last_ (i := 10) (N := none) (ms 11 2047) rfl rfl (one_of HT_.out (by kernel_rfl)) (by decide) (fun K hK => ?_)
  have hs77 : w75.cell? ⟨gb702, 2, none⟩ = some (.slice (some ad735) x703002_1.length co71) := (blk_cell BK702.out 2).trans rfl
  have hfs77 := blk_frozen BK702.out 2
  have hns77_0 := NB696_702.out
  have hms77_0 := NB702_696.out
  refine skip_ (w1 := ?_) (by rfl) rfl ?_ ?_
  rotate_left
  ·go_simp
   rfl
  refine hK.out _ _ ?_
  clear hK K
  refine done_ (done_of HT_.out (by kernel_rfl)) ?_
  have hcz78_0 := bc w75 BK702 0 (.int .i64 x703000_1) rfl
  have hcz78_1 := bc w75 BK702 1 (u703001) rfl
  have hcz78_2 := bc w75 BK702 2 (.slice (some ad735) x703002_1.length co71) rfl
  have hfz78_0 := fz BK702 0
  have hfz78_1 := fz BK702 1
  have hfz78_2 := fz BK702 2
  obtain ⟨Ao79, co79, eo79⟩ := Kd.R_slice HO_703001.out
  subst eo79
  try go_wp2_with (((with_reducible refine gate_callee (f := 114) rfl ?_); refine goesL_ (some 61) rfl rfl Try.func114 (by kernel_rfl) rfl #[.agg #[.int .i64 x703000_1, .slice Ao79 x703001_1.length co79, .slice Ao76 y736.length co76]] rfl (by (try simp only [List.map_toArray, List.map_cons, List.map_nil]); rfl) ?_; (with_reducible refine (spec_l16Copy.calls x703000_1 _ _ x703001_1 _ _ y736 t739 t740 t743 _ ?side1 ?side2 ?side3 ?side4 A67.out).mono ?_); (case side1 => refine (Kd.R_reads' (e := 41) (base := w.heap.size) (ok := fun k_ => True) (n := x703001_1.length) (c := co79) ?_).2.2; exact (by exact (Kd.R_mono (Kd.R_far (p := ⟨gb702, 2, none⟩) (Kd.R_types HO_703001.out BK702.out (by decide)) (fun _ hk => hk.2) (.slice Ao76 y736.length co76)) (fun _ h_ => h_.1)))); (case side2 => exact (Kd.R_reads' HO_703001.out).2.1); (case side3 => refine (Kd.R_reads' (e := 113) (base := w.heap.size) (ok := fun k_ => True) (n := y736.length) (c := co76) ?_).2.2; exact (by exact (Kd.R_mono (Kd.R_far (p := ⟨gb702, 2, none⟩) (Kd.R_types HO738.out BK702.out (by decide)) (fun _ hk => hk.2) (.slice Ao76 y736.length co76)) (fun _ h_ => h_.1)))); (case side4 => exact (Kd.R_reads' HO738.out).2.1); rintro e w80 ⟨v741, v744, rfl, ho0, ho1, hb⟩; refine ⟨_, rfl, ?_⟩; have HO742 := ak (Kd.R_lower (Kd.R_new' ho0 (Kd.R_lt (by exact (Kd.R_mono (Kd.R_far (p := ⟨gb702, 2, none⟩) (Kd.R_types HO_703001.out BK702.out (by decide)) (fun _ hk => hk.2) (.slice Ao76 y736.length co76)) (fun _ h_ => h_.1))))) (keep_size (w := w) (g := g) (row := none) (by repeat ((with_reducible first | exact HK.out | refine keep_far ?_ GW702.out _))))); replace HO_703001 := ak (Kd.R_elder' (by exact (Kd.R_mono (Kd.R_far (p := ⟨gb702, 2, none⟩) (Kd.R_types HO_703001.out BK702.out (by decide)) (fun _ hk => hk.2) (.slice Ao76 y736.length co76)) (fun _ h_ => h_.1))) (Kd.R_base ho0) hb); have HO745 := ak (Kd.R_lower (Kd.R_new' ho1 (Kd.R_lt (by exact (Kd.R_mono (Kd.R_far (p := ⟨gb702, 2, none⟩) (Kd.R_types HO738.out BK702.out (by decide)) (fun _ hk => hk.2) (.slice Ao76 y736.length co76)) (fun _ h_ => h_.1))))) (keep_size (w := w) (g := g) (row := none) (by repeat ((with_reducible first | exact HK.out | refine keep_far ?_ GW702.out _))))); replace HO738 := ak (Kd.R_elder' (by exact (Kd.R_mono (Kd.R_far (p := ⟨gb702, 2, none⟩) (Kd.R_types HO738.out BK702.out (by decide)) (fun _ hk => hk.2) (.slice Ao76 y736.length co76)) (fun _ h_ => h_.1))) (Kd.R_base ho1) hb); replace BK696 := ak (blk_below (g := gb696) (o := .cells #[.int .i64 0, .slice none 0 0, .slice none 0 0] 44 (0, 0)) (by refine blk_far ?_ NB696_702.out _; exact BK696.out) hb); replace BK702 := ak (blk_below (g := gb702) (o := .cells #[.int .i64 x703000_1, .slice Ao79 x703001_1.length co79, .slice Ao76 y736.length co76] 44 (0, 0)) (by refine blk_put (cs := #[.int .i64 x703000_1, .slice Ao79 x703001_1.length co79, .slice (some ad735) x703002_1.length co71]) ?_ 2 _ rfl; exact BK702.out) hb); replace HK := ak (KeepBut.trans (by repeat ((with_reducible first | exact HK.out | refine keep_far ?_ GW702.out _))) (KeepBut.of_below hb g none) (.inl rfl)); replace HB := ak (below_step (by repeat ((with_reducible first | exact HB.out | refine below_set ?_ GE702.out))) hb); replace HI0 := ak (IsS99.below (show IsS99 w0 (w75.setCell ⟨gb702, 2, none⟩ (.slice Ao76 y736.length co76)) g s0_0 t721 from by repeat ((with_reducible first | exact HI0.out | refine IsS99.far ?_ NB0_702.out _))) hb); (try clear hb); (try clear hb2); (try clear hk); (try clear hi); (try clear ho0); (try clear ho1); have hnb81 := NB696_0.out; have hnc81 := NB0_696.out; have hcz82_0 := bc w80 BK696 0 (.int .i64 0) rfl; have hcz82_1 := bc w80 BK696 1 (.slice none 0 0) rfl; have hcz82_2 := bc w80 BK696 2 (.slice none 0 0) rfl; have hfz82_0 := fz BK696 0; have hfz82_1 := fz BK696 1; have hfz82_2 := fz BK696 2; obtain ⟨Ao83, co83, eo83⟩ := Kd.R_slice HO742.out; subst eo83; obtain ⟨Ao84, co84, eo84⟩ := Kd.R_slice HO745.out; subst eo84))
  refine bodyPost_ret (results_cell_row rfl _ _ gb696 44 #[.int .i64 t739, .slice Ao83 t740.length co83, .slice Ao84 t743.length co84] (0, 0) _ rfl (by refine blk_put (cs := #[.int .i64 t739, .slice Ao83 t740.length co83, .slice none 0 0]) ?_ 2 _ rfl; refine blk_put (cs := #[.int .i64 t739, .slice none 0 0, .slice none 0 0]) ?_ 1 _ rfl; refine blk_put (cs := #[.int .i64 0, .slice none 0 0, .slice none 0 0]) ?_ 0 _ rfl; exact BK696.out) Try.underlying44 rfl (by kernel_rfl)) rfl ?_
  exact ⟨_, _, by rfl, by exact Kd.R_mono (Kd.R_far (p := ⟨gb696, 2, none⟩) (Kd.R_far (p := ⟨gb696, 1, none⟩) (Kd.R_far (p := ⟨gb696, 0, none⟩) (Kd.R_types HO742.out BK696.out (by decide)) (fun _ hk => hk.2) (.int .i64 t739)) (fun _ hk => hk.2) (.slice Ao83 t740.length co83)) (fun _ hk => hk.2) (.slice Ao84 t743.length co84)) (fun _ hk => trivial), by exact Kd.R_mono (Kd.R_far (p := ⟨gb696, 2, none⟩) (Kd.R_far (p := ⟨gb696, 1, none⟩) (Kd.R_far (p := ⟨gb696, 0, none⟩) (Kd.R_types HO745.out BK696.out (by decide)) (fun _ hk => hk.2) (.int .i64 t739)) (fun _ hk => hk.2) (.slice Ao83 t740.length co83)) (fun _ hk => hk.2) (.slice Ao84 t743.length co84)) (fun _ hk => trivial), by repeat ((with_reducible first | exact HI0.out | refine IsS99.far ?_ NB0_696.out _)), by repeat ((with_reducible first | exact HB.out | refine below_set ?_ GE696.out)), by repeat ((with_reducible first | exact HK.out | refine keep_far ?_ GW696.out _))⟩

end Go.Proofs.Ytgickejeakmenaa.F
