-- Printed by wip/px/px.py of this claim's repository (the kit's printer, extended there). Lean checks it.
import Derived.Test.YthgihpbpebbebaaFKinds
import Derived.Test.YthgihpbpebbebaaFspecl30Open
import Derived.Test.YthgihpbpebbebaaFspecl30Rdpick
import Derived.Test.YthgihpbpebbebaaFspecl30Rdone
namespace Go.Proofs.Ythgihpbpebbebaa.F
open Go.RowKit Go.Proofs.YthgihpbpebbebaaW.PrintWords Go.Proofs.YthgihpbpebbebaaW.PrintLast Go.Proofs.YthgihpbpebbebaaW.PrintMore
attribute [local go_sem] max2_int min2_int max_two min_two max_three min_three max_four min_four   -- for this text's walks alone
set_option linter.unusedVariables false
set_option linter.unusedSimpArgs false

/-! ### spec_l30News: function 114 -/
def spec_l30News.f (k : Nat) (s0_0 : List Int) (s0_1 : Int) (a1_0 : Int) (l1_1 : List (S31)) : Option (Int × Int × Int × Int) := (spec_l30Rd_pick.f k s0_0 s0_1 6).bind fun bt678 => ((spec_l30Rd_pick.f k s0_0 bt678.2 (wrap64 ((l1_1.length : Int) + 1))).bind fun bt680 => ((spec_l30Rd_one.f k s0_0 bt680.2 (([(-1), 0, 3, 9, 99] : List Int))).bind fun bt685 => ((spec_l30Rd_pick.f k s0_0 bt685.2 14).bind fun bt688 => (if bt688.1 = 0 then ((spec_l30Rd_one.f k s0_0 bt688.2 (([0, 1000] : List Int))).bind fun bt693 => (some (bt693.1, bt680.1, bt685.1, bt693.2))) else (some (wrap64 (1 + bt678.1), bt680.1, bt685.1, bt688.2))))))
theorem spec_l30News.mono : ∀ a0 a1 a2 a3 k, LeO (spec_l30News.f k a0 a1 a2 a3) (spec_l30News.f (k + 1) a0 a1 a2 a3) := by
 intro a0 a1 a2 a3 k
 unfold spec_l30News.f
 repeat' first
   | (with_reducible exact spec_l30Rd_one.mono _ _ _ _)
   | (with_reducible exact spec_l30Rd_pick.mono _ _ _ _)
   | (with_reducible exact LeO.refl _)
   | (with_reducible exact LeO.none _)
   | (with_reducible refine LeO.ite ?_ ?_)
   | (with_reducible refine LeO.bind ?_ (fun _ => ?_))
   | exact spec_l30Rd_one.mono _ _ _ _
   | exact spec_l30Rd_pick.mono _ _ _ _
   | exact LeO.none _
   | refine LeO.ite ?_ ?_
   | refine LeO.bind ?_ (fun _ => ?_)
def spec_l30News.T1 : Bool × List (List Nat × List Nat) := (true, [([], []), ([0], [0]), ([1], [1]), ([], []), ([], []), ([4], [4]), ([5], [5]), ([6], [6]), ([3, 7, 1], [3, 7]), ([], []), ([], []), ([9, 10, 8], [9, 10]), ([2, 8, 11], [2, 8, 11]), ([], []), ([13, 12, 11, 0, 1, 2, 3, 4, 5, 6, 7, 8, 9, 10, 11, 12, 13], [12, 13])])
def spec_l30News.B1 : List Nat := [0, 1, 3, 0, 0, 16, 48, 112, 251, 0, 0, 2043, 4095, 0, 16383]
theorem spec_l30News.tab1 : rtab .any (opsOf Try.f114 1) = spec_l30News.T1 := by kernel_rfl
theorem spec_l30News.bits1 : waitsOk spec_l30News.T1.2 spec_l30News.B1 = true := by kernel_rfl
set_option maxHeartbeats 8000000 in
set_option maxRecDepth 100000 in
theorem spec_l30News.calls (k : Nat) (g : Nat) (s0_0 : List Int) (s0_1 : Int) (a1_0 : Int) (A1_1 : Option Addr) (c1_1 : Nat) (l1_1 : List (S31)) (r1 : Int) (r2 : Int) (r3 : Int) (r4 : Int) (w0 w : World) (hI : IsS113 w0 w g s0_0 s0_1) (hB : Below w0.heap.size w0 w) (hr1_1 : ∀ W_, KeepBut w W_ g none → Kd.C k31 W_ A1_1 l1_1.length l1_1) (hc1_1 : l1_1.length ≤ c1_1) (h : spec_l30News.f k s0_0 s0_1 a1_0 l1_1 = some (r1, r2, r3, r4)) :
  Calls Try.prog 114 #[.pointer (some ⟨g, 0, none⟩), .agg #[.int .i64 a1_0, .slice A1_1 l1_1.length c1_1]] w fun e w' => e = .returned (.agg #[.int .i64 r1, .int .i64 r2, .int .i64 r3]) ∧ IsS113 w0 w' g s0_0 r4 ∧ Below w0.heap.size w0 w' ∧ KeepBut w w' g none := by
 have hu25 := Try.underlying25
 have hu64 := Try.underlying64
 have HR1_1 := Aside0.mk hr1_1
 have HC1_1 := Aside0.mk hc1_1
 clear hr1_1 hc1_1
 have HI0 := Aside0.mk hI
 have HK := Aside0.mk (KeepBut.refl w g none)
 have HL := Aside0.mk hB.size
 clear hI
 have HW0 := Aside0.mk hB.size
 have HB := Aside0.mk hB
 clear hB
 have H : ((spec_l30Rd_pick.f k s0_0 s0_1 6).bind fun bt678 => ((spec_l30Rd_pick.f k s0_0 bt678.2 (wrap64 ((l1_1.length : Int) + 1))).bind fun bt680 => ((spec_l30Rd_one.f k s0_0 bt680.2 (([(-1), 0, 3, 9, 99] : List Int))).bind fun bt685 => ((spec_l30Rd_pick.f k s0_0 bt685.2 14).bind fun bt688 => (if bt688.1 = 0 then ((spec_l30Rd_one.f k s0_0 bt688.2 (([0, 1000] : List Int))).bind fun bt693 => (some (bt693.1, bt680.1, bt685.1, bt693.2))) else (some (wrap64 (1 + bt678.1), bt680.1, bt685.1, bt688.2))))))) = some (r1, r2, r3, r4) := h
 clear h
 replace H := Option.bind_eq_some_iff.mp H
 obtain ⟨⟨t678, t679⟩, A30, H⟩ := H
 have A3 := Aside0.mk A30
 clear A30
 replace H := Option.bind_eq_some_iff.mp H
 obtain ⟨⟨t680, t681⟩, A40, H⟩ := H
 have A4 := Aside0.mk A40
 clear A40
 obtain ⟨y682, hy682⟩ : ∃ y_ : List Int, y_ = (([(-1), 0, 3, 9, 99] : List Int)) := ⟨_, rfl⟩
 replace H : ((spec_l30Rd_one.f k s0_0 t681 y682).bind fun bt685 => ((spec_l30Rd_pick.f k s0_0 bt685.2 14).bind fun bt688 => (if bt688.1 = 0 then ((spec_l30Rd_one.f k s0_0 bt688.2 (([0, 1000] : List Int))).bind fun bt693 => (some (bt693.1, t680, bt685.1, bt693.2))) else (some (wrap64 (1 + t678), t680, bt685.1, bt688.2))))) = some (r1, r2, r3, r4) := by first | (rw [hy682]; with_reducible exact H) | (have H2_ := (Option.bind_some _ _).symm.trans H; rw [hy682]; with_reducible exact H2_) | (have H2_ := (Option.bind_some _ _).symm.trans H; with_reducible exact H2_) | with_reducible exact H | (rw [hy682]; exact H) | exact H
 have Ny682 := Aside0.mk hy682
 clear hy682
 replace H := Option.bind_eq_some_iff.mp H
 obtain ⟨⟨t685, t686⟩, A50, H⟩ := H
 have A5 := Aside0.mk A50
 clear A50
 replace H := Option.bind_eq_some_iff.mp H
 obtain ⟨⟨t688, t689⟩, A60, H⟩ := H
 have A6 := Aside0.mk A60
 clear A60
 go_enter Try.func114, Try.ntmps114
 try go_wp2_with (first | ((with_reducible refine gate_dst (N := 3) rfl ?_); refine box_event ?hg (N := 3) ?hd (cs := #[.int .i64 a1_0, .slice A1_1 l1_1.length c1_1]) (t := 25) ?hr ?_; (case hd => rfl); (case hg => rfl); (case hr => first | (go_simp; done) | (go_simp; rfl)); intro gb676 hg w9 hbox hb; replace HB := Aside0.mk (below_step (by repeat (first | (with_reducible first | exact HB.out | apply below_alloc | apply pw_below_drewN | apply below_drew1 | refine below_set ?_ (IsS113.ge HI0.out)) | exact HB.out)) hb); have BK676 := Aside0.mk (hbox); have GW676 := Aside0.mk ((by rw [hg]; exact (keep_size (w := w) (g := g) (row := none) (by repeat (first | (with_reducible first | exact HK.out | apply KeepBut.set_ | apply keep_drewN | apply keep_drew | apply keep_alloc) | exact HK.out))) : w.heap.size ≤ gb676)); have GE676 := Aside0.mk ((Nat.le_trans HW0.out (by rw [hg]; exact (keep_size (w := w) (g := g) (row := none) (by repeat (first | (with_reducible first | exact HK.out | apply KeepBut.set_ | apply keep_drewN | apply keep_drew | apply keep_alloc) | exact HK.out))) : w.heap.size ≤ gb676) : w0.heap.size ≤ gb676)); replace HK := Aside0.mk (KeepBut.trans (by repeat (first | (with_reducible first | exact HK.out | apply KeepBut.set_ | apply keep_drewN | apply keep_drew | apply keep_alloc) | exact HK.out)) (KeepBut.of_below hb g none) (.inl rfl)); have NB0_676 := Aside0.mk ((by rw [hg]; exact Nat.ne_of_lt (IsS113.lt (show IsS113 w0 _ g s0_0 s0_1 from by repeat (first | (with_reducible first | exact HI0.out | apply IsS113.alloc | apply IsS113.drewN | apply IsS113.drew | apply IsS113.set_1) | exact HI0.out))) : g ≠ gb676)); have NB676_0 := Aside0.mk ((by rw [hg]; exact Nat.ne_of_gt (IsS113.lt (show IsS113 w0 _ g s0_0 s0_1 from by repeat (first | (with_reducible first | exact HI0.out | apply IsS113.alloc | apply IsS113.drewN | apply IsS113.drew | apply IsS113.set_1) | exact HI0.out))) : gb676 ≠ g)); replace HI0 := Aside0.mk (IsS113.below (by repeat (first | (with_reducible first | exact HI0.out | apply IsS113.alloc | apply IsS113.drewN | apply IsS113.drew | apply IsS113.set_1) | exact HI0.out)) hb); clear hb hbox hg) | ((with_reducible refine gate_dst (N := 4) rfl ?_); refine box_event ?hg (N := 4) ?hd (cs := #[.int .i64 0, .int .i64 0, .int .i64 0]) (t := 64) ?hr ?_; (case hd => rfl); (case hg => rfl); (case hr => first | (go_simp; done) | (go_simp; rfl)); intro gb677 hg w10 hbox hb; replace HB := Aside0.mk (below_step (by repeat (first | (with_reducible first | exact HB.out | apply below_alloc | apply pw_below_drewN | apply below_drew1 | refine below_set ?_ (IsS113.ge HI0.out) | refine below_set ?_ GE676.out) | exact HB.out)) hb); have BK677 := Aside0.mk (hbox); have GW677 := Aside0.mk ((by rw [hg]; exact (keep_size (w := w) (g := g) (row := none) (by repeat (first | (with_reducible first | exact HK.out | apply KeepBut.set_ | apply keep_drewN | apply keep_drew | apply keep_alloc | refine keep_far ?_ GW676.out _) | exact HK.out))) : w.heap.size ≤ gb677)); have GE677 := Aside0.mk ((Nat.le_trans HW0.out (by rw [hg]; exact (keep_size (w := w) (g := g) (row := none) (by repeat (first | (with_reducible first | exact HK.out | apply KeepBut.set_ | apply keep_drewN | apply keep_drew | apply keep_alloc | refine keep_far ?_ GW676.out _) | exact HK.out))) : w.heap.size ≤ gb677) : w0.heap.size ≤ gb677)); replace HK := Aside0.mk (KeepBut.trans (by repeat (first | (with_reducible first | exact HK.out | apply KeepBut.set_ | apply keep_drewN | apply keep_drew | apply keep_alloc | refine keep_far ?_ GW676.out _) | exact HK.out)) (KeepBut.of_below hb g none) (.inl rfl)); have NB676_677 := Aside0.mk ((by rw [hg]; exact Nat.ne_of_lt (blk_lt (bk BK676)) : gb676 ≠ gb677)); have NB677_676 := Aside0.mk ((by rw [hg]; exact Nat.ne_of_gt (blk_lt (bk BK676)) : gb677 ≠ gb676)); replace BK676 := Aside0.mk (blk_below (bk BK676) hb); have NB0_677 := Aside0.mk ((by rw [hg]; exact Nat.ne_of_lt (IsS113.lt (show IsS113 w0 _ g s0_0 s0_1 from by repeat (first | (with_reducible first | exact HI0.out | apply IsS113.alloc | apply IsS113.drewN | apply IsS113.drew | apply IsS113.set_1 | refine IsS113.far ?_ NB0_676.out _) | exact HI0.out))) : g ≠ gb677)); have NB677_0 := Aside0.mk ((by rw [hg]; exact Nat.ne_of_gt (IsS113.lt (show IsS113 w0 _ g s0_0 s0_1 from by repeat (first | (with_reducible first | exact HI0.out | apply IsS113.alloc | apply IsS113.drewN | apply IsS113.drew | apply IsS113.set_1 | refine IsS113.far ?_ NB0_676.out _) | exact HI0.out))) : gb677 ≠ g)); replace HI0 := Aside0.mk (IsS113.below (by repeat (first | (with_reducible first | exact HI0.out | apply IsS113.alloc | apply IsS113.drewN | apply IsS113.drew | apply IsS113.set_1 | refine IsS113.far ?_ NB0_676.out _) | exact HI0.out)) hb); clear hb hbox hg))
 replace BK676 := Aside0.mk (blk_drew BK676.out)
 replace BK677 := Aside0.mk (blk_drew BK677.out)
 replace HI0 := Aside0.mk (IsS113.drew HI0.out)
 replace HK := Aside0.mk (keep_drew HK.out)
 replace HB := Aside0.mk (below_drew1 HB.out)
 refine start_ (n := 15) (S := fun w' => w'.cell? ⟨gb676, 0, none⟩ = some (.int .i64 a1_0) ∧ w'.cell? ⟨gb676, 1, none⟩ = some (.slice A1_1 l1_1.length c1_1)) (ds := []) (ms 15 0) (by kernel_rfl) rfl (by kernel_rfl) ⟨(blk_cell BK676.out 0).trans rfl, (blk_cell BK676.out 1).trans rfl⟩ (fun hHeld => ?_); refine with_tabW spec_l30News.tab1 spec_l30News.bits1 (fun HT_ HW_ => ?_)
 generalize w10.drew = w11 at BK676 BK677 HI0 HK HB hHeld ⊢
 refine pu 0 6 ?_ (ms 15 1) rfl rfl HT_ (by kernel_rfl) (fun _ _ _ h => h) (by rfl) ?_ ?_ ?_ ?_
 rotate_left
 ·intro w'
  go_simp
  with_reducible rfl
 rotate_left
 ·simp only [SX]
  rfl
 refine pu 3 9 ?_ (ms 15 9) rfl rfl HT_ (by kernel_rfl) (fun _ _ _ h => h) (by rfl) ?_ ?_ ?_ ?_
 rotate_left
 ·intro w'
  go_simp
  with_reducible rfl
 rotate_left
 ·simp only [SX]
  rfl
 refine pu 4 10 ?_ (ms 15 25) rfl rfl HT_ (by kernel_rfl) (fun _ _ _ h => h) (by rfl) ?_ ?_ ?_ ?_
 rotate_left
 ·intro w'
  go_simp
  with_reducible rfl
 rotate_left
 ·simp only [SX]
  rfl
 refine pu 9 15 ?_ (ms 15 537) rfl rfl HT_ (by kernel_rfl) (fun _ _ _ h => h) (by rfl) ?_ ?_ ?_ ?_
 rotate_left
 ·intro w'
  go_simp
  with_reducible rfl
 rotate_left
 ·simp only [SX]
  rfl
 refine tk 5 11 ?_ (ms 15 569) rfl rfl HT_ HW_ (by kernel_rfl) (fun _ _ _ h => h) (by rfl) ?_ hHeld ?_ ?_ ?_
 rotate_left
 ·rintro w' ⟨s0, s1⟩
  go_simp
  with_reducible rfl
 rotate_left
 ·simp only [SX]
  rfl
 refine pu 6 12 ?_ (ms 15 633) rfl rfl HT_ (by kernel_rfl) (fun _ _ _ h => h) (by rfl) ?_ ?_ ?_ ?_
 rotate_left
 ·intro w'
  go_simp
  with_reducible rfl
 rotate_left
 ·simp only [SX]
  rfl
 refine pu 7 13 ?_ (ms 15 761) rfl rfl HT_ (by kernel_rfl) (fun _ _ _ h => h) (by rfl) ?_ ?_ ?_ ?_
 rotate_left
 ·intro w'
  go_simp
  with_reducible rfl
 rotate_left
 ·simp only [SX]
  rfl
 refine join_ (σ := Value × Nat) 1 (ms 15 16383) (fun s_ => [(7, .int .i64 t678), (14, .int .i64 t680), (16, s_.1), (17, .int .i64 t685), (5, .pointer (some ⟨s_.2, 0, none⟩)), (8, .int .i64 (wrap64 (1 + t678))), (18, .agg #[.int .i64 (wrap64 (1 + t678)), .int .i64 t680, .int .i64 t685])]) (fun s_ w' => (w'.cell? ⟨gb676, 0, none⟩ = some (.int .i64 a1_0) ∧ w'.cell? ⟨gb676, 1, none⟩ = some (.slice A1_1 l1_1.length c1_1)) ∧ (Kd.R (Kd.int .i64) 3 w' w.heap.size (fun _ => True) s_.1 y682) ∧ (w'.heap[gb676]? = some (.cells #[.int .i64 a1_0, .slice A1_1 l1_1.length c1_1] 25 (0, 0))) ∧ (w'.heap[gb677]? = some (.cells #[.int .i64 0, .int .i64 0, .int .i64 0] 64 (0, 0))) ∧ (w'.heap[s_.2]? = some (.cells #[.int .i64 0, .int .i64 0, .int .i64 0] 64 (0, 0))) ∧ (w.heap.size ≤ s_.2) ∧ (w0.heap.size ≤ s_.2) ∧ (g ≠ s_.2) ∧ (s_.2 ≠ g) ∧ (gb676 ≠ s_.2) ∧ (s_.2 ≠ gb676) ∧ (gb677 ≠ s_.2) ∧ (s_.2 ≠ gb677) ∧ (IsS113 w0 w' g s0_0 t686) ∧ (KeepBut w w' g none) ∧ (Below w0.heap.size w0 w')) ?_ ?_
 rotate_left
 ·intro hJ1_8_10_11_13
  refine join_ (σ := Value) 2 (ms 15 8191) (fun s_ => [(7, .int .i64 t678), (14, .int .i64 t680), (16, s_), (17, .int .i64 t685), (8, .int .i64 (wrap64 (1 + t678))), (18, .agg #[.int .i64 (wrap64 (1 + t678)), .int .i64 t680, .int .i64 t685])]) (fun s_ w' => (w'.cell? ⟨gb676, 0, none⟩ = some (.int .i64 a1_0) ∧ w'.cell? ⟨gb676, 1, none⟩ = some (.slice A1_1 l1_1.length c1_1)) ∧ (Kd.R (Kd.int .i64) 3 w' w.heap.size (fun _ => True) s_ y682) ∧ (w'.heap[gb676]? = some (.cells #[.int .i64 a1_0, .slice A1_1 l1_1.length c1_1] 25 (0, 0))) ∧ (w'.heap[gb677]? = some (.cells #[.int .i64 0, .int .i64 0, .int .i64 0] 64 (0, 0))) ∧ (IsS113 w0 w' g s0_0 t686) ∧ (KeepBut w w' g none) ∧ (Below w0.heap.size w0 w')) ?_ ?_
  rotate_left
  rotate_left
  ·skip
   rintro v683 w18 ⟨hS_, h0_, h1_, h2_, h3_, h4_, h5_⟩
   have HO684 : Aside0 (Kd.R (Kd.int .i64) 3 w18 w.heap.size (fun _ => True) v683 y682) := ⟨h0_⟩
   replace BK676 : Aside0 (w18.heap[gb676]? = some (.cells #[.int .i64 a1_0, .slice A1_1 l1_1.length c1_1] 25 (0, 0))) := ⟨h1_⟩
   replace BK677 : Aside0 (w18.heap[gb677]? = some (.cells #[.int .i64 0, .int .i64 0, .int .i64 0] 64 (0, 0))) := ⟨h2_⟩
   replace HI0 : Aside0 (IsS113 w0 w18 g s0_0 t686) := ⟨h3_⟩
   replace HK : Aside0 (KeepBut w w18 g none) := ⟨h4_⟩
   replace HB : Aside0 (Below w0.heap.size w0 w18) := ⟨h5_⟩
   clear h0_ h1_ h2_ h3_ h4_ h5_
   have hHeld : w18.cell? ⟨gb676, 0, none⟩ = some (.int .i64 a1_0) ∧ w18.cell? ⟨gb676, 1, none⟩ = some (.slice A1_1 l1_1.length c1_1) := hS_
   refine norm_ (a' := ?_) ?_ ?_
   rotate_left
   ·simp only [putAll, Act.put, List.setIfInBounds_toArray, List.set_cons_zero, List.set_cons_succ]
    rfl
   refine one_ (i := 13) (N := some 5) (ms 15 16383) rfl rfl (one_of HT_.out (by kernel_rfl)) (by decide) (fun K hK => ?_)
   refine box_step ?hg (N := 5) ?hd (cs := #[.int .i64 0, .int .i64 0, .int .i64 0]) (t := 64) ?hr ?_; (case hd => rfl); (case hg => rfl); (case hr => first | (go_simp; done) | (go_simp; rfl))
   intro gb687 hg w19 hbox hb
   replace HO684 := Aside0.mk (Kd.R_below (rk HO684) hb)
   replace HB := Aside0.mk (below_step (by repeat (first | (with_reducible first | exact HB.out | apply below_alloc | apply pw_below_drewN | apply below_drew1 | refine below_set ?_ (IsS113.ge HI0.out) | refine below_set ?_ GE676.out | refine below_set ?_ GE677.out) | exact HB.out)) hb)
   have BK687 := Aside0.mk (hbox)
   have GW687 := Aside0.mk ((by rw [hg]; exact (keep_size (w := w) (g := g) (row := none) (by repeat (first | (with_reducible first | exact HK.out | apply KeepBut.set_ | apply keep_drewN | apply keep_drew | apply keep_alloc | refine keep_far ?_ GW676.out _ | refine keep_far ?_ GW677.out _) | exact HK.out))) : w.heap.size ≤ gb687))
   have GE687 := Aside0.mk ((Nat.le_trans HW0.out (by rw [hg]; exact (keep_size (w := w) (g := g) (row := none) (by repeat (first | (with_reducible first | exact HK.out | apply KeepBut.set_ | apply keep_drewN | apply keep_drew | apply keep_alloc | refine keep_far ?_ GW676.out _ | refine keep_far ?_ GW677.out _) | exact HK.out))) : w.heap.size ≤ gb687) : w0.heap.size ≤ gb687))
   replace HK := Aside0.mk (KeepBut.trans (by repeat (first | (with_reducible first | exact HK.out | apply KeepBut.set_ | apply keep_drewN | apply keep_drew | apply keep_alloc | refine keep_far ?_ GW676.out _ | refine keep_far ?_ GW677.out _) | exact HK.out)) (KeepBut.of_below hb g none) (.inl rfl))
   have NB676_687 := Aside0.mk ((by rw [hg]; exact Nat.ne_of_lt (blk_lt (bk BK676)) : gb676 ≠ gb687))
   have NB687_676 := Aside0.mk ((by rw [hg]; exact Nat.ne_of_gt (blk_lt (bk BK676)) : gb687 ≠ gb676))
   replace BK676 := Aside0.mk (blk_below (bk BK676) hb)
   have NB677_687 := Aside0.mk ((by rw [hg]; exact Nat.ne_of_lt (blk_lt (bk BK677)) : gb677 ≠ gb687))
   have NB687_677 := Aside0.mk ((by rw [hg]; exact Nat.ne_of_gt (blk_lt (bk BK677)) : gb687 ≠ gb677))
   replace BK677 := Aside0.mk (blk_below (bk BK677) hb)
   have NB0_687 := Aside0.mk ((by rw [hg]; exact Nat.ne_of_lt (IsS113.lt (show IsS113 w0 _ g s0_0 t686 from by repeat (first | (with_reducible first | exact HI0.out | apply IsS113.alloc | apply IsS113.drewN | apply IsS113.drew | apply IsS113.set_1 | refine IsS113.far ?_ NB0_676.out _ | refine IsS113.far ?_ NB0_677.out _) | exact HI0.out))) : g ≠ gb687))
   have NB687_0 := Aside0.mk ((by rw [hg]; exact Nat.ne_of_gt (IsS113.lt (show IsS113 w0 _ g s0_0 t686 from by repeat (first | (with_reducible first | exact HI0.out | apply IsS113.alloc | apply IsS113.drewN | apply IsS113.drew | apply IsS113.set_1 | refine IsS113.far ?_ NB0_676.out _ | refine IsS113.far ?_ NB0_677.out _) | exact HI0.out))) : gb687 ≠ g))
   replace HI0 := Aside0.mk (IsS113.below (by repeat (first | (with_reducible first | exact HI0.out | apply IsS113.alloc | apply IsS113.drewN | apply IsS113.drew | apply IsS113.set_1 | refine IsS113.far ?_ NB0_676.out _ | refine IsS113.far ?_ NB0_677.out _) | exact HI0.out)) hb)
   clear hb hbox hg
   refine hK.out _ _ ⟨(blk_cell BK676.out 0).trans rfl, (blk_cell BK676.out 1).trans rfl⟩ (fun hHeld => ?_)
   clear hK K
   refine norm_ (a' := ?_) ?_ ?_
   rotate_left
   ·show Act.put _ (some 5) _ = _
    simp only [SX]
    rfl
   exact norm_ (by first | (simp only [putAll, Act.put, List.setIfInBounds_toArray, List.set_cons_zero, List.set_cons_succ]; done) | (simp only [putAll, Act.put, List.setIfInBounds_toArray, List.set_cons_zero, List.set_cons_succ]; rfl)) (hJ1_8_10_11_13 (v683, gb687) _ ⟨hHeld, (rk HO684), (bk BK676), (bk BK677), (bk BK687), GW687.out, GE687.out, NB0_687.out, NB687_0.out, NB676_687.out, NB687_676.out, NB677_687.out, NB687_677.out, (by repeat (first | (with_reducible first | exact HI0.out | apply IsS113.alloc | apply IsS113.drewN | apply IsS113.drew | apply IsS113.set_1 | refine IsS113.far ?_ NB0_676.out _ | refine IsS113.far ?_ NB0_677.out _ | refine IsS113.far ?_ NB0_687.out _) | exact HI0.out)), (by repeat (first | (with_reducible first | exact HK.out | apply KeepBut.set_ | apply keep_drewN | apply keep_drew | apply keep_alloc | refine keep_far ?_ GW676.out _ | refine keep_far ?_ GW677.out _ | refine keep_far ?_ GW687.out _) | exact HK.out)), (by repeat (first | (with_reducible first | exact HB.out | apply below_alloc | apply pw_below_drewN | apply below_drew1 | refine below_set ?_ (IsS113.ge HI0.out) | refine below_set ?_ GE676.out | refine below_set ?_ GE677.out | refine below_set ?_ GE687.out) | exact HB.out))⟩)
  intro hJ1_8_10_11
  refine join_ (σ := Value × Nat) 3 (ms 15 10239) (fun s_ => [(7, .int .i64 t678), (14, .int .i64 t680), (16, s_.1), (5, .pointer (some ⟨s_.2, 0, none⟩)), (8, .int .i64 (wrap64 (1 + t678)))]) (fun s_ w' => (w'.cell? ⟨gb676, 0, none⟩ = some (.int .i64 a1_0) ∧ w'.cell? ⟨gb676, 1, none⟩ = some (.slice A1_1 l1_1.length c1_1)) ∧ (Kd.R (Kd.int .i64) 3 w' w.heap.size (fun _ => True) s_.1 y682) ∧ (w'.heap[gb676]? = some (.cells #[.int .i64 a1_0, .slice A1_1 l1_1.length c1_1] 25 (0, 0))) ∧ (w'.heap[gb677]? = some (.cells #[.int .i64 0, .int .i64 0, .int .i64 0] 64 (0, 0))) ∧ (w'.heap[s_.2]? = some (.cells #[.int .i64 0, .int .i64 0, .int .i64 0] 64 (0, 0))) ∧ (w.heap.size ≤ s_.2) ∧ (w0.heap.size ≤ s_.2) ∧ (g ≠ s_.2) ∧ (s_.2 ≠ g) ∧ (gb676 ≠ s_.2) ∧ (s_.2 ≠ gb676) ∧ (gb677 ≠ s_.2) ∧ (s_.2 ≠ gb677) ∧ (IsS113 w0 w' g s0_0 t681) ∧ (KeepBut w w' g none) ∧ (Below w0.heap.size w0 w')) ?_ ?_
  rotate_left
  rotate_left
  ·skip
   rintro ⟨v683, gb687⟩ w17 ⟨hS_, h0_, h1_, h2_, h3_, h4_, h5_, h6_, h7_, h8_, h9_, h10_, h11_, h12_, h13_, h14_⟩
   have HO684 : Aside0 (Kd.R (Kd.int .i64) 3 w17 w.heap.size (fun _ => True) v683 y682) := ⟨h0_⟩
   replace BK676 : Aside0 (w17.heap[gb676]? = some (.cells #[.int .i64 a1_0, .slice A1_1 l1_1.length c1_1] 25 (0, 0))) := ⟨h1_⟩
   replace BK677 : Aside0 (w17.heap[gb677]? = some (.cells #[.int .i64 0, .int .i64 0, .int .i64 0] 64 (0, 0))) := ⟨h2_⟩
   have BK687 : Aside0 (w17.heap[gb687]? = some (.cells #[.int .i64 0, .int .i64 0, .int .i64 0] 64 (0, 0))) := ⟨h3_⟩
   have GW687 : Aside0 (w.heap.size ≤ gb687) := ⟨h4_⟩
   have GE687 : Aside0 (w0.heap.size ≤ gb687) := ⟨h5_⟩
   have NB0_687 : Aside0 (g ≠ gb687) := ⟨h6_⟩
   have NB687_0 : Aside0 (gb687 ≠ g) := ⟨h7_⟩
   have NB676_687 : Aside0 (gb676 ≠ gb687) := ⟨h8_⟩
   have NB687_676 : Aside0 (gb687 ≠ gb676) := ⟨h9_⟩
   have NB677_687 : Aside0 (gb677 ≠ gb687) := ⟨h10_⟩
   have NB687_677 : Aside0 (gb687 ≠ gb677) := ⟨h11_⟩
   replace HI0 : Aside0 (IsS113 w0 w17 g s0_0 t681) := ⟨h12_⟩
   replace HK : Aside0 (KeepBut w w17 g none) := ⟨h13_⟩
   replace HB : Aside0 (Below w0.heap.size w0 w17) := ⟨h14_⟩
   clear h0_ h1_ h2_ h3_ h4_ h5_ h6_ h7_ h8_ h9_ h10_ h11_ h12_ h13_ h14_
   have hHeld : w17.cell? ⟨gb676, 0, none⟩ = some (.int .i64 a1_0) ∧ w17.cell? ⟨gb676, 1, none⟩ = some (.slice A1_1 l1_1.length c1_1) := hS_
   obtain ⟨Ao18, co18, eo18⟩ := Kd.R_slice HO684.out
   (first | subst eo18 | (injection eo18 with f1_ f2_ f3_; have f4_ := f1_.symm; have f5_ := f3_.symm; clear f1_ f2_ f3_; subst f4_; subst f5_))
   refine norm_ (a' := ?_) ?_ ?_
   rotate_left
   ·simp only [putAll, Act.put, List.setIfInBounds_toArray, List.set_cons_zero, List.set_cons_succ]
    rfl
   refine one_ (i := 11) (N := some 17) (ms 15 12287) rfl rfl (one_of HT_.out (by kernel_rfl)) (by decide) (fun K hK => ?_)
   refine goes_ Try.func101 (by kernel_rfl) rfl #[.pointer (some ⟨g, 0, none⟩), .slice Ao18 y682.length co18] (by rfl) rfl rfl (by (try simp only [List.map_toArray, List.map_cons, List.map_nil]); first | done | rfl | (simp only [List.length_drop, List.length_take]; rfl)) ?_
   with_reducible refine (spec_l30Rd_one.calls k g s0_0 t681 _ _ y682 t685 t686 w0 _ ?side1 ?side2 ?side3 ?side4 ?side5 A5.out).mono ?_
   (case side1 => repeat (first | (with_reducible first | exact HI0.out | apply IsS113.alloc | apply IsS113.drewN | apply IsS113.drew | apply IsS113.set_1 | refine IsS113.far ?_ NB0_676.out _ | refine IsS113.far ?_ NB0_677.out _ | refine IsS113.far ?_ NB0_687.out _) | exact HI0.out))
   (case side2 => repeat (first | (with_reducible first | exact HB.out | apply below_alloc | apply pw_below_drewN | apply below_drew1 | refine below_set ?_ (IsS113.ge HI0.out) | refine below_set ?_ GE676.out | refine below_set ?_ GE677.out | refine below_set ?_ GE687.out) | exact HB.out))
   (case side3 => repeat (first | exact (Kd.R_reads' HO684.out).2.2 | (with_reducible refine Kd.C_alloc ?_ _) | (with_reducible refine Kd.C_drewN ?_ _) | (with_reducible refine Kd.C_drew ?_)))
   (case side4 => exact (Kd.R_reads' HO684.out).2.1)
   (case side5 => exact far_slice (IsS113.own_ne HI0.out HO684.out (by decide)))
   rintro e w19 ⟨rfl, hi, hb, hk⟩
   refine ⟨_, rfl, ?_⟩
   replace BK676 := Aside0.mk (KeepBut.blk hk (g' := gb676) (o := .cells #[.int .i64 a1_0, .slice A1_1 l1_1.length c1_1] 25 (0, 0)) (bk BK676) NB676_0.out (by simp))
   replace BK677 := Aside0.mk (KeepBut.blk hk (g' := gb677) (o := .cells #[.int .i64 0, .int .i64 0, .int .i64 0] 64 (0, 0)) (bk BK677) NB677_0.out (by simp))
   replace HO684 := Aside0.mk (Kd.R_mono (Kd.R_keep (IsS113.apart (show IsS113 w0 _ g s0_0 t681 from by repeat (first | (with_reducible first | exact HI0.out | apply IsS113.alloc | apply IsS113.drewN | apply IsS113.drew | apply IsS113.set_1 | refine IsS113.far ?_ NB0_676.out _ | refine IsS113.far ?_ NB0_677.out _ | refine IsS113.far ?_ NB0_687.out _) | exact HI0.out)) (rk HO684) (by decide)) hk (fun _ h => h.2)) (fun _ h => h.1))
   replace BK687 := Aside0.mk (KeepBut.blk hk (g' := gb687) (o := .cells #[.int .i64 0, .int .i64 0, .int .i64 0] 64 (0, 0)) (bk BK687) NB687_0.out (by simp))
   replace HK := Aside0.mk (KeepBut.trans (by repeat (first | (with_reducible first | exact HK.out | apply KeepBut.set_ | apply keep_drewN | apply keep_drew | apply keep_alloc | refine keep_far ?_ GW676.out _ | refine keep_far ?_ GW677.out _ | refine keep_far ?_ GW687.out _) | exact HK.out)) hk (.inl rfl))
   replace HB := Aside0.mk (hb)
   replace HI0 := Aside0.mk (hi)
   (try clear hb)
   (try clear hb2)
   (try clear hk)
   (try clear hi)
   refine hK.out _ _ ⟨(blk_cell BK676.out 0).trans rfl, (blk_cell BK676.out 1).trans rfl⟩ (fun hHeld => ?_)
   clear hK K
   refine norm_ (a' := ?_) ?_ ?_
   rotate_left
   ·show Act.put _ (some 17) _ = _
    simp only [SX]
    rfl
   refine pu 12 18 ?_ (ms 15 16383) rfl rfl HT_ (by kernel_rfl) (fun _ _ _ h => h) (by rfl) ?_ ?_ ?_ ?_
   rotate_left
   ·intro w'
    go_simp
    with_reducible rfl
   rotate_left
   ·simp only [SX]
    rfl
   exact norm_ (by first | (simp only [putAll, Act.put, List.setIfInBounds_toArray, List.set_cons_zero, List.set_cons_succ]; done) | (simp only [putAll, Act.put, List.setIfInBounds_toArray, List.set_cons_zero, List.set_cons_succ]; rfl)) (hJ1_8_10_11_13 (.slice Ao18 y682.length co18, gb687) _ ⟨hHeld, (rk HO684), (bk BK676), (bk BK677), (bk BK687), GW687.out, GE687.out, NB0_687.out, NB687_0.out, NB676_687.out, NB687_676.out, NB677_687.out, NB687_677.out, (by repeat (first | (with_reducible first | exact HI0.out | apply IsS113.alloc | apply IsS113.drewN | apply IsS113.drew | apply IsS113.set_1 | refine IsS113.far ?_ NB0_676.out _ | refine IsS113.far ?_ NB0_677.out _ | refine IsS113.far ?_ NB0_687.out _) | exact HI0.out)), (by repeat (first | (with_reducible first | exact HK.out | apply KeepBut.set_ | apply keep_drewN | apply keep_drew | apply keep_alloc | refine keep_far ?_ GW676.out _ | refine keep_far ?_ GW677.out _ | refine keep_far ?_ GW687.out _) | exact HK.out)), (by repeat (first | (with_reducible first | exact HB.out | apply below_alloc | apply pw_below_drewN | apply below_drew1 | refine below_set ?_ (IsS113.ge HI0.out) | refine below_set ?_ GE676.out | refine below_set ?_ GE677.out | refine below_set ?_ GE687.out) | exact HB.out))⟩)
  intro hJ1_8_10_13
  refine join_ (σ := Value) 4 (ms 15 2047) (fun s_ => [(7, .int .i64 t678), (14, .int .i64 t680), (16, s_), (8, .int .i64 (wrap64 (1 + t678)))]) (fun s_ w' => (w'.cell? ⟨gb676, 0, none⟩ = some (.int .i64 a1_0) ∧ w'.cell? ⟨gb676, 1, none⟩ = some (.slice A1_1 l1_1.length c1_1)) ∧ (Kd.R (Kd.int .i64) 3 w' w.heap.size (fun _ => True) s_ y682) ∧ (w'.heap[gb676]? = some (.cells #[.int .i64 a1_0, .slice A1_1 l1_1.length c1_1] 25 (0, 0))) ∧ (w'.heap[gb677]? = some (.cells #[.int .i64 0, .int .i64 0, .int .i64 0] 64 (0, 0))) ∧ (IsS113 w0 w' g s0_0 t681) ∧ (KeepBut w w' g none) ∧ (Below w0.heap.size w0 w')) ?_ ?_
  rotate_left
  rotate_left
  ·skip
   rintro v683 w16 ⟨hS_, h0_, h1_, h2_, h3_, h4_, h5_⟩
   have HO684 : Aside0 (Kd.R (Kd.int .i64) 3 w16 w.heap.size (fun _ => True) v683 y682) := ⟨h0_⟩
   replace BK676 : Aside0 (w16.heap[gb676]? = some (.cells #[.int .i64 a1_0, .slice A1_1 l1_1.length c1_1] 25 (0, 0))) := ⟨h1_⟩
   replace BK677 : Aside0 (w16.heap[gb677]? = some (.cells #[.int .i64 0, .int .i64 0, .int .i64 0] 64 (0, 0))) := ⟨h2_⟩
   replace HI0 : Aside0 (IsS113 w0 w16 g s0_0 t681) := ⟨h3_⟩
   replace HK : Aside0 (KeepBut w w16 g none) := ⟨h4_⟩
   replace HB : Aside0 (Below w0.heap.size w0 w16) := ⟨h5_⟩
   clear h0_ h1_ h2_ h3_ h4_ h5_
   have hHeld : w16.cell? ⟨gb676, 0, none⟩ = some (.int .i64 a1_0) ∧ w16.cell? ⟨gb676, 1, none⟩ = some (.slice A1_1 l1_1.length c1_1) := hS_
   obtain ⟨Ao17, co17, eo17⟩ := Kd.R_slice HO684.out
   (first | subst eo17 | (injection eo17 with f1_ f2_ f3_; have f4_ := f1_.symm; have f5_ := f3_.symm; clear f1_ f2_ f3_; subst f4_; subst f5_))
   refine norm_ (a' := ?_) ?_ ?_
   rotate_left
   ·simp only [putAll, Act.put, List.setIfInBounds_toArray, List.set_cons_zero, List.set_cons_succ]
    rfl
   refine two_ (i := 11) (j := 13) (Ni := some 17) (Nj := some 5) (ms 15 4095) (ms 15 10239) rfl rfl rfl rfl (two_of HT_.out (by kernel_rfl)) (by decide) (by decide) (fun K hK => ?_) (fun K hK => ?_)
   ·skip
    refine goes_ Try.func101 (by kernel_rfl) rfl #[.pointer (some ⟨g, 0, none⟩), .slice Ao17 y682.length co17] (by rfl) rfl rfl (by (try simp only [List.map_toArray, List.map_cons, List.map_nil]); first | done | rfl | (simp only [List.length_drop, List.length_take]; rfl)) ?_
    with_reducible refine (spec_l30Rd_one.calls k g s0_0 t681 _ _ y682 t685 t686 w0 _ ?side1 ?side2 ?side3 ?side4 ?side5 A5.out).mono ?_
    (case side1 => repeat (first | (with_reducible first | exact HI0.out | apply IsS113.alloc | apply IsS113.drewN | apply IsS113.drew | apply IsS113.set_1 | refine IsS113.far ?_ NB0_676.out _ | refine IsS113.far ?_ NB0_677.out _) | exact HI0.out))
    (case side2 => repeat (first | (with_reducible first | exact HB.out | apply below_alloc | apply pw_below_drewN | apply below_drew1 | refine below_set ?_ (IsS113.ge HI0.out) | refine below_set ?_ GE676.out | refine below_set ?_ GE677.out) | exact HB.out))
    (case side3 => repeat (first | exact (Kd.R_reads' HO684.out).2.2 | (with_reducible refine Kd.C_alloc ?_ _) | (with_reducible refine Kd.C_drewN ?_ _) | (with_reducible refine Kd.C_drew ?_)))
    (case side4 => exact (Kd.R_reads' HO684.out).2.1)
    (case side5 => exact far_slice (IsS113.own_ne HI0.out HO684.out (by decide)))
    rintro e w18 ⟨rfl, hi, hb, hk⟩
    refine ⟨_, rfl, ?_⟩
    replace BK676 := Aside0.mk (KeepBut.blk hk (g' := gb676) (o := .cells #[.int .i64 a1_0, .slice A1_1 l1_1.length c1_1] 25 (0, 0)) (bk BK676) NB676_0.out (by simp))
    replace BK677 := Aside0.mk (KeepBut.blk hk (g' := gb677) (o := .cells #[.int .i64 0, .int .i64 0, .int .i64 0] 64 (0, 0)) (bk BK677) NB677_0.out (by simp))
    replace HO684 := Aside0.mk (Kd.R_mono (Kd.R_keep (IsS113.apart (show IsS113 w0 _ g s0_0 t681 from by repeat (first | (with_reducible first | exact HI0.out | apply IsS113.alloc | apply IsS113.drewN | apply IsS113.drew | apply IsS113.set_1 | refine IsS113.far ?_ NB0_676.out _ | refine IsS113.far ?_ NB0_677.out _) | exact HI0.out)) (rk HO684) (by decide)) hk (fun _ h => h.2)) (fun _ h => h.1))
    replace HK := Aside0.mk (KeepBut.trans (by repeat (first | (with_reducible first | exact HK.out | apply KeepBut.set_ | apply keep_drewN | apply keep_drew | apply keep_alloc | refine keep_far ?_ GW676.out _ | refine keep_far ?_ GW677.out _) | exact HK.out)) hk (.inl rfl))
    replace HB := Aside0.mk (hb)
    replace HI0 := Aside0.mk (hi)
    (try clear hb)
    (try clear hb2)
    (try clear hk)
    (try clear hi)
    refine hK.out _ _ ⟨(blk_cell BK676.out 0).trans rfl, (blk_cell BK676.out 1).trans rfl⟩ (fun hHeld => ?_)
    clear hK K
    refine norm_ (a' := ?_) ?_ ?_
    rotate_left
    ·show Act.put _ (some 17) _ = _
     simp only [SX]
     rfl
    refine pu 12 18 ?_ (ms 15 8191) rfl rfl HT_ (by kernel_rfl) (fun _ _ _ h => h) (by rfl) ?_ ?_ ?_ ?_
    rotate_left
    ·intro w'
     go_simp
     with_reducible rfl
    rotate_left
    ·simp only [SX]
     rfl
    exact norm_ (by first | (simp only [putAll, Act.put, List.setIfInBounds_toArray, List.set_cons_zero, List.set_cons_succ]; done) | (simp only [putAll, Act.put, List.setIfInBounds_toArray, List.set_cons_zero, List.set_cons_succ]; rfl)) (hJ1_8_10_11 (.slice Ao17 y682.length co17) _ ⟨hHeld, (rk HO684), (bk BK676), (bk BK677), (by repeat (first | (with_reducible first | exact HI0.out | apply IsS113.alloc | apply IsS113.drewN | apply IsS113.drew | apply IsS113.set_1 | refine IsS113.far ?_ NB0_676.out _ | refine IsS113.far ?_ NB0_677.out _) | exact HI0.out)), (by repeat (first | (with_reducible first | exact HK.out | apply KeepBut.set_ | apply keep_drewN | apply keep_drew | apply keep_alloc | refine keep_far ?_ GW676.out _ | refine keep_far ?_ GW677.out _) | exact HK.out)), (by repeat (first | (with_reducible first | exact HB.out | apply below_alloc | apply pw_below_drewN | apply below_drew1 | refine below_set ?_ (IsS113.ge HI0.out) | refine below_set ?_ GE676.out | refine below_set ?_ GE677.out) | exact HB.out))⟩)
   skip
   refine box_step ?hg (N := 5) ?hd (cs := #[.int .i64 0, .int .i64 0, .int .i64 0]) (t := 64) ?hr ?_; (case hd => rfl); (case hg => rfl); (case hr => first | (go_simp; done) | (go_simp; rfl))
   intro gb687 hg w17 hbox hb
   replace HO684 := Aside0.mk (Kd.R_below (rk HO684) hb)
   replace HB := Aside0.mk (below_step (by repeat (first | (with_reducible first | exact HB.out | apply below_alloc | apply pw_below_drewN | apply below_drew1 | refine below_set ?_ (IsS113.ge HI0.out) | refine below_set ?_ GE676.out | refine below_set ?_ GE677.out) | exact HB.out)) hb)
   have BK687 := Aside0.mk (hbox)
   have GW687 := Aside0.mk ((by rw [hg]; exact (keep_size (w := w) (g := g) (row := none) (by repeat (first | (with_reducible first | exact HK.out | apply KeepBut.set_ | apply keep_drewN | apply keep_drew | apply keep_alloc | refine keep_far ?_ GW676.out _ | refine keep_far ?_ GW677.out _) | exact HK.out))) : w.heap.size ≤ gb687))
   have GE687 := Aside0.mk ((Nat.le_trans HW0.out (by rw [hg]; exact (keep_size (w := w) (g := g) (row := none) (by repeat (first | (with_reducible first | exact HK.out | apply KeepBut.set_ | apply keep_drewN | apply keep_drew | apply keep_alloc | refine keep_far ?_ GW676.out _ | refine keep_far ?_ GW677.out _) | exact HK.out))) : w.heap.size ≤ gb687) : w0.heap.size ≤ gb687))
   replace HK := Aside0.mk (KeepBut.trans (by repeat (first | (with_reducible first | exact HK.out | apply KeepBut.set_ | apply keep_drewN | apply keep_drew | apply keep_alloc | refine keep_far ?_ GW676.out _ | refine keep_far ?_ GW677.out _) | exact HK.out)) (KeepBut.of_below hb g none) (.inl rfl))
   have NB676_687 := Aside0.mk ((by rw [hg]; exact Nat.ne_of_lt (blk_lt (bk BK676)) : gb676 ≠ gb687))
   have NB687_676 := Aside0.mk ((by rw [hg]; exact Nat.ne_of_gt (blk_lt (bk BK676)) : gb687 ≠ gb676))
   replace BK676 := Aside0.mk (blk_below (bk BK676) hb)
   have NB677_687 := Aside0.mk ((by rw [hg]; exact Nat.ne_of_lt (blk_lt (bk BK677)) : gb677 ≠ gb687))
   have NB687_677 := Aside0.mk ((by rw [hg]; exact Nat.ne_of_gt (blk_lt (bk BK677)) : gb687 ≠ gb677))
   replace BK677 := Aside0.mk (blk_below (bk BK677) hb)
   have NB0_687 := Aside0.mk ((by rw [hg]; exact Nat.ne_of_lt (IsS113.lt (show IsS113 w0 _ g s0_0 t681 from by repeat (first | (with_reducible first | exact HI0.out | apply IsS113.alloc | apply IsS113.drewN | apply IsS113.drew | apply IsS113.set_1 | refine IsS113.far ?_ NB0_676.out _ | refine IsS113.far ?_ NB0_677.out _) | exact HI0.out))) : g ≠ gb687))
   have NB687_0 := Aside0.mk ((by rw [hg]; exact Nat.ne_of_gt (IsS113.lt (show IsS113 w0 _ g s0_0 t681 from by repeat (first | (with_reducible first | exact HI0.out | apply IsS113.alloc | apply IsS113.drewN | apply IsS113.drew | apply IsS113.set_1 | refine IsS113.far ?_ NB0_676.out _ | refine IsS113.far ?_ NB0_677.out _) | exact HI0.out))) : gb687 ≠ g))
   replace HI0 := Aside0.mk (IsS113.below (by repeat (first | (with_reducible first | exact HI0.out | apply IsS113.alloc | apply IsS113.drewN | apply IsS113.drew | apply IsS113.set_1 | refine IsS113.far ?_ NB0_676.out _ | refine IsS113.far ?_ NB0_677.out _) | exact HI0.out)) hb)
   clear hb hbox hg
   refine hK.out _ _ ⟨(blk_cell BK676.out 0).trans rfl, (blk_cell BK676.out 1).trans rfl⟩ (fun hHeld => ?_)
   clear hK K
   refine norm_ (a' := ?_) ?_ ?_
   rotate_left
   ·show Act.put _ (some 5) _ = _
    simp only [SX]
    rfl
   exact norm_ (by first | (simp only [putAll, Act.put, List.setIfInBounds_toArray, List.set_cons_zero, List.set_cons_succ]; done) | (simp only [putAll, Act.put, List.setIfInBounds_toArray, List.set_cons_zero, List.set_cons_succ]; rfl)) (hJ1_8_10_13 ((.slice Ao17 y682.length co17), gb687) _ ⟨hHeld, (rk HO684), (bk BK676), (bk BK677), (bk BK687), GW687.out, GE687.out, NB0_687.out, NB687_0.out, NB676_687.out, NB687_676.out, NB677_687.out, NB687_677.out, (by repeat (first | (with_reducible first | exact HI0.out | apply IsS113.alloc | apply IsS113.drewN | apply IsS113.drew | apply IsS113.set_1 | refine IsS113.far ?_ NB0_676.out _ | refine IsS113.far ?_ NB0_677.out _ | refine IsS113.far ?_ NB0_687.out _) | exact HI0.out)), (by repeat (first | (with_reducible first | exact HK.out | apply KeepBut.set_ | apply keep_drewN | apply keep_drew | apply keep_alloc | refine keep_far ?_ GW676.out _ | refine keep_far ?_ GW677.out _ | refine keep_far ?_ GW687.out _) | exact HK.out)), (by repeat (first | (with_reducible first | exact HB.out | apply below_alloc | apply pw_below_drewN | apply below_drew1 | refine below_set ?_ (IsS113.ge HI0.out) | refine below_set ?_ GE676.out | refine below_set ?_ GE677.out | refine below_set ?_ GE687.out) | exact HB.out))⟩)
  intro hJ1_8_10
  refine join_ (σ := Nat) 4 (ms 15 9215) (fun s_ => [(7, .int .i64 t678), (14, .int .i64 t680), (5, .pointer (some ⟨s_, 0, none⟩)), (8, .int .i64 (wrap64 (1 + t678)))]) (fun s_ w' => (w'.cell? ⟨gb676, 0, none⟩ = some (.int .i64 a1_0) ∧ w'.cell? ⟨gb676, 1, none⟩ = some (.slice A1_1 l1_1.length c1_1)) ∧ (w'.heap[gb676]? = some (.cells #[.int .i64 a1_0, .slice A1_1 l1_1.length c1_1] 25 (0, 0))) ∧ (w'.heap[gb677]? = some (.cells #[.int .i64 0, .int .i64 0, .int .i64 0] 64 (0, 0))) ∧ (w'.heap[s_]? = some (.cells #[.int .i64 0, .int .i64 0, .int .i64 0] 64 (0, 0))) ∧ (w.heap.size ≤ s_) ∧ (w0.heap.size ≤ s_) ∧ (g ≠ s_) ∧ (s_ ≠ g) ∧ (gb676 ≠ s_) ∧ (s_ ≠ gb676) ∧ (gb677 ≠ s_) ∧ (s_ ≠ gb677) ∧ (IsS113 w0 w' g s0_0 t681) ∧ (KeepBut w w' g none) ∧ (Below w0.heap.size w0 w')) ?_ ?_
  rotate_left
  rotate_left
  ·skip
   rintro gb687 w15 ⟨hS_, h0_, h1_, h2_, h3_, h4_, h5_, h6_, h7_, h8_, h9_, h10_, h11_, h12_, h13_⟩
   replace BK676 : Aside0 (w15.heap[gb676]? = some (.cells #[.int .i64 a1_0, .slice A1_1 l1_1.length c1_1] 25 (0, 0))) := ⟨h0_⟩
   replace BK677 : Aside0 (w15.heap[gb677]? = some (.cells #[.int .i64 0, .int .i64 0, .int .i64 0] 64 (0, 0))) := ⟨h1_⟩
   have BK687 : Aside0 (w15.heap[gb687]? = some (.cells #[.int .i64 0, .int .i64 0, .int .i64 0] 64 (0, 0))) := ⟨h2_⟩
   have GW687 : Aside0 (w.heap.size ≤ gb687) := ⟨h3_⟩
   have GE687 : Aside0 (w0.heap.size ≤ gb687) := ⟨h4_⟩
   have NB0_687 : Aside0 (g ≠ gb687) := ⟨h5_⟩
   have NB687_0 : Aside0 (gb687 ≠ g) := ⟨h6_⟩
   have NB676_687 : Aside0 (gb676 ≠ gb687) := ⟨h7_⟩
   have NB687_676 : Aside0 (gb687 ≠ gb676) := ⟨h8_⟩
   have NB677_687 : Aside0 (gb677 ≠ gb687) := ⟨h9_⟩
   have NB687_677 : Aside0 (gb687 ≠ gb677) := ⟨h10_⟩
   replace HI0 : Aside0 (IsS113 w0 w15 g s0_0 t681) := ⟨h11_⟩
   replace HK : Aside0 (KeepBut w w15 g none) := ⟨h12_⟩
   replace HB : Aside0 (Below w0.heap.size w0 w15) := ⟨h13_⟩
   clear h0_ h1_ h2_ h3_ h4_ h5_ h6_ h7_ h8_ h9_ h10_ h11_ h12_ h13_
   have hHeld : w15.cell? ⟨gb676, 0, none⟩ = some (.int .i64 a1_0) ∧ w15.cell? ⟨gb676, 1, none⟩ = some (.slice A1_1 l1_1.length c1_1) := hS_
   refine norm_ (a' := ?_) ?_ ?_
   rotate_left
   ·simp only [putAll, Act.put, List.setIfInBounds_toArray, List.set_cons_zero, List.set_cons_succ]
    rfl
   refine one_ (i := 10) (N := some 16) (ms 15 10239) rfl rfl (one_of HT_.out (by kernel_rfl)) (by decide) (fun K hK => ?_)
   refine Kd.R_lit_step (Kd.int .i64) _ 3 ?hg (N := 16) ?hd (xs := ([(-1), 0, 3, 9, 99] : List Int)) (inner := [.int .i64 (-1), .int .i64 0, .int .i64 3, .int .i64 9, .int .i64 99]) (ok := fun _ => True) (okp := fun _ => True) ?hr ?hp (fun _ hk => hk) trivial (Below.refl _ _) (Nat.le_refl _) (by simp) ?_; (case hd => rfl); (case hg => rfl); (case hr => first | (go_simp; done) | (go_simp; rfl)); (case hp => exact (Reps.one (show Kd.M (Kd.int .i64) _ _ _ (-1) [.int .i64 (-1)] from rfl) (Reps.one (show Kd.M (Kd.int .i64) _ _ _ 0 [.int .i64 0] from rfl) (Reps.one (show Kd.M (Kd.int .i64) _ _ _ 3 [.int .i64 3] from rfl) (Reps.one (show Kd.M (Kd.int .i64) _ _ _ 9 [.int .i64 9] from rfl) (Reps.one (show Kd.M (Kd.int .i64) _ _ _ 99 [.int .i64 99] from rfl) (Reps.none _ _)))))))
   intro v683 w16 ho17 hb hg_ hnew_
   clear hg_ hnew_
   (first | rw [← Ny682.out] at ho17 | (simp only [Int.reduceToNat] at ho17; rw [← Ny682.out] at ho17))
   have HO684 := Aside0.mk (Kd.R_lower ho17 (keep_size (w := w) (g := g) (row := none) (by repeat (first | (with_reducible first | exact HK.out | apply KeepBut.set_ | apply keep_drewN | apply keep_drew | apply keep_alloc | refine keep_far ?_ GW676.out _ | refine keep_far ?_ GW677.out _ | refine keep_far ?_ GW687.out _) | exact HK.out))))
   replace BK676 := Aside0.mk (blk_below (bk BK676) hb)
   replace BK677 := Aside0.mk (blk_below (bk BK677) hb)
   replace BK687 := Aside0.mk (blk_below (bk BK687) hb)
   replace HK := Aside0.mk (KeepBut.trans (by repeat (first | (with_reducible first | exact HK.out | apply KeepBut.set_ | apply keep_drewN | apply keep_drew | apply keep_alloc | refine keep_far ?_ GW676.out _ | refine keep_far ?_ GW677.out _ | refine keep_far ?_ GW687.out _) | exact HK.out)) (KeepBut.of_below hb g none) (.inl rfl))
   replace HB := Aside0.mk (below_step (by repeat (first | (with_reducible first | exact HB.out | apply below_alloc | apply pw_below_drewN | apply below_drew1 | refine below_set ?_ (IsS113.ge HI0.out) | refine below_set ?_ GE676.out | refine below_set ?_ GE677.out | refine below_set ?_ GE687.out) | exact HB.out)) hb)
   replace HI0 := Aside0.mk (IsS113.below (by repeat (first | (with_reducible first | exact HI0.out | apply IsS113.alloc | apply IsS113.drewN | apply IsS113.drew | apply IsS113.set_1 | refine IsS113.far ?_ NB0_676.out _ | refine IsS113.far ?_ NB0_677.out _ | refine IsS113.far ?_ NB0_687.out _) | exact HI0.out)) hb)
   clear hb ho17
   refine hK.out _ _ ⟨(blk_cell BK676.out 0).trans rfl, (blk_cell BK676.out 1).trans rfl⟩ (fun hHeld => ?_)
   clear hK K
   refine norm_ (a' := ?_) ?_ ?_
   rotate_left
   ·show Act.put _ (some 16) _ = _
    simp only [SX]
    rfl
   exact norm_ (by first | (simp only [putAll, Act.put, List.setIfInBounds_toArray, List.set_cons_zero, List.set_cons_succ]; done) | (simp only [putAll, Act.put, List.setIfInBounds_toArray, List.set_cons_zero, List.set_cons_succ]; rfl)) (hJ1_8_10_13 (v683, gb687) _ ⟨hHeld, (rk HO684), (bk BK676), (bk BK677), (bk BK687), GW687.out, GE687.out, NB0_687.out, NB687_0.out, NB676_687.out, NB687_676.out, NB677_687.out, NB687_677.out, (by repeat (first | (with_reducible first | exact HI0.out | apply IsS113.alloc | apply IsS113.drewN | apply IsS113.drew | apply IsS113.set_1 | refine IsS113.far ?_ NB0_676.out _ | refine IsS113.far ?_ NB0_677.out _ | refine IsS113.far ?_ NB0_687.out _) | exact HI0.out)), (by repeat (first | (with_reducible first | exact HK.out | apply KeepBut.set_ | apply keep_drewN | apply keep_drew | apply keep_alloc | refine keep_far ?_ GW676.out _ | refine keep_far ?_ GW677.out _ | refine keep_far ?_ GW687.out _) | exact HK.out)), (by repeat (first | (with_reducible first | exact HB.out | apply below_alloc | apply pw_below_drewN | apply below_drew1 | refine below_set ?_ (IsS113.ge HI0.out) | refine below_set ?_ GE676.out | refine below_set ?_ GE677.out | refine below_set ?_ GE687.out) | exact HB.out))⟩)
  intro hJ1_8_13
  refine join_ (σ := Value × Nat) 4 (ms 15 9983) (fun s_ => [(7, .int .i64 t678), (16, s_.1), (5, .pointer (some ⟨s_.2, 0, none⟩)), (8, .int .i64 (wrap64 (1 + t678)))]) (fun s_ w' => (w'.cell? ⟨gb676, 0, none⟩ = some (.int .i64 a1_0) ∧ w'.cell? ⟨gb676, 1, none⟩ = some (.slice A1_1 l1_1.length c1_1)) ∧ (Kd.R (Kd.int .i64) 3 w' w.heap.size (fun _ => True) s_.1 y682) ∧ (w'.heap[gb676]? = some (.cells #[.int .i64 a1_0, .slice A1_1 l1_1.length c1_1] 25 (0, 0))) ∧ (w'.heap[gb677]? = some (.cells #[.int .i64 0, .int .i64 0, .int .i64 0] 64 (0, 0))) ∧ (w'.heap[s_.2]? = some (.cells #[.int .i64 0, .int .i64 0, .int .i64 0] 64 (0, 0))) ∧ (w.heap.size ≤ s_.2) ∧ (w0.heap.size ≤ s_.2) ∧ (g ≠ s_.2) ∧ (s_.2 ≠ g) ∧ (gb676 ≠ s_.2) ∧ (s_.2 ≠ gb676) ∧ (gb677 ≠ s_.2) ∧ (s_.2 ≠ gb677) ∧ (IsS113 w0 w' g s0_0 t679) ∧ (KeepBut w w' g none) ∧ (Below w0.heap.size w0 w')) ?_ ?_
  rotate_left
  rotate_left
  ·skip
   rintro ⟨v683, gb687⟩ w16 ⟨hS_, h0_, h1_, h2_, h3_, h4_, h5_, h6_, h7_, h8_, h9_, h10_, h11_, h12_, h13_, h14_⟩
   have HO684 : Aside0 (Kd.R (Kd.int .i64) 3 w16 w.heap.size (fun _ => True) v683 y682) := ⟨h0_⟩
   replace BK676 : Aside0 (w16.heap[gb676]? = some (.cells #[.int .i64 a1_0, .slice A1_1 l1_1.length c1_1] 25 (0, 0))) := ⟨h1_⟩
   replace BK677 : Aside0 (w16.heap[gb677]? = some (.cells #[.int .i64 0, .int .i64 0, .int .i64 0] 64 (0, 0))) := ⟨h2_⟩
   have BK687 : Aside0 (w16.heap[gb687]? = some (.cells #[.int .i64 0, .int .i64 0, .int .i64 0] 64 (0, 0))) := ⟨h3_⟩
   have GW687 : Aside0 (w.heap.size ≤ gb687) := ⟨h4_⟩
   have GE687 : Aside0 (w0.heap.size ≤ gb687) := ⟨h5_⟩
   have NB0_687 : Aside0 (g ≠ gb687) := ⟨h6_⟩
   have NB687_0 : Aside0 (gb687 ≠ g) := ⟨h7_⟩
   have NB676_687 : Aside0 (gb676 ≠ gb687) := ⟨h8_⟩
   have NB687_676 : Aside0 (gb687 ≠ gb676) := ⟨h9_⟩
   have NB677_687 : Aside0 (gb677 ≠ gb687) := ⟨h10_⟩
   have NB687_677 : Aside0 (gb687 ≠ gb677) := ⟨h11_⟩
   replace HI0 : Aside0 (IsS113 w0 w16 g s0_0 t679) := ⟨h12_⟩
   replace HK : Aside0 (KeepBut w w16 g none) := ⟨h13_⟩
   replace HB : Aside0 (Below w0.heap.size w0 w16) := ⟨h14_⟩
   clear h0_ h1_ h2_ h3_ h4_ h5_ h6_ h7_ h8_ h9_ h10_ h11_ h12_ h13_ h14_
   have hHeld : w16.cell? ⟨gb676, 0, none⟩ = some (.int .i64 a1_0) ∧ w16.cell? ⟨gb676, 1, none⟩ = some (.slice A1_1 l1_1.length c1_1) := hS_
   refine norm_ (a' := ?_) ?_ ?_
   rotate_left
   ·simp only [putAll, Act.put, List.setIfInBounds_toArray, List.set_cons_zero, List.set_cons_succ]
    rfl
   refine one_ (i := 8) (N := some 14) (ms 15 10239) rfl rfl (one_of HT_.out (by kernel_rfl)) (by decide) (fun K hK => ?_)
   refine goes_ Try.func59 (by kernel_rfl) rfl #[.pointer (some ⟨g, 0, none⟩), .int .i64 (wrap64 ((l1_1.length : Int) + 1))] (by rfl) rfl rfl (by (try simp only [List.map_toArray, List.map_cons, List.map_nil]); first | done | rfl | (simp only [List.length_drop, List.length_take]; rfl)) ?_
   with_reducible refine (spec_l30Rd_pick.calls k g s0_0 t679 (wrap64 ((l1_1.length : Int) + 1)) t680 t681 w0 _ ?side1 ?side2 A4.out).mono ?_
   (case side1 => repeat (first | (with_reducible first | exact HI0.out | apply IsS113.alloc | apply IsS113.drewN | apply IsS113.drew | apply IsS113.set_1 | refine IsS113.far ?_ NB0_676.out _ | refine IsS113.far ?_ NB0_677.out _ | refine IsS113.far ?_ NB0_687.out _) | exact HI0.out))
   (case side2 => repeat (first | (with_reducible first | exact HB.out | apply below_alloc | apply pw_below_drewN | apply below_drew1 | refine below_set ?_ (IsS113.ge HI0.out) | refine below_set ?_ GE676.out | refine below_set ?_ GE677.out | refine below_set ?_ GE687.out) | exact HB.out))
   rintro e w17 ⟨rfl, hi, hb, hk⟩
   refine ⟨_, rfl, ?_⟩
   replace BK676 := Aside0.mk (KeepBut.blk hk (g' := gb676) (o := .cells #[.int .i64 a1_0, .slice A1_1 l1_1.length c1_1] 25 (0, 0)) (bk BK676) NB676_0.out (by simp))
   replace BK677 := Aside0.mk (KeepBut.blk hk (g' := gb677) (o := .cells #[.int .i64 0, .int .i64 0, .int .i64 0] 64 (0, 0)) (bk BK677) NB677_0.out (by simp))
   replace HO684 := Aside0.mk (Kd.R_mono (Kd.R_keep (IsS113.apart (show IsS113 w0 _ g s0_0 t679 from by repeat (first | (with_reducible first | exact HI0.out | apply IsS113.alloc | apply IsS113.drewN | apply IsS113.drew | apply IsS113.set_1 | refine IsS113.far ?_ NB0_676.out _ | refine IsS113.far ?_ NB0_677.out _ | refine IsS113.far ?_ NB0_687.out _) | exact HI0.out)) (rk HO684) (by decide)) hk (fun _ h => h.2)) (fun _ h => h.1))
   replace BK687 := Aside0.mk (KeepBut.blk hk (g' := gb687) (o := .cells #[.int .i64 0, .int .i64 0, .int .i64 0] 64 (0, 0)) (bk BK687) NB687_0.out (by simp))
   replace HK := Aside0.mk (KeepBut.trans (by repeat (first | (with_reducible first | exact HK.out | apply KeepBut.set_ | apply keep_drewN | apply keep_drew | apply keep_alloc | refine keep_far ?_ GW676.out _ | refine keep_far ?_ GW677.out _ | refine keep_far ?_ GW687.out _) | exact HK.out)) hk (.inl rfl))
   replace HB := Aside0.mk (hb)
   replace HI0 := Aside0.mk (hi)
   (try clear hb)
   (try clear hb2)
   (try clear hk)
   (try clear hi)
   refine hK.out _ _ ⟨(blk_cell BK676.out 0).trans rfl, (blk_cell BK676.out 1).trans rfl⟩ (fun hHeld => ?_)
   clear hK K
   refine norm_ (a' := ?_) ?_ ?_
   rotate_left
   ·show Act.put _ (some 14) _ = _
    simp only [SX]
    rfl
   exact norm_ (by first | (simp only [putAll, Act.put, List.setIfInBounds_toArray, List.set_cons_zero, List.set_cons_succ]; done) | (simp only [putAll, Act.put, List.setIfInBounds_toArray, List.set_cons_zero, List.set_cons_succ]; rfl)) (hJ1_8_10_13 (v683, gb687) _ ⟨hHeld, (rk HO684), (bk BK676), (bk BK677), (bk BK687), GW687.out, GE687.out, NB0_687.out, NB687_0.out, NB676_687.out, NB687_676.out, NB677_687.out, NB687_677.out, (by repeat (first | (with_reducible first | exact HI0.out | apply IsS113.alloc | apply IsS113.drewN | apply IsS113.drew | apply IsS113.set_1 | refine IsS113.far ?_ NB0_676.out _ | refine IsS113.far ?_ NB0_677.out _ | refine IsS113.far ?_ NB0_687.out _) | exact HI0.out)), (by repeat (first | (with_reducible first | exact HK.out | apply KeepBut.set_ | apply keep_drewN | apply keep_drew | apply keep_alloc | refine keep_far ?_ GW676.out _ | refine keep_far ?_ GW677.out _ | refine keep_far ?_ GW687.out _) | exact HK.out)), (by repeat (first | (with_reducible first | exact HB.out | apply below_alloc | apply pw_below_drewN | apply below_drew1 | refine below_set ?_ (IsS113.ge HI0.out) | refine below_set ?_ GE676.out | refine below_set ?_ GE677.out | refine below_set ?_ GE687.out) | exact HB.out))⟩)
  intro hJ1_10_13
  refine join_ (σ := Unit) 5 (ms 15 1023) (fun s_ => [(7, .int .i64 t678), (14, .int .i64 t680), (8, .int .i64 (wrap64 (1 + t678)))]) (fun s_ w' => (w'.cell? ⟨gb676, 0, none⟩ = some (.int .i64 a1_0) ∧ w'.cell? ⟨gb676, 1, none⟩ = some (.slice A1_1 l1_1.length c1_1)) ∧ (w'.heap[gb676]? = some (.cells #[.int .i64 a1_0, .slice A1_1 l1_1.length c1_1] 25 (0, 0))) ∧ (w'.heap[gb677]? = some (.cells #[.int .i64 0, .int .i64 0, .int .i64 0] 64 (0, 0))) ∧ (IsS113 w0 w' g s0_0 t681) ∧ (KeepBut w w' g none) ∧ (Below w0.heap.size w0 w')) ?_ ?_
  rotate_left
  rotate_left
  ·skip
   rintro _ w14 ⟨hS_, h0_, h1_, h2_, h3_, h4_⟩
   replace BK676 : Aside0 (w14.heap[gb676]? = some (.cells #[.int .i64 a1_0, .slice A1_1 l1_1.length c1_1] 25 (0, 0))) := ⟨h0_⟩
   replace BK677 : Aside0 (w14.heap[gb677]? = some (.cells #[.int .i64 0, .int .i64 0, .int .i64 0] 64 (0, 0))) := ⟨h1_⟩
   replace HI0 : Aside0 (IsS113 w0 w14 g s0_0 t681) := ⟨h2_⟩
   replace HK : Aside0 (KeepBut w w14 g none) := ⟨h3_⟩
   replace HB : Aside0 (Below w0.heap.size w0 w14) := ⟨h4_⟩
   clear h0_ h1_ h2_ h3_ h4_
   have hHeld : w14.cell? ⟨gb676, 0, none⟩ = some (.int .i64 a1_0) ∧ w14.cell? ⟨gb676, 1, none⟩ = some (.slice A1_1 l1_1.length c1_1) := hS_
   refine norm_ (a' := ?_) ?_ ?_
   rotate_left
   ·simp only [putAll, Act.put, List.setIfInBounds_toArray, List.set_cons_zero, List.set_cons_succ]
    rfl
   refine two_ (i := 10) (j := 13) (Ni := some 16) (Nj := some 5) (ms 15 2047) (ms 15 9215) rfl rfl rfl rfl (two_of HT_.out (by kernel_rfl)) (by decide) (by decide) (fun K hK => ?_) (fun K hK => ?_)
   ·skip
    refine Kd.R_lit_step (Kd.int .i64) _ 3 ?hg (N := 16) ?hd (xs := ([(-1), 0, 3, 9, 99] : List Int)) (inner := [.int .i64 (-1), .int .i64 0, .int .i64 3, .int .i64 9, .int .i64 99]) (ok := fun _ => True) (okp := fun _ => True) ?hr ?hp (fun _ hk => hk) trivial (Below.refl _ _) (Nat.le_refl _) (by simp) ?_; (case hd => rfl); (case hg => rfl); (case hr => first | (go_simp; done) | (go_simp; rfl)); (case hp => exact (Reps.one (show Kd.M (Kd.int .i64) _ _ _ (-1) [.int .i64 (-1)] from rfl) (Reps.one (show Kd.M (Kd.int .i64) _ _ _ 0 [.int .i64 0] from rfl) (Reps.one (show Kd.M (Kd.int .i64) _ _ _ 3 [.int .i64 3] from rfl) (Reps.one (show Kd.M (Kd.int .i64) _ _ _ 9 [.int .i64 9] from rfl) (Reps.one (show Kd.M (Kd.int .i64) _ _ _ 99 [.int .i64 99] from rfl) (Reps.none _ _)))))))
    intro v683 w15 ho16 hb hg_ hnew_
    clear hg_ hnew_
    (first | rw [← Ny682.out] at ho16 | (simp only [Int.reduceToNat] at ho16; rw [← Ny682.out] at ho16))
    have HO684 := Aside0.mk (Kd.R_lower ho16 (keep_size (w := w) (g := g) (row := none) (by repeat (first | (with_reducible first | exact HK.out | apply KeepBut.set_ | apply keep_drewN | apply keep_drew | apply keep_alloc | refine keep_far ?_ GW676.out _ | refine keep_far ?_ GW677.out _) | exact HK.out))))
    replace BK676 := Aside0.mk (blk_below (bk BK676) hb)
    replace BK677 := Aside0.mk (blk_below (bk BK677) hb)
    replace HK := Aside0.mk (KeepBut.trans (by repeat (first | (with_reducible first | exact HK.out | apply KeepBut.set_ | apply keep_drewN | apply keep_drew | apply keep_alloc | refine keep_far ?_ GW676.out _ | refine keep_far ?_ GW677.out _) | exact HK.out)) (KeepBut.of_below hb g none) (.inl rfl))
    replace HB := Aside0.mk (below_step (by repeat (first | (with_reducible first | exact HB.out | apply below_alloc | apply pw_below_drewN | apply below_drew1 | refine below_set ?_ (IsS113.ge HI0.out) | refine below_set ?_ GE676.out | refine below_set ?_ GE677.out) | exact HB.out)) hb)
    replace HI0 := Aside0.mk (IsS113.below (by repeat (first | (with_reducible first | exact HI0.out | apply IsS113.alloc | apply IsS113.drewN | apply IsS113.drew | apply IsS113.set_1 | refine IsS113.far ?_ NB0_676.out _ | refine IsS113.far ?_ NB0_677.out _) | exact HI0.out)) hb)
    clear hb ho16
    refine hK.out _ _ ⟨(blk_cell BK676.out 0).trans rfl, (blk_cell BK676.out 1).trans rfl⟩ (fun hHeld => ?_)
    clear hK K
    refine norm_ (a' := ?_) ?_ ?_
    rotate_left
    ·show Act.put _ (some 16) _ = _
     simp only [SX]
     rfl
    exact norm_ (by first | (simp only [putAll, Act.put, List.setIfInBounds_toArray, List.set_cons_zero, List.set_cons_succ]; done) | (simp only [putAll, Act.put, List.setIfInBounds_toArray, List.set_cons_zero, List.set_cons_succ]; rfl)) (hJ1_8_10 (v683) _ ⟨hHeld, (rk HO684), (bk BK676), (bk BK677), (by repeat (first | (with_reducible first | exact HI0.out | apply IsS113.alloc | apply IsS113.drewN | apply IsS113.drew | apply IsS113.set_1 | refine IsS113.far ?_ NB0_676.out _ | refine IsS113.far ?_ NB0_677.out _) | exact HI0.out)), (by repeat (first | (with_reducible first | exact HK.out | apply KeepBut.set_ | apply keep_drewN | apply keep_drew | apply keep_alloc | refine keep_far ?_ GW676.out _ | refine keep_far ?_ GW677.out _) | exact HK.out)), (by repeat (first | (with_reducible first | exact HB.out | apply below_alloc | apply pw_below_drewN | apply below_drew1 | refine below_set ?_ (IsS113.ge HI0.out) | refine below_set ?_ GE676.out | refine below_set ?_ GE677.out) | exact HB.out))⟩)
   skip
   refine box_step ?hg (N := 5) ?hd (cs := #[.int .i64 0, .int .i64 0, .int .i64 0]) (t := 64) ?hr ?_; (case hd => rfl); (case hg => rfl); (case hr => first | (go_simp; done) | (go_simp; rfl))
   intro gb687 hg w15 hbox hb
   replace HB := Aside0.mk (below_step (by repeat (first | (with_reducible first | exact HB.out | apply below_alloc | apply pw_below_drewN | apply below_drew1 | refine below_set ?_ (IsS113.ge HI0.out) | refine below_set ?_ GE676.out | refine below_set ?_ GE677.out) | exact HB.out)) hb)
   have BK687 := Aside0.mk (hbox)
   have GW687 := Aside0.mk ((by rw [hg]; exact (keep_size (w := w) (g := g) (row := none) (by repeat (first | (with_reducible first | exact HK.out | apply KeepBut.set_ | apply keep_drewN | apply keep_drew | apply keep_alloc | refine keep_far ?_ GW676.out _ | refine keep_far ?_ GW677.out _) | exact HK.out))) : w.heap.size ≤ gb687))
   have GE687 := Aside0.mk ((Nat.le_trans HW0.out (by rw [hg]; exact (keep_size (w := w) (g := g) (row := none) (by repeat (first | (with_reducible first | exact HK.out | apply KeepBut.set_ | apply keep_drewN | apply keep_drew | apply keep_alloc | refine keep_far ?_ GW676.out _ | refine keep_far ?_ GW677.out _) | exact HK.out))) : w.heap.size ≤ gb687) : w0.heap.size ≤ gb687))
   replace HK := Aside0.mk (KeepBut.trans (by repeat (first | (with_reducible first | exact HK.out | apply KeepBut.set_ | apply keep_drewN | apply keep_drew | apply keep_alloc | refine keep_far ?_ GW676.out _ | refine keep_far ?_ GW677.out _) | exact HK.out)) (KeepBut.of_below hb g none) (.inl rfl))
   have NB676_687 := Aside0.mk ((by rw [hg]; exact Nat.ne_of_lt (blk_lt (bk BK676)) : gb676 ≠ gb687))
   have NB687_676 := Aside0.mk ((by rw [hg]; exact Nat.ne_of_gt (blk_lt (bk BK676)) : gb687 ≠ gb676))
   replace BK676 := Aside0.mk (blk_below (bk BK676) hb)
   have NB677_687 := Aside0.mk ((by rw [hg]; exact Nat.ne_of_lt (blk_lt (bk BK677)) : gb677 ≠ gb687))
   have NB687_677 := Aside0.mk ((by rw [hg]; exact Nat.ne_of_gt (blk_lt (bk BK677)) : gb687 ≠ gb677))
   replace BK677 := Aside0.mk (blk_below (bk BK677) hb)
   have NB0_687 := Aside0.mk ((by rw [hg]; exact Nat.ne_of_lt (IsS113.lt (show IsS113 w0 _ g s0_0 t681 from by repeat (first | (with_reducible first | exact HI0.out | apply IsS113.alloc | apply IsS113.drewN | apply IsS113.drew | apply IsS113.set_1 | refine IsS113.far ?_ NB0_676.out _ | refine IsS113.far ?_ NB0_677.out _) | exact HI0.out))) : g ≠ gb687))
   have NB687_0 := Aside0.mk ((by rw [hg]; exact Nat.ne_of_gt (IsS113.lt (show IsS113 w0 _ g s0_0 t681 from by repeat (first | (with_reducible first | exact HI0.out | apply IsS113.alloc | apply IsS113.drewN | apply IsS113.drew | apply IsS113.set_1 | refine IsS113.far ?_ NB0_676.out _ | refine IsS113.far ?_ NB0_677.out _) | exact HI0.out))) : gb687 ≠ g))
   replace HI0 := Aside0.mk (IsS113.below (by repeat (first | (with_reducible first | exact HI0.out | apply IsS113.alloc | apply IsS113.drewN | apply IsS113.drew | apply IsS113.set_1 | refine IsS113.far ?_ NB0_676.out _ | refine IsS113.far ?_ NB0_677.out _) | exact HI0.out)) hb)
   clear hb hbox hg
   refine hK.out _ _ ⟨(blk_cell BK676.out 0).trans rfl, (blk_cell BK676.out 1).trans rfl⟩ (fun hHeld => ?_)
   clear hK K
   refine norm_ (a' := ?_) ?_ ?_
   rotate_left
   ·show Act.put _ (some 5) _ = _
    simp only [SX]
    rfl
   exact norm_ (by first | (simp only [putAll, Act.put, List.setIfInBounds_toArray, List.set_cons_zero, List.set_cons_succ]; done) | (simp only [putAll, Act.put, List.setIfInBounds_toArray, List.set_cons_zero, List.set_cons_succ]; rfl)) (hJ1_8_13 (gb687) _ ⟨hHeld, (bk BK676), (bk BK677), (bk BK687), GW687.out, GE687.out, NB0_687.out, NB687_0.out, NB676_687.out, NB687_676.out, NB677_687.out, NB687_677.out, (by repeat (first | (with_reducible first | exact HI0.out | apply IsS113.alloc | apply IsS113.drewN | apply IsS113.drew | apply IsS113.set_1 | refine IsS113.far ?_ NB0_676.out _ | refine IsS113.far ?_ NB0_677.out _ | refine IsS113.far ?_ NB0_687.out _) | exact HI0.out)), (by repeat (first | (with_reducible first | exact HK.out | apply KeepBut.set_ | apply keep_drewN | apply keep_drew | apply keep_alloc | refine keep_far ?_ GW676.out _ | refine keep_far ?_ GW677.out _ | refine keep_far ?_ GW687.out _) | exact HK.out)), (by repeat (first | (with_reducible first | exact HB.out | apply below_alloc | apply pw_below_drewN | apply below_drew1 | refine below_set ?_ (IsS113.ge HI0.out) | refine below_set ?_ GE676.out | refine below_set ?_ GE677.out | refine below_set ?_ GE687.out) | exact HB.out))⟩)
  intro hJ1_8
  refine join_ (σ := Value) 5 (ms 15 1791) (fun s_ => [(7, .int .i64 t678), (16, s_), (8, .int .i64 (wrap64 (1 + t678)))]) (fun s_ w' => (w'.cell? ⟨gb676, 0, none⟩ = some (.int .i64 a1_0) ∧ w'.cell? ⟨gb676, 1, none⟩ = some (.slice A1_1 l1_1.length c1_1)) ∧ (Kd.R (Kd.int .i64) 3 w' w.heap.size (fun _ => True) s_ y682) ∧ (w'.heap[gb676]? = some (.cells #[.int .i64 a1_0, .slice A1_1 l1_1.length c1_1] 25 (0, 0))) ∧ (w'.heap[gb677]? = some (.cells #[.int .i64 0, .int .i64 0, .int .i64 0] 64 (0, 0))) ∧ (IsS113 w0 w' g s0_0 t679) ∧ (KeepBut w w' g none) ∧ (Below w0.heap.size w0 w')) ?_ ?_
  rotate_left
  rotate_left
  ·skip
   rintro v683 w15 ⟨hS_, h0_, h1_, h2_, h3_, h4_, h5_⟩
   have HO684 : Aside0 (Kd.R (Kd.int .i64) 3 w15 w.heap.size (fun _ => True) v683 y682) := ⟨h0_⟩
   replace BK676 : Aside0 (w15.heap[gb676]? = some (.cells #[.int .i64 a1_0, .slice A1_1 l1_1.length c1_1] 25 (0, 0))) := ⟨h1_⟩
   replace BK677 : Aside0 (w15.heap[gb677]? = some (.cells #[.int .i64 0, .int .i64 0, .int .i64 0] 64 (0, 0))) := ⟨h2_⟩
   replace HI0 : Aside0 (IsS113 w0 w15 g s0_0 t679) := ⟨h3_⟩
   replace HK : Aside0 (KeepBut w w15 g none) := ⟨h4_⟩
   replace HB : Aside0 (Below w0.heap.size w0 w15) := ⟨h5_⟩
   clear h0_ h1_ h2_ h3_ h4_ h5_
   have hHeld : w15.cell? ⟨gb676, 0, none⟩ = some (.int .i64 a1_0) ∧ w15.cell? ⟨gb676, 1, none⟩ = some (.slice A1_1 l1_1.length c1_1) := hS_
   refine norm_ (a' := ?_) ?_ ?_
   rotate_left
   ·simp only [putAll, Act.put, List.setIfInBounds_toArray, List.set_cons_zero, List.set_cons_succ]
    rfl
   refine two_ (i := 8) (j := 13) (Ni := some 14) (Nj := some 5) (ms 15 2047) (ms 15 9983) rfl rfl rfl rfl (two_of HT_.out (by kernel_rfl)) (by decide) (by decide) (fun K hK => ?_) (fun K hK => ?_)
   ·skip
    refine goes_ Try.func59 (by kernel_rfl) rfl #[.pointer (some ⟨g, 0, none⟩), .int .i64 (wrap64 ((l1_1.length : Int) + 1))] (by rfl) rfl rfl (by (try simp only [List.map_toArray, List.map_cons, List.map_nil]); first | done | rfl | (simp only [List.length_drop, List.length_take]; rfl)) ?_
    with_reducible refine (spec_l30Rd_pick.calls k g s0_0 t679 (wrap64 ((l1_1.length : Int) + 1)) t680 t681 w0 _ ?side1 ?side2 A4.out).mono ?_
    (case side1 => repeat (first | (with_reducible first | exact HI0.out | apply IsS113.alloc | apply IsS113.drewN | apply IsS113.drew | apply IsS113.set_1 | refine IsS113.far ?_ NB0_676.out _ | refine IsS113.far ?_ NB0_677.out _) | exact HI0.out))
    (case side2 => repeat (first | (with_reducible first | exact HB.out | apply below_alloc | apply pw_below_drewN | apply below_drew1 | refine below_set ?_ (IsS113.ge HI0.out) | refine below_set ?_ GE676.out | refine below_set ?_ GE677.out) | exact HB.out))
    rintro e w16 ⟨rfl, hi, hb, hk⟩
    refine ⟨_, rfl, ?_⟩
    replace BK676 := Aside0.mk (KeepBut.blk hk (g' := gb676) (o := .cells #[.int .i64 a1_0, .slice A1_1 l1_1.length c1_1] 25 (0, 0)) (bk BK676) NB676_0.out (by simp))
    replace BK677 := Aside0.mk (KeepBut.blk hk (g' := gb677) (o := .cells #[.int .i64 0, .int .i64 0, .int .i64 0] 64 (0, 0)) (bk BK677) NB677_0.out (by simp))
    replace HO684 := Aside0.mk (Kd.R_mono (Kd.R_keep (IsS113.apart (show IsS113 w0 _ g s0_0 t679 from by repeat (first | (with_reducible first | exact HI0.out | apply IsS113.alloc | apply IsS113.drewN | apply IsS113.drew | apply IsS113.set_1 | refine IsS113.far ?_ NB0_676.out _ | refine IsS113.far ?_ NB0_677.out _) | exact HI0.out)) (rk HO684) (by decide)) hk (fun _ h => h.2)) (fun _ h => h.1))
    replace HK := Aside0.mk (KeepBut.trans (by repeat (first | (with_reducible first | exact HK.out | apply KeepBut.set_ | apply keep_drewN | apply keep_drew | apply keep_alloc | refine keep_far ?_ GW676.out _ | refine keep_far ?_ GW677.out _) | exact HK.out)) hk (.inl rfl))
    replace HB := Aside0.mk (hb)
    replace HI0 := Aside0.mk (hi)
    (try clear hb)
    (try clear hb2)
    (try clear hk)
    (try clear hi)
    refine hK.out _ _ ⟨(blk_cell BK676.out 0).trans rfl, (blk_cell BK676.out 1).trans rfl⟩ (fun hHeld => ?_)
    clear hK K
    refine norm_ (a' := ?_) ?_ ?_
    rotate_left
    ·show Act.put _ (some 14) _ = _
     simp only [SX]
     rfl
    exact norm_ (by first | (simp only [putAll, Act.put, List.setIfInBounds_toArray, List.set_cons_zero, List.set_cons_succ]; done) | (simp only [putAll, Act.put, List.setIfInBounds_toArray, List.set_cons_zero, List.set_cons_succ]; rfl)) (hJ1_8_10 (v683) _ ⟨hHeld, (rk HO684), (bk BK676), (bk BK677), (by repeat (first | (with_reducible first | exact HI0.out | apply IsS113.alloc | apply IsS113.drewN | apply IsS113.drew | apply IsS113.set_1 | refine IsS113.far ?_ NB0_676.out _ | refine IsS113.far ?_ NB0_677.out _) | exact HI0.out)), (by repeat (first | (with_reducible first | exact HK.out | apply KeepBut.set_ | apply keep_drewN | apply keep_drew | apply keep_alloc | refine keep_far ?_ GW676.out _ | refine keep_far ?_ GW677.out _) | exact HK.out)), (by repeat (first | (with_reducible first | exact HB.out | apply below_alloc | apply pw_below_drewN | apply below_drew1 | refine below_set ?_ (IsS113.ge HI0.out) | refine below_set ?_ GE676.out | refine below_set ?_ GE677.out) | exact HB.out))⟩)
   skip
   refine box_step ?hg (N := 5) ?hd (cs := #[.int .i64 0, .int .i64 0, .int .i64 0]) (t := 64) ?hr ?_; (case hd => rfl); (case hg => rfl); (case hr => first | (go_simp; done) | (go_simp; rfl))
   intro gb687 hg w16 hbox hb
   replace HO684 := Aside0.mk (Kd.R_below (rk HO684) hb)
   replace HB := Aside0.mk (below_step (by repeat (first | (with_reducible first | exact HB.out | apply below_alloc | apply pw_below_drewN | apply below_drew1 | refine below_set ?_ (IsS113.ge HI0.out) | refine below_set ?_ GE676.out | refine below_set ?_ GE677.out) | exact HB.out)) hb)
   have BK687 := Aside0.mk (hbox)
   have GW687 := Aside0.mk ((by rw [hg]; exact (keep_size (w := w) (g := g) (row := none) (by repeat (first | (with_reducible first | exact HK.out | apply KeepBut.set_ | apply keep_drewN | apply keep_drew | apply keep_alloc | refine keep_far ?_ GW676.out _ | refine keep_far ?_ GW677.out _) | exact HK.out))) : w.heap.size ≤ gb687))
   have GE687 := Aside0.mk ((Nat.le_trans HW0.out (by rw [hg]; exact (keep_size (w := w) (g := g) (row := none) (by repeat (first | (with_reducible first | exact HK.out | apply KeepBut.set_ | apply keep_drewN | apply keep_drew | apply keep_alloc | refine keep_far ?_ GW676.out _ | refine keep_far ?_ GW677.out _) | exact HK.out))) : w.heap.size ≤ gb687) : w0.heap.size ≤ gb687))
   replace HK := Aside0.mk (KeepBut.trans (by repeat (first | (with_reducible first | exact HK.out | apply KeepBut.set_ | apply keep_drewN | apply keep_drew | apply keep_alloc | refine keep_far ?_ GW676.out _ | refine keep_far ?_ GW677.out _) | exact HK.out)) (KeepBut.of_below hb g none) (.inl rfl))
   have NB676_687 := Aside0.mk ((by rw [hg]; exact Nat.ne_of_lt (blk_lt (bk BK676)) : gb676 ≠ gb687))
   have NB687_676 := Aside0.mk ((by rw [hg]; exact Nat.ne_of_gt (blk_lt (bk BK676)) : gb687 ≠ gb676))
   replace BK676 := Aside0.mk (blk_below (bk BK676) hb)
   have NB677_687 := Aside0.mk ((by rw [hg]; exact Nat.ne_of_lt (blk_lt (bk BK677)) : gb677 ≠ gb687))
   have NB687_677 := Aside0.mk ((by rw [hg]; exact Nat.ne_of_gt (blk_lt (bk BK677)) : gb687 ≠ gb677))
   replace BK677 := Aside0.mk (blk_below (bk BK677) hb)
   have NB0_687 := Aside0.mk ((by rw [hg]; exact Nat.ne_of_lt (IsS113.lt (show IsS113 w0 _ g s0_0 t679 from by repeat (first | (with_reducible first | exact HI0.out | apply IsS113.alloc | apply IsS113.drewN | apply IsS113.drew | apply IsS113.set_1 | refine IsS113.far ?_ NB0_676.out _ | refine IsS113.far ?_ NB0_677.out _) | exact HI0.out))) : g ≠ gb687))
   have NB687_0 := Aside0.mk ((by rw [hg]; exact Nat.ne_of_gt (IsS113.lt (show IsS113 w0 _ g s0_0 t679 from by repeat (first | (with_reducible first | exact HI0.out | apply IsS113.alloc | apply IsS113.drewN | apply IsS113.drew | apply IsS113.set_1 | refine IsS113.far ?_ NB0_676.out _ | refine IsS113.far ?_ NB0_677.out _) | exact HI0.out))) : gb687 ≠ g))
   replace HI0 := Aside0.mk (IsS113.below (by repeat (first | (with_reducible first | exact HI0.out | apply IsS113.alloc | apply IsS113.drewN | apply IsS113.drew | apply IsS113.set_1 | refine IsS113.far ?_ NB0_676.out _ | refine IsS113.far ?_ NB0_677.out _) | exact HI0.out)) hb)
   clear hb hbox hg
   refine hK.out _ _ ⟨(blk_cell BK676.out 0).trans rfl, (blk_cell BK676.out 1).trans rfl⟩ (fun hHeld => ?_)
   clear hK K
   refine norm_ (a' := ?_) ?_ ?_
   rotate_left
   ·show Act.put _ (some 5) _ = _
    simp only [SX]
    rfl
   exact norm_ (by first | (simp only [putAll, Act.put, List.setIfInBounds_toArray, List.set_cons_zero, List.set_cons_succ]; done) | (simp only [putAll, Act.put, List.setIfInBounds_toArray, List.set_cons_zero, List.set_cons_succ]; rfl)) (hJ1_10_13 (v683, gb687) _ ⟨hHeld, (rk HO684), (bk BK676), (bk BK677), (bk BK687), GW687.out, GE687.out, NB0_687.out, NB687_0.out, NB676_687.out, NB687_676.out, NB677_687.out, NB687_677.out, (by repeat (first | (with_reducible first | exact HI0.out | apply IsS113.alloc | apply IsS113.drewN | apply IsS113.drew | apply IsS113.set_1 | refine IsS113.far ?_ NB0_676.out _ | refine IsS113.far ?_ NB0_677.out _ | refine IsS113.far ?_ NB0_687.out _) | exact HI0.out)), (by repeat (first | (with_reducible first | exact HK.out | apply KeepBut.set_ | apply keep_drewN | apply keep_drew | apply keep_alloc | refine keep_far ?_ GW676.out _ | refine keep_far ?_ GW677.out _ | refine keep_far ?_ GW687.out _) | exact HK.out)), (by repeat (first | (with_reducible first | exact HB.out | apply below_alloc | apply pw_below_drewN | apply below_drew1 | refine below_set ?_ (IsS113.ge HI0.out) | refine below_set ?_ GE676.out | refine below_set ?_ GE677.out | refine below_set ?_ GE687.out) | exact HB.out))⟩)
  intro hJ1_10
  refine join_ (σ := Nat) 5 (ms 15 8959) (fun s_ => [(7, .int .i64 t678), (5, .pointer (some ⟨s_, 0, none⟩)), (8, .int .i64 (wrap64 (1 + t678)))]) (fun s_ w' => (w'.cell? ⟨gb676, 0, none⟩ = some (.int .i64 a1_0) ∧ w'.cell? ⟨gb676, 1, none⟩ = some (.slice A1_1 l1_1.length c1_1)) ∧ (w'.heap[gb676]? = some (.cells #[.int .i64 a1_0, .slice A1_1 l1_1.length c1_1] 25 (0, 0))) ∧ (w'.heap[gb677]? = some (.cells #[.int .i64 0, .int .i64 0, .int .i64 0] 64 (0, 0))) ∧ (w'.heap[s_]? = some (.cells #[.int .i64 0, .int .i64 0, .int .i64 0] 64 (0, 0))) ∧ (w.heap.size ≤ s_) ∧ (w0.heap.size ≤ s_) ∧ (g ≠ s_) ∧ (s_ ≠ g) ∧ (gb676 ≠ s_) ∧ (s_ ≠ gb676) ∧ (gb677 ≠ s_) ∧ (s_ ≠ gb677) ∧ (IsS113 w0 w' g s0_0 t679) ∧ (KeepBut w w' g none) ∧ (Below w0.heap.size w0 w')) ?_ ?_
  rotate_left
  rotate_left
  ·skip
   rintro gb687 w14 ⟨hS_, h0_, h1_, h2_, h3_, h4_, h5_, h6_, h7_, h8_, h9_, h10_, h11_, h12_, h13_⟩
   replace BK676 : Aside0 (w14.heap[gb676]? = some (.cells #[.int .i64 a1_0, .slice A1_1 l1_1.length c1_1] 25 (0, 0))) := ⟨h0_⟩
   replace BK677 : Aside0 (w14.heap[gb677]? = some (.cells #[.int .i64 0, .int .i64 0, .int .i64 0] 64 (0, 0))) := ⟨h1_⟩
   have BK687 : Aside0 (w14.heap[gb687]? = some (.cells #[.int .i64 0, .int .i64 0, .int .i64 0] 64 (0, 0))) := ⟨h2_⟩
   have GW687 : Aside0 (w.heap.size ≤ gb687) := ⟨h3_⟩
   have GE687 : Aside0 (w0.heap.size ≤ gb687) := ⟨h4_⟩
   have NB0_687 : Aside0 (g ≠ gb687) := ⟨h5_⟩
   have NB687_0 : Aside0 (gb687 ≠ g) := ⟨h6_⟩
   have NB676_687 : Aside0 (gb676 ≠ gb687) := ⟨h7_⟩
   have NB687_676 : Aside0 (gb687 ≠ gb676) := ⟨h8_⟩
   have NB677_687 : Aside0 (gb677 ≠ gb687) := ⟨h9_⟩
   have NB687_677 : Aside0 (gb687 ≠ gb677) := ⟨h10_⟩
   replace HI0 : Aside0 (IsS113 w0 w14 g s0_0 t679) := ⟨h11_⟩
   replace HK : Aside0 (KeepBut w w14 g none) := ⟨h12_⟩
   replace HB : Aside0 (Below w0.heap.size w0 w14) := ⟨h13_⟩
   clear h0_ h1_ h2_ h3_ h4_ h5_ h6_ h7_ h8_ h9_ h10_ h11_ h12_ h13_
   have hHeld : w14.cell? ⟨gb676, 0, none⟩ = some (.int .i64 a1_0) ∧ w14.cell? ⟨gb676, 1, none⟩ = some (.slice A1_1 l1_1.length c1_1) := hS_
   refine norm_ (a' := ?_) ?_ ?_
   rotate_left
   ·simp only [putAll, Act.put, List.setIfInBounds_toArray, List.set_cons_zero, List.set_cons_succ]
    rfl
   refine two_ (i := 8) (j := 10) (Ni := some 14) (Nj := some 16) (ms 15 9215) (ms 15 9983) rfl rfl rfl rfl (two_of HT_.out (by kernel_rfl)) (by decide) (by decide) (fun K hK => ?_) (fun K hK => ?_)
   ·skip
    refine goes_ Try.func59 (by kernel_rfl) rfl #[.pointer (some ⟨g, 0, none⟩), .int .i64 (wrap64 ((l1_1.length : Int) + 1))] (by rfl) rfl rfl (by (try simp only [List.map_toArray, List.map_cons, List.map_nil]); first | done | rfl | (simp only [List.length_drop, List.length_take]; rfl)) ?_
    with_reducible refine (spec_l30Rd_pick.calls k g s0_0 t679 (wrap64 ((l1_1.length : Int) + 1)) t680 t681 w0 _ ?side1 ?side2 A4.out).mono ?_
    (case side1 => repeat (first | (with_reducible first | exact HI0.out | apply IsS113.alloc | apply IsS113.drewN | apply IsS113.drew | apply IsS113.set_1 | refine IsS113.far ?_ NB0_676.out _ | refine IsS113.far ?_ NB0_677.out _ | refine IsS113.far ?_ NB0_687.out _) | exact HI0.out))
    (case side2 => repeat (first | (with_reducible first | exact HB.out | apply below_alloc | apply pw_below_drewN | apply below_drew1 | refine below_set ?_ (IsS113.ge HI0.out) | refine below_set ?_ GE676.out | refine below_set ?_ GE677.out | refine below_set ?_ GE687.out) | exact HB.out))
    rintro e w15 ⟨rfl, hi, hb, hk⟩
    refine ⟨_, rfl, ?_⟩
    replace BK676 := Aside0.mk (KeepBut.blk hk (g' := gb676) (o := .cells #[.int .i64 a1_0, .slice A1_1 l1_1.length c1_1] 25 (0, 0)) (bk BK676) NB676_0.out (by simp))
    replace BK677 := Aside0.mk (KeepBut.blk hk (g' := gb677) (o := .cells #[.int .i64 0, .int .i64 0, .int .i64 0] 64 (0, 0)) (bk BK677) NB677_0.out (by simp))
    replace BK687 := Aside0.mk (KeepBut.blk hk (g' := gb687) (o := .cells #[.int .i64 0, .int .i64 0, .int .i64 0] 64 (0, 0)) (bk BK687) NB687_0.out (by simp))
    replace HK := Aside0.mk (KeepBut.trans (by repeat (first | (with_reducible first | exact HK.out | apply KeepBut.set_ | apply keep_drewN | apply keep_drew | apply keep_alloc | refine keep_far ?_ GW676.out _ | refine keep_far ?_ GW677.out _ | refine keep_far ?_ GW687.out _) | exact HK.out)) hk (.inl rfl))
    replace HB := Aside0.mk (hb)
    replace HI0 := Aside0.mk (hi)
    (try clear hb)
    (try clear hb2)
    (try clear hk)
    (try clear hi)
    refine hK.out _ _ ⟨(blk_cell BK676.out 0).trans rfl, (blk_cell BK676.out 1).trans rfl⟩ (fun hHeld => ?_)
    clear hK K
    refine norm_ (a' := ?_) ?_ ?_
    rotate_left
    ·show Act.put _ (some 14) _ = _
     simp only [SX]
     rfl
    exact norm_ (by first | (simp only [putAll, Act.put, List.setIfInBounds_toArray, List.set_cons_zero, List.set_cons_succ]; done) | (simp only [putAll, Act.put, List.setIfInBounds_toArray, List.set_cons_zero, List.set_cons_succ]; rfl)) (hJ1_8_13 (gb687) _ ⟨hHeld, (bk BK676), (bk BK677), (bk BK687), GW687.out, GE687.out, NB0_687.out, NB687_0.out, NB676_687.out, NB687_676.out, NB677_687.out, NB687_677.out, (by repeat (first | (with_reducible first | exact HI0.out | apply IsS113.alloc | apply IsS113.drewN | apply IsS113.drew | apply IsS113.set_1 | refine IsS113.far ?_ NB0_676.out _ | refine IsS113.far ?_ NB0_677.out _ | refine IsS113.far ?_ NB0_687.out _) | exact HI0.out)), (by repeat (first | (with_reducible first | exact HK.out | apply KeepBut.set_ | apply keep_drewN | apply keep_drew | apply keep_alloc | refine keep_far ?_ GW676.out _ | refine keep_far ?_ GW677.out _ | refine keep_far ?_ GW687.out _) | exact HK.out)), (by repeat (first | (with_reducible first | exact HB.out | apply below_alloc | apply pw_below_drewN | apply below_drew1 | refine below_set ?_ (IsS113.ge HI0.out) | refine below_set ?_ GE676.out | refine below_set ?_ GE677.out | refine below_set ?_ GE687.out) | exact HB.out))⟩)
   skip
   refine Kd.R_lit_step (Kd.int .i64) _ 3 ?hg (N := 16) ?hd (xs := ([(-1), 0, 3, 9, 99] : List Int)) (inner := [.int .i64 (-1), .int .i64 0, .int .i64 3, .int .i64 9, .int .i64 99]) (ok := fun _ => True) (okp := fun _ => True) ?hr ?hp (fun _ hk => hk) trivial (Below.refl _ _) (Nat.le_refl _) (by simp) ?_; (case hd => rfl); (case hg => rfl); (case hr => first | (go_simp; done) | (go_simp; rfl)); (case hp => exact (Reps.one (show Kd.M (Kd.int .i64) _ _ _ (-1) [.int .i64 (-1)] from rfl) (Reps.one (show Kd.M (Kd.int .i64) _ _ _ 0 [.int .i64 0] from rfl) (Reps.one (show Kd.M (Kd.int .i64) _ _ _ 3 [.int .i64 3] from rfl) (Reps.one (show Kd.M (Kd.int .i64) _ _ _ 9 [.int .i64 9] from rfl) (Reps.one (show Kd.M (Kd.int .i64) _ _ _ 99 [.int .i64 99] from rfl) (Reps.none _ _)))))))
   intro v683 w15 ho16 hb hg_ hnew_
   clear hg_ hnew_
   (first | rw [← Ny682.out] at ho16 | (simp only [Int.reduceToNat] at ho16; rw [← Ny682.out] at ho16))
   have HO684 := Aside0.mk (Kd.R_lower ho16 (keep_size (w := w) (g := g) (row := none) (by repeat (first | (with_reducible first | exact HK.out | apply KeepBut.set_ | apply keep_drewN | apply keep_drew | apply keep_alloc | refine keep_far ?_ GW676.out _ | refine keep_far ?_ GW677.out _ | refine keep_far ?_ GW687.out _) | exact HK.out))))
   replace BK676 := Aside0.mk (blk_below (bk BK676) hb)
   replace BK677 := Aside0.mk (blk_below (bk BK677) hb)
   replace BK687 := Aside0.mk (blk_below (bk BK687) hb)
   replace HK := Aside0.mk (KeepBut.trans (by repeat (first | (with_reducible first | exact HK.out | apply KeepBut.set_ | apply keep_drewN | apply keep_drew | apply keep_alloc | refine keep_far ?_ GW676.out _ | refine keep_far ?_ GW677.out _ | refine keep_far ?_ GW687.out _) | exact HK.out)) (KeepBut.of_below hb g none) (.inl rfl))
   replace HB := Aside0.mk (below_step (by repeat (first | (with_reducible first | exact HB.out | apply below_alloc | apply pw_below_drewN | apply below_drew1 | refine below_set ?_ (IsS113.ge HI0.out) | refine below_set ?_ GE676.out | refine below_set ?_ GE677.out | refine below_set ?_ GE687.out) | exact HB.out)) hb)
   replace HI0 := Aside0.mk (IsS113.below (by repeat (first | (with_reducible first | exact HI0.out | apply IsS113.alloc | apply IsS113.drewN | apply IsS113.drew | apply IsS113.set_1 | refine IsS113.far ?_ NB0_676.out _ | refine IsS113.far ?_ NB0_677.out _ | refine IsS113.far ?_ NB0_687.out _) | exact HI0.out)) hb)
   clear hb ho16
   refine hK.out _ _ ⟨(blk_cell BK676.out 0).trans rfl, (blk_cell BK676.out 1).trans rfl⟩ (fun hHeld => ?_)
   clear hK K
   refine norm_ (a' := ?_) ?_ ?_
   rotate_left
   ·show Act.put _ (some 16) _ = _
    simp only [SX]
    rfl
   exact norm_ (by first | (simp only [putAll, Act.put, List.setIfInBounds_toArray, List.set_cons_zero, List.set_cons_succ]; done) | (simp only [putAll, Act.put, List.setIfInBounds_toArray, List.set_cons_zero, List.set_cons_succ]; rfl)) (hJ1_10_13 (v683, gb687) _ ⟨hHeld, (rk HO684), (bk BK676), (bk BK677), (bk BK687), GW687.out, GE687.out, NB0_687.out, NB687_0.out, NB676_687.out, NB687_676.out, NB677_687.out, NB687_677.out, (by repeat (first | (with_reducible first | exact HI0.out | apply IsS113.alloc | apply IsS113.drewN | apply IsS113.drew | apply IsS113.set_1 | refine IsS113.far ?_ NB0_676.out _ | refine IsS113.far ?_ NB0_677.out _ | refine IsS113.far ?_ NB0_687.out _) | exact HI0.out)), (by repeat (first | (with_reducible first | exact HK.out | apply KeepBut.set_ | apply keep_drewN | apply keep_drew | apply keep_alloc | refine keep_far ?_ GW676.out _ | refine keep_far ?_ GW677.out _ | refine keep_far ?_ GW687.out _) | exact HK.out)), (by repeat (first | (with_reducible first | exact HB.out | apply below_alloc | apply pw_below_drewN | apply below_drew1 | refine below_set ?_ (IsS113.ge HI0.out) | refine below_set ?_ GE676.out | refine below_set ?_ GE677.out | refine below_set ?_ GE687.out) | exact HB.out))⟩)
  intro hJ1_13
  refine join_ (σ := Value × Nat) 6 (ms 15 9977) (fun s_ => [(16, s_.1), (5, .pointer (some ⟨s_.2, 0, none⟩))]) (fun s_ w' => (w'.cell? ⟨gb676, 0, none⟩ = some (.int .i64 a1_0) ∧ w'.cell? ⟨gb676, 1, none⟩ = some (.slice A1_1 l1_1.length c1_1)) ∧ (Kd.R (Kd.int .i64) 3 w' w.heap.size (fun _ => True) s_.1 y682) ∧ (w'.heap[gb676]? = some (.cells #[.int .i64 a1_0, .slice A1_1 l1_1.length c1_1] 25 (0, 0))) ∧ (w'.heap[gb677]? = some (.cells #[.int .i64 0, .int .i64 0, .int .i64 0] 64 (0, 0))) ∧ (w'.heap[s_.2]? = some (.cells #[.int .i64 0, .int .i64 0, .int .i64 0] 64 (0, 0))) ∧ (w.heap.size ≤ s_.2) ∧ (w0.heap.size ≤ s_.2) ∧ (g ≠ s_.2) ∧ (s_.2 ≠ g) ∧ (gb676 ≠ s_.2) ∧ (s_.2 ≠ gb676) ∧ (gb677 ≠ s_.2) ∧ (s_.2 ≠ gb677) ∧ (IsS113 w0 w' g s0_0 s0_1) ∧ (KeepBut w w' g none) ∧ (Below w0.heap.size w0 w')) ?_ ?_
  rotate_left
  rotate_left
  ·skip
   rintro ⟨v683, gb687⟩ w15 ⟨hS_, h0_, h1_, h2_, h3_, h4_, h5_, h6_, h7_, h8_, h9_, h10_, h11_, h12_, h13_, h14_⟩
   have HO684 : Aside0 (Kd.R (Kd.int .i64) 3 w15 w.heap.size (fun _ => True) v683 y682) := ⟨h0_⟩
   replace BK676 : Aside0 (w15.heap[gb676]? = some (.cells #[.int .i64 a1_0, .slice A1_1 l1_1.length c1_1] 25 (0, 0))) := ⟨h1_⟩
   replace BK677 : Aside0 (w15.heap[gb677]? = some (.cells #[.int .i64 0, .int .i64 0, .int .i64 0] 64 (0, 0))) := ⟨h2_⟩
   have BK687 : Aside0 (w15.heap[gb687]? = some (.cells #[.int .i64 0, .int .i64 0, .int .i64 0] 64 (0, 0))) := ⟨h3_⟩
   have GW687 : Aside0 (w.heap.size ≤ gb687) := ⟨h4_⟩
   have GE687 : Aside0 (w0.heap.size ≤ gb687) := ⟨h5_⟩
   have NB0_687 : Aside0 (g ≠ gb687) := ⟨h6_⟩
   have NB687_0 : Aside0 (gb687 ≠ g) := ⟨h7_⟩
   have NB676_687 : Aside0 (gb676 ≠ gb687) := ⟨h8_⟩
   have NB687_676 : Aside0 (gb687 ≠ gb676) := ⟨h9_⟩
   have NB677_687 : Aside0 (gb677 ≠ gb687) := ⟨h10_⟩
   have NB687_677 : Aside0 (gb687 ≠ gb677) := ⟨h11_⟩
   replace HI0 : Aside0 (IsS113 w0 w15 g s0_0 s0_1) := ⟨h12_⟩
   replace HK : Aside0 (KeepBut w w15 g none) := ⟨h13_⟩
   replace HB : Aside0 (Below w0.heap.size w0 w15) := ⟨h14_⟩
   clear h0_ h1_ h2_ h3_ h4_ h5_ h6_ h7_ h8_ h9_ h10_ h11_ h12_ h13_ h14_
   have hHeld : w15.cell? ⟨gb676, 0, none⟩ = some (.int .i64 a1_0) ∧ w15.cell? ⟨gb676, 1, none⟩ = some (.slice A1_1 l1_1.length c1_1) := hS_
   refine norm_ (a' := ?_) ?_ ?_
   rotate_left
   ·simp only [putAll, Act.put, List.setIfInBounds_toArray, List.set_cons_zero, List.set_cons_succ]
    rfl
   refine one_ (i := 1) (N := some 7) (ms 15 9979) rfl rfl (one_of HT_.out (by kernel_rfl)) (by decide) (fun K hK => ?_)
   refine goes_ Try.func59 (by kernel_rfl) rfl #[.pointer (some ⟨g, 0, none⟩), .int .i64 6] (by rfl) rfl rfl (by (try simp only [List.map_toArray, List.map_cons, List.map_nil]); first | done | rfl | (simp only [List.length_drop, List.length_take]; rfl)) ?_
   with_reducible refine (spec_l30Rd_pick.calls k g s0_0 s0_1 6 t678 t679 w0 _ ?side1 ?side2 A3.out).mono ?_
   (case side1 => repeat (first | (with_reducible first | exact HI0.out | apply IsS113.alloc | apply IsS113.drewN | apply IsS113.drew | apply IsS113.set_1 | refine IsS113.far ?_ NB0_676.out _ | refine IsS113.far ?_ NB0_677.out _ | refine IsS113.far ?_ NB0_687.out _) | exact HI0.out))
   (case side2 => repeat (first | (with_reducible first | exact HB.out | apply below_alloc | apply pw_below_drewN | apply below_drew1 | refine below_set ?_ (IsS113.ge HI0.out) | refine below_set ?_ GE676.out | refine below_set ?_ GE677.out | refine below_set ?_ GE687.out) | exact HB.out))
   rintro e w16 ⟨rfl, hi, hb, hk⟩
   refine ⟨_, rfl, ?_⟩
   replace BK676 := Aside0.mk (KeepBut.blk hk (g' := gb676) (o := .cells #[.int .i64 a1_0, .slice A1_1 l1_1.length c1_1] 25 (0, 0)) (bk BK676) NB676_0.out (by simp))
   replace BK677 := Aside0.mk (KeepBut.blk hk (g' := gb677) (o := .cells #[.int .i64 0, .int .i64 0, .int .i64 0] 64 (0, 0)) (bk BK677) NB677_0.out (by simp))
   replace HO684 := Aside0.mk (Kd.R_mono (Kd.R_keep (IsS113.apart (show IsS113 w0 _ g s0_0 s0_1 from by repeat (first | (with_reducible first | exact HI0.out | apply IsS113.alloc | apply IsS113.drewN | apply IsS113.drew | apply IsS113.set_1 | refine IsS113.far ?_ NB0_676.out _ | refine IsS113.far ?_ NB0_677.out _ | refine IsS113.far ?_ NB0_687.out _) | exact HI0.out)) (rk HO684) (by decide)) hk (fun _ h => h.2)) (fun _ h => h.1))
   replace BK687 := Aside0.mk (KeepBut.blk hk (g' := gb687) (o := .cells #[.int .i64 0, .int .i64 0, .int .i64 0] 64 (0, 0)) (bk BK687) NB687_0.out (by simp))
   replace HK := Aside0.mk (KeepBut.trans (by repeat (first | (with_reducible first | exact HK.out | apply KeepBut.set_ | apply keep_drewN | apply keep_drew | apply keep_alloc | refine keep_far ?_ GW676.out _ | refine keep_far ?_ GW677.out _ | refine keep_far ?_ GW687.out _) | exact HK.out)) hk (.inl rfl))
   replace HB := Aside0.mk (hb)
   replace HI0 := Aside0.mk (hi)
   (try clear hb)
   (try clear hb2)
   (try clear hk)
   (try clear hi)
   refine hK.out _ _ ⟨(blk_cell BK676.out 0).trans rfl, (blk_cell BK676.out 1).trans rfl⟩ (fun hHeld => ?_)
   clear hK K
   refine norm_ (a' := ?_) ?_ ?_
   rotate_left
   ·show Act.put _ (some 7) _ = _
    simp only [SX]
    rfl
   refine pu 2 8 ?_ (ms 15 9983) rfl rfl HT_ (by kernel_rfl) (fun _ _ _ h => h) (by rfl) ?_ ?_ ?_ ?_
   rotate_left
   ·intro w'
    go_simp
    with_reducible rfl
   rotate_left
   ·simp only [SX]
    rfl
   exact norm_ (by first | (simp only [putAll, Act.put, List.setIfInBounds_toArray, List.set_cons_zero, List.set_cons_succ]; done) | (simp only [putAll, Act.put, List.setIfInBounds_toArray, List.set_cons_zero, List.set_cons_succ]; rfl)) (hJ1_10_13 (v683, gb687) _ ⟨hHeld, (rk HO684), (bk BK676), (bk BK677), (bk BK687), GW687.out, GE687.out, NB0_687.out, NB687_0.out, NB676_687.out, NB687_676.out, NB677_687.out, NB687_677.out, (by repeat (first | (with_reducible first | exact HI0.out | apply IsS113.alloc | apply IsS113.drewN | apply IsS113.drew | apply IsS113.set_1 | refine IsS113.far ?_ NB0_676.out _ | refine IsS113.far ?_ NB0_677.out _ | refine IsS113.far ?_ NB0_687.out _) | exact HI0.out)), (by repeat (first | (with_reducible first | exact HK.out | apply KeepBut.set_ | apply keep_drewN | apply keep_drew | apply keep_alloc | refine keep_far ?_ GW676.out _ | refine keep_far ?_ GW677.out _ | refine keep_far ?_ GW687.out _) | exact HK.out)), (by repeat (first | (with_reducible first | exact HB.out | apply below_alloc | apply pw_below_drewN | apply below_drew1 | refine below_set ?_ (IsS113.ge HI0.out) | refine below_set ?_ GE676.out | refine below_set ?_ GE677.out | refine below_set ?_ GE687.out) | exact HB.out))⟩)
  intro hJ10_13
  refine join_ (σ := Unit) 6 (ms 15 767) (fun s_ => [(7, .int .i64 t678), (8, .int .i64 (wrap64 (1 + t678)))]) (fun s_ w' => (w'.cell? ⟨gb676, 0, none⟩ = some (.int .i64 a1_0) ∧ w'.cell? ⟨gb676, 1, none⟩ = some (.slice A1_1 l1_1.length c1_1)) ∧ (w'.heap[gb676]? = some (.cells #[.int .i64 a1_0, .slice A1_1 l1_1.length c1_1] 25 (0, 0))) ∧ (w'.heap[gb677]? = some (.cells #[.int .i64 0, .int .i64 0, .int .i64 0] 64 (0, 0))) ∧ (IsS113 w0 w' g s0_0 t679) ∧ (KeepBut w w' g none) ∧ (Below w0.heap.size w0 w')) ?_ ?_
  rotate_left
  rotate_left
  ·skip
   rintro _ w13 ⟨hS_, h0_, h1_, h2_, h3_, h4_⟩
   replace BK676 : Aside0 (w13.heap[gb676]? = some (.cells #[.int .i64 a1_0, .slice A1_1 l1_1.length c1_1] 25 (0, 0))) := ⟨h0_⟩
   replace BK677 : Aside0 (w13.heap[gb677]? = some (.cells #[.int .i64 0, .int .i64 0, .int .i64 0] 64 (0, 0))) := ⟨h1_⟩
   replace HI0 : Aside0 (IsS113 w0 w13 g s0_0 t679) := ⟨h2_⟩
   replace HK : Aside0 (KeepBut w w13 g none) := ⟨h3_⟩
   replace HB : Aside0 (Below w0.heap.size w0 w13) := ⟨h4_⟩
   clear h0_ h1_ h2_ h3_ h4_
   have hHeld : w13.cell? ⟨gb676, 0, none⟩ = some (.int .i64 a1_0) ∧ w13.cell? ⟨gb676, 1, none⟩ = some (.slice A1_1 l1_1.length c1_1) := hS_
   refine norm_ (a' := ?_) ?_ ?_
   rotate_left
   ·simp only [putAll, Act.put, List.setIfInBounds_toArray, List.set_cons_zero, List.set_cons_succ]
    rfl
   refine three_ (i := 8) (j := 10) (k := 13) (Ni := some 14) (Nj := some 16) (Nk := some 5) (ms 15 1023) (ms 15 1791) (ms 15 8959) rfl rfl rfl rfl rfl rfl (three_of HT_.out (by kernel_rfl)) (by decide) (by decide) (by decide) (fun K hK => ?_) (fun K hK => ?_) (fun K hK => ?_)
   ·skip
    refine goes_ Try.func59 (by kernel_rfl) rfl #[.pointer (some ⟨g, 0, none⟩), .int .i64 (wrap64 ((l1_1.length : Int) + 1))] (by rfl) rfl rfl (by (try simp only [List.map_toArray, List.map_cons, List.map_nil]); first | done | rfl | (simp only [List.length_drop, List.length_take]; rfl)) ?_
    with_reducible refine (spec_l30Rd_pick.calls k g s0_0 t679 (wrap64 ((l1_1.length : Int) + 1)) t680 t681 w0 _ ?side1 ?side2 A4.out).mono ?_
    (case side1 => repeat (first | (with_reducible first | exact HI0.out | apply IsS113.alloc | apply IsS113.drewN | apply IsS113.drew | apply IsS113.set_1 | refine IsS113.far ?_ NB0_676.out _ | refine IsS113.far ?_ NB0_677.out _) | exact HI0.out))
    (case side2 => repeat (first | (with_reducible first | exact HB.out | apply below_alloc | apply pw_below_drewN | apply below_drew1 | refine below_set ?_ (IsS113.ge HI0.out) | refine below_set ?_ GE676.out | refine below_set ?_ GE677.out) | exact HB.out))
    rintro e w14 ⟨rfl, hi, hb, hk⟩
    refine ⟨_, rfl, ?_⟩
    replace BK676 := Aside0.mk (KeepBut.blk hk (g' := gb676) (o := .cells #[.int .i64 a1_0, .slice A1_1 l1_1.length c1_1] 25 (0, 0)) (bk BK676) NB676_0.out (by simp))
    replace BK677 := Aside0.mk (KeepBut.blk hk (g' := gb677) (o := .cells #[.int .i64 0, .int .i64 0, .int .i64 0] 64 (0, 0)) (bk BK677) NB677_0.out (by simp))
    replace HK := Aside0.mk (KeepBut.trans (by repeat (first | (with_reducible first | exact HK.out | apply KeepBut.set_ | apply keep_drewN | apply keep_drew | apply keep_alloc | refine keep_far ?_ GW676.out _ | refine keep_far ?_ GW677.out _) | exact HK.out)) hk (.inl rfl))
    replace HB := Aside0.mk (hb)
    replace HI0 := Aside0.mk (hi)
    (try clear hb)
    (try clear hb2)
    (try clear hk)
    (try clear hi)
    refine hK.out _ _ ⟨(blk_cell BK676.out 0).trans rfl, (blk_cell BK676.out 1).trans rfl⟩ (fun hHeld => ?_)
    clear hK K
    refine norm_ (a' := ?_) ?_ ?_
    rotate_left
    ·show Act.put _ (some 14) _ = _
     simp only [SX]
     rfl
    exact norm_ (by first | (simp only [putAll, Act.put, List.setIfInBounds_toArray, List.set_cons_zero, List.set_cons_succ]; done) | (simp only [putAll, Act.put, List.setIfInBounds_toArray, List.set_cons_zero, List.set_cons_succ]; rfl)) (hJ1_8 () _ ⟨hHeld, (bk BK676), (bk BK677), (by repeat (first | (with_reducible first | exact HI0.out | apply IsS113.alloc | apply IsS113.drewN | apply IsS113.drew | apply IsS113.set_1 | refine IsS113.far ?_ NB0_676.out _ | refine IsS113.far ?_ NB0_677.out _) | exact HI0.out)), (by repeat (first | (with_reducible first | exact HK.out | apply KeepBut.set_ | apply keep_drewN | apply keep_drew | apply keep_alloc | refine keep_far ?_ GW676.out _ | refine keep_far ?_ GW677.out _) | exact HK.out)), (by repeat (first | (with_reducible first | exact HB.out | apply below_alloc | apply pw_below_drewN | apply below_drew1 | refine below_set ?_ (IsS113.ge HI0.out) | refine below_set ?_ GE676.out | refine below_set ?_ GE677.out) | exact HB.out))⟩)
   ·skip
    refine Kd.R_lit_step (Kd.int .i64) _ 3 ?hg (N := 16) ?hd (xs := ([(-1), 0, 3, 9, 99] : List Int)) (inner := [.int .i64 (-1), .int .i64 0, .int .i64 3, .int .i64 9, .int .i64 99]) (ok := fun _ => True) (okp := fun _ => True) ?hr ?hp (fun _ hk => hk) trivial (Below.refl _ _) (Nat.le_refl _) (by simp) ?_; (case hd => rfl); (case hg => rfl); (case hr => first | (go_simp; done) | (go_simp; rfl)); (case hp => exact (Reps.one (show Kd.M (Kd.int .i64) _ _ _ (-1) [.int .i64 (-1)] from rfl) (Reps.one (show Kd.M (Kd.int .i64) _ _ _ 0 [.int .i64 0] from rfl) (Reps.one (show Kd.M (Kd.int .i64) _ _ _ 3 [.int .i64 3] from rfl) (Reps.one (show Kd.M (Kd.int .i64) _ _ _ 9 [.int .i64 9] from rfl) (Reps.one (show Kd.M (Kd.int .i64) _ _ _ 99 [.int .i64 99] from rfl) (Reps.none _ _)))))))
    intro v683 w14 ho15 hb hg_ hnew_
    clear hg_ hnew_
    (first | rw [← Ny682.out] at ho15 | (simp only [Int.reduceToNat] at ho15; rw [← Ny682.out] at ho15))
    have HO684 := Aside0.mk (Kd.R_lower ho15 (keep_size (w := w) (g := g) (row := none) (by repeat (first | (with_reducible first | exact HK.out | apply KeepBut.set_ | apply keep_drewN | apply keep_drew | apply keep_alloc | refine keep_far ?_ GW676.out _ | refine keep_far ?_ GW677.out _) | exact HK.out))))
    replace BK676 := Aside0.mk (blk_below (bk BK676) hb)
    replace BK677 := Aside0.mk (blk_below (bk BK677) hb)
    replace HK := Aside0.mk (KeepBut.trans (by repeat (first | (with_reducible first | exact HK.out | apply KeepBut.set_ | apply keep_drewN | apply keep_drew | apply keep_alloc | refine keep_far ?_ GW676.out _ | refine keep_far ?_ GW677.out _) | exact HK.out)) (KeepBut.of_below hb g none) (.inl rfl))
    replace HB := Aside0.mk (below_step (by repeat (first | (with_reducible first | exact HB.out | apply below_alloc | apply pw_below_drewN | apply below_drew1 | refine below_set ?_ (IsS113.ge HI0.out) | refine below_set ?_ GE676.out | refine below_set ?_ GE677.out) | exact HB.out)) hb)
    replace HI0 := Aside0.mk (IsS113.below (by repeat (first | (with_reducible first | exact HI0.out | apply IsS113.alloc | apply IsS113.drewN | apply IsS113.drew | apply IsS113.set_1 | refine IsS113.far ?_ NB0_676.out _ | refine IsS113.far ?_ NB0_677.out _) | exact HI0.out)) hb)
    clear hb ho15
    refine hK.out _ _ ⟨(blk_cell BK676.out 0).trans rfl, (blk_cell BK676.out 1).trans rfl⟩ (fun hHeld => ?_)
    clear hK K
    refine norm_ (a' := ?_) ?_ ?_
    rotate_left
    ·show Act.put _ (some 16) _ = _
     simp only [SX]
     rfl
    exact norm_ (by first | (simp only [putAll, Act.put, List.setIfInBounds_toArray, List.set_cons_zero, List.set_cons_succ]; done) | (simp only [putAll, Act.put, List.setIfInBounds_toArray, List.set_cons_zero, List.set_cons_succ]; rfl)) (hJ1_10 (v683) _ ⟨hHeld, (rk HO684), (bk BK676), (bk BK677), (by repeat (first | (with_reducible first | exact HI0.out | apply IsS113.alloc | apply IsS113.drewN | apply IsS113.drew | apply IsS113.set_1 | refine IsS113.far ?_ NB0_676.out _ | refine IsS113.far ?_ NB0_677.out _) | exact HI0.out)), (by repeat (first | (with_reducible first | exact HK.out | apply KeepBut.set_ | apply keep_drewN | apply keep_drew | apply keep_alloc | refine keep_far ?_ GW676.out _ | refine keep_far ?_ GW677.out _) | exact HK.out)), (by repeat (first | (with_reducible first | exact HB.out | apply below_alloc | apply pw_below_drewN | apply below_drew1 | refine below_set ?_ (IsS113.ge HI0.out) | refine below_set ?_ GE676.out | refine below_set ?_ GE677.out) | exact HB.out))⟩)
   skip
   refine box_step ?hg (N := 5) ?hd (cs := #[.int .i64 0, .int .i64 0, .int .i64 0]) (t := 64) ?hr ?_; (case hd => rfl); (case hg => rfl); (case hr => first | (go_simp; done) | (go_simp; rfl))
   intro gb687 hg w14 hbox hb
   replace HB := Aside0.mk (below_step (by repeat (first | (with_reducible first | exact HB.out | apply below_alloc | apply pw_below_drewN | apply below_drew1 | refine below_set ?_ (IsS113.ge HI0.out) | refine below_set ?_ GE676.out | refine below_set ?_ GE677.out) | exact HB.out)) hb)
   have BK687 := Aside0.mk (hbox)
   have GW687 := Aside0.mk ((by rw [hg]; exact (keep_size (w := w) (g := g) (row := none) (by repeat (first | (with_reducible first | exact HK.out | apply KeepBut.set_ | apply keep_drewN | apply keep_drew | apply keep_alloc | refine keep_far ?_ GW676.out _ | refine keep_far ?_ GW677.out _) | exact HK.out))) : w.heap.size ≤ gb687))
   have GE687 := Aside0.mk ((Nat.le_trans HW0.out (by rw [hg]; exact (keep_size (w := w) (g := g) (row := none) (by repeat (first | (with_reducible first | exact HK.out | apply KeepBut.set_ | apply keep_drewN | apply keep_drew | apply keep_alloc | refine keep_far ?_ GW676.out _ | refine keep_far ?_ GW677.out _) | exact HK.out))) : w.heap.size ≤ gb687) : w0.heap.size ≤ gb687))
   replace HK := Aside0.mk (KeepBut.trans (by repeat (first | (with_reducible first | exact HK.out | apply KeepBut.set_ | apply keep_drewN | apply keep_drew | apply keep_alloc | refine keep_far ?_ GW676.out _ | refine keep_far ?_ GW677.out _) | exact HK.out)) (KeepBut.of_below hb g none) (.inl rfl))
   have NB676_687 := Aside0.mk ((by rw [hg]; exact Nat.ne_of_lt (blk_lt (bk BK676)) : gb676 ≠ gb687))
   have NB687_676 := Aside0.mk ((by rw [hg]; exact Nat.ne_of_gt (blk_lt (bk BK676)) : gb687 ≠ gb676))
   replace BK676 := Aside0.mk (blk_below (bk BK676) hb)
   have NB677_687 := Aside0.mk ((by rw [hg]; exact Nat.ne_of_lt (blk_lt (bk BK677)) : gb677 ≠ gb687))
   have NB687_677 := Aside0.mk ((by rw [hg]; exact Nat.ne_of_gt (blk_lt (bk BK677)) : gb687 ≠ gb677))
   replace BK677 := Aside0.mk (blk_below (bk BK677) hb)
   have NB0_687 := Aside0.mk ((by rw [hg]; exact Nat.ne_of_lt (IsS113.lt (show IsS113 w0 _ g s0_0 t679 from by repeat (first | (with_reducible first | exact HI0.out | apply IsS113.alloc | apply IsS113.drewN | apply IsS113.drew | apply IsS113.set_1 | refine IsS113.far ?_ NB0_676.out _ | refine IsS113.far ?_ NB0_677.out _) | exact HI0.out))) : g ≠ gb687))
   have NB687_0 := Aside0.mk ((by rw [hg]; exact Nat.ne_of_gt (IsS113.lt (show IsS113 w0 _ g s0_0 t679 from by repeat (first | (with_reducible first | exact HI0.out | apply IsS113.alloc | apply IsS113.drewN | apply IsS113.drew | apply IsS113.set_1 | refine IsS113.far ?_ NB0_676.out _ | refine IsS113.far ?_ NB0_677.out _) | exact HI0.out))) : gb687 ≠ g))
   replace HI0 := Aside0.mk (IsS113.below (by repeat (first | (with_reducible first | exact HI0.out | apply IsS113.alloc | apply IsS113.drewN | apply IsS113.drew | apply IsS113.set_1 | refine IsS113.far ?_ NB0_676.out _ | refine IsS113.far ?_ NB0_677.out _) | exact HI0.out)) hb)
   clear hb hbox hg
   refine hK.out _ _ ⟨(blk_cell BK676.out 0).trans rfl, (blk_cell BK676.out 1).trans rfl⟩ (fun hHeld => ?_)
   clear hK K
   refine norm_ (a' := ?_) ?_ ?_
   rotate_left
   ·show Act.put _ (some 5) _ = _
    simp only [SX]
    rfl
   exact norm_ (by first | (simp only [putAll, Act.put, List.setIfInBounds_toArray, List.set_cons_zero, List.set_cons_succ]; done) | (simp only [putAll, Act.put, List.setIfInBounds_toArray, List.set_cons_zero, List.set_cons_succ]; rfl)) (hJ1_13 (gb687) _ ⟨hHeld, (bk BK676), (bk BK677), (bk BK687), GW687.out, GE687.out, NB0_687.out, NB687_0.out, NB676_687.out, NB687_676.out, NB677_687.out, NB687_677.out, (by repeat (first | (with_reducible first | exact HI0.out | apply IsS113.alloc | apply IsS113.drewN | apply IsS113.drew | apply IsS113.set_1 | refine IsS113.far ?_ NB0_676.out _ | refine IsS113.far ?_ NB0_677.out _ | refine IsS113.far ?_ NB0_687.out _) | exact HI0.out)), (by repeat (first | (with_reducible first | exact HK.out | apply KeepBut.set_ | apply keep_drewN | apply keep_drew | apply keep_alloc | refine keep_far ?_ GW676.out _ | refine keep_far ?_ GW677.out _ | refine keep_far ?_ GW687.out _) | exact HK.out)), (by repeat (first | (with_reducible first | exact HB.out | apply below_alloc | apply pw_below_drewN | apply below_drew1 | refine below_set ?_ (IsS113.ge HI0.out) | refine below_set ?_ GE676.out | refine below_set ?_ GE677.out | refine below_set ?_ GE687.out) | exact HB.out))⟩)
  intro hJ1
  refine join_ (σ := Value) 7 (ms 15 1785) (fun s_ => [(16, s_)]) (fun s_ w' => (w'.cell? ⟨gb676, 0, none⟩ = some (.int .i64 a1_0) ∧ w'.cell? ⟨gb676, 1, none⟩ = some (.slice A1_1 l1_1.length c1_1)) ∧ (Kd.R (Kd.int .i64) 3 w' w.heap.size (fun _ => True) s_ y682) ∧ (w'.heap[gb676]? = some (.cells #[.int .i64 a1_0, .slice A1_1 l1_1.length c1_1] 25 (0, 0))) ∧ (w'.heap[gb677]? = some (.cells #[.int .i64 0, .int .i64 0, .int .i64 0] 64 (0, 0))) ∧ (IsS113 w0 w' g s0_0 s0_1) ∧ (KeepBut w w' g none) ∧ (Below w0.heap.size w0 w')) ?_ ?_
  rotate_left
  rotate_left
  ·skip
   rintro v683 w14 ⟨hS_, h0_, h1_, h2_, h3_, h4_, h5_⟩
   have HO684 : Aside0 (Kd.R (Kd.int .i64) 3 w14 w.heap.size (fun _ => True) v683 y682) := ⟨h0_⟩
   replace BK676 : Aside0 (w14.heap[gb676]? = some (.cells #[.int .i64 a1_0, .slice A1_1 l1_1.length c1_1] 25 (0, 0))) := ⟨h1_⟩
   replace BK677 : Aside0 (w14.heap[gb677]? = some (.cells #[.int .i64 0, .int .i64 0, .int .i64 0] 64 (0, 0))) := ⟨h2_⟩
   replace HI0 : Aside0 (IsS113 w0 w14 g s0_0 s0_1) := ⟨h3_⟩
   replace HK : Aside0 (KeepBut w w14 g none) := ⟨h4_⟩
   replace HB : Aside0 (Below w0.heap.size w0 w14) := ⟨h5_⟩
   clear h0_ h1_ h2_ h3_ h4_ h5_
   have hHeld : w14.cell? ⟨gb676, 0, none⟩ = some (.int .i64 a1_0) ∧ w14.cell? ⟨gb676, 1, none⟩ = some (.slice A1_1 l1_1.length c1_1) := hS_
   refine norm_ (a' := ?_) ?_ ?_
   rotate_left
   ·simp only [putAll, Act.put, List.setIfInBounds_toArray, List.set_cons_zero, List.set_cons_succ]
    rfl
   refine two_ (i := 1) (j := 13) (Ni := some 7) (Nj := some 5) (ms 15 1787) (ms 15 9977) rfl rfl rfl rfl (two_of HT_.out (by kernel_rfl)) (by decide) (by decide) (fun K hK => ?_) (fun K hK => ?_)
   ·skip
    refine goes_ Try.func59 (by kernel_rfl) rfl #[.pointer (some ⟨g, 0, none⟩), .int .i64 6] (by rfl) rfl rfl (by (try simp only [List.map_toArray, List.map_cons, List.map_nil]); first | done | rfl | (simp only [List.length_drop, List.length_take]; rfl)) ?_
    with_reducible refine (spec_l30Rd_pick.calls k g s0_0 s0_1 6 t678 t679 w0 _ ?side1 ?side2 A3.out).mono ?_
    (case side1 => repeat (first | (with_reducible first | exact HI0.out | apply IsS113.alloc | apply IsS113.drewN | apply IsS113.drew | apply IsS113.set_1 | refine IsS113.far ?_ NB0_676.out _ | refine IsS113.far ?_ NB0_677.out _) | exact HI0.out))
    (case side2 => repeat (first | (with_reducible first | exact HB.out | apply below_alloc | apply pw_below_drewN | apply below_drew1 | refine below_set ?_ (IsS113.ge HI0.out) | refine below_set ?_ GE676.out | refine below_set ?_ GE677.out) | exact HB.out))
    rintro e w15 ⟨rfl, hi, hb, hk⟩
    refine ⟨_, rfl, ?_⟩
    replace BK676 := Aside0.mk (KeepBut.blk hk (g' := gb676) (o := .cells #[.int .i64 a1_0, .slice A1_1 l1_1.length c1_1] 25 (0, 0)) (bk BK676) NB676_0.out (by simp))
    replace BK677 := Aside0.mk (KeepBut.blk hk (g' := gb677) (o := .cells #[.int .i64 0, .int .i64 0, .int .i64 0] 64 (0, 0)) (bk BK677) NB677_0.out (by simp))
    replace HO684 := Aside0.mk (Kd.R_mono (Kd.R_keep (IsS113.apart (show IsS113 w0 _ g s0_0 s0_1 from by repeat (first | (with_reducible first | exact HI0.out | apply IsS113.alloc | apply IsS113.drewN | apply IsS113.drew | apply IsS113.set_1 | refine IsS113.far ?_ NB0_676.out _ | refine IsS113.far ?_ NB0_677.out _) | exact HI0.out)) (rk HO684) (by decide)) hk (fun _ h => h.2)) (fun _ h => h.1))
    replace HK := Aside0.mk (KeepBut.trans (by repeat (first | (with_reducible first | exact HK.out | apply KeepBut.set_ | apply keep_drewN | apply keep_drew | apply keep_alloc | refine keep_far ?_ GW676.out _ | refine keep_far ?_ GW677.out _) | exact HK.out)) hk (.inl rfl))
    replace HB := Aside0.mk (hb)
    replace HI0 := Aside0.mk (hi)
    (try clear hb)
    (try clear hb2)
    (try clear hk)
    (try clear hi)
    refine hK.out _ _ ⟨(blk_cell BK676.out 0).trans rfl, (blk_cell BK676.out 1).trans rfl⟩ (fun hHeld => ?_)
    clear hK K
    refine norm_ (a' := ?_) ?_ ?_
    rotate_left
    ·show Act.put _ (some 7) _ = _
     simp only [SX]
     rfl
    refine pu 2 8 ?_ (ms 15 1791) rfl rfl HT_ (by kernel_rfl) (fun _ _ _ h => h) (by rfl) ?_ ?_ ?_ ?_
    rotate_left
    ·intro w'
     go_simp
     with_reducible rfl
    rotate_left
    ·simp only [SX]
     rfl
    exact norm_ (by first | (simp only [putAll, Act.put, List.setIfInBounds_toArray, List.set_cons_zero, List.set_cons_succ]; done) | (simp only [putAll, Act.put, List.setIfInBounds_toArray, List.set_cons_zero, List.set_cons_succ]; rfl)) (hJ1_10 (v683) _ ⟨hHeld, (rk HO684), (bk BK676), (bk BK677), (by repeat (first | (with_reducible first | exact HI0.out | apply IsS113.alloc | apply IsS113.drewN | apply IsS113.drew | apply IsS113.set_1 | refine IsS113.far ?_ NB0_676.out _ | refine IsS113.far ?_ NB0_677.out _) | exact HI0.out)), (by repeat (first | (with_reducible first | exact HK.out | apply KeepBut.set_ | apply keep_drewN | apply keep_drew | apply keep_alloc | refine keep_far ?_ GW676.out _ | refine keep_far ?_ GW677.out _) | exact HK.out)), (by repeat (first | (with_reducible first | exact HB.out | apply below_alloc | apply pw_below_drewN | apply below_drew1 | refine below_set ?_ (IsS113.ge HI0.out) | refine below_set ?_ GE676.out | refine below_set ?_ GE677.out) | exact HB.out))⟩)
   skip
   refine box_step ?hg (N := 5) ?hd (cs := #[.int .i64 0, .int .i64 0, .int .i64 0]) (t := 64) ?hr ?_; (case hd => rfl); (case hg => rfl); (case hr => first | (go_simp; done) | (go_simp; rfl))
   intro gb687 hg w15 hbox hb
   replace HO684 := Aside0.mk (Kd.R_below (rk HO684) hb)
   replace HB := Aside0.mk (below_step (by repeat (first | (with_reducible first | exact HB.out | apply below_alloc | apply pw_below_drewN | apply below_drew1 | refine below_set ?_ (IsS113.ge HI0.out) | refine below_set ?_ GE676.out | refine below_set ?_ GE677.out) | exact HB.out)) hb)
   have BK687 := Aside0.mk (hbox)
   have GW687 := Aside0.mk ((by rw [hg]; exact (keep_size (w := w) (g := g) (row := none) (by repeat (first | (with_reducible first | exact HK.out | apply KeepBut.set_ | apply keep_drewN | apply keep_drew | apply keep_alloc | refine keep_far ?_ GW676.out _ | refine keep_far ?_ GW677.out _) | exact HK.out))) : w.heap.size ≤ gb687))
   have GE687 := Aside0.mk ((Nat.le_trans HW0.out (by rw [hg]; exact (keep_size (w := w) (g := g) (row := none) (by repeat (first | (with_reducible first | exact HK.out | apply KeepBut.set_ | apply keep_drewN | apply keep_drew | apply keep_alloc | refine keep_far ?_ GW676.out _ | refine keep_far ?_ GW677.out _) | exact HK.out))) : w.heap.size ≤ gb687) : w0.heap.size ≤ gb687))
   replace HK := Aside0.mk (KeepBut.trans (by repeat (first | (with_reducible first | exact HK.out | apply KeepBut.set_ | apply keep_drewN | apply keep_drew | apply keep_alloc | refine keep_far ?_ GW676.out _ | refine keep_far ?_ GW677.out _) | exact HK.out)) (KeepBut.of_below hb g none) (.inl rfl))
   have NB676_687 := Aside0.mk ((by rw [hg]; exact Nat.ne_of_lt (blk_lt (bk BK676)) : gb676 ≠ gb687))
   have NB687_676 := Aside0.mk ((by rw [hg]; exact Nat.ne_of_gt (blk_lt (bk BK676)) : gb687 ≠ gb676))
   replace BK676 := Aside0.mk (blk_below (bk BK676) hb)
   have NB677_687 := Aside0.mk ((by rw [hg]; exact Nat.ne_of_lt (blk_lt (bk BK677)) : gb677 ≠ gb687))
   have NB687_677 := Aside0.mk ((by rw [hg]; exact Nat.ne_of_gt (blk_lt (bk BK677)) : gb687 ≠ gb677))
   replace BK677 := Aside0.mk (blk_below (bk BK677) hb)
   have NB0_687 := Aside0.mk ((by rw [hg]; exact Nat.ne_of_lt (IsS113.lt (show IsS113 w0 _ g s0_0 s0_1 from by repeat (first | (with_reducible first | exact HI0.out | apply IsS113.alloc | apply IsS113.drewN | apply IsS113.drew | apply IsS113.set_1 | refine IsS113.far ?_ NB0_676.out _ | refine IsS113.far ?_ NB0_677.out _) | exact HI0.out))) : g ≠ gb687))
   have NB687_0 := Aside0.mk ((by rw [hg]; exact Nat.ne_of_gt (IsS113.lt (show IsS113 w0 _ g s0_0 s0_1 from by repeat (first | (with_reducible first | exact HI0.out | apply IsS113.alloc | apply IsS113.drewN | apply IsS113.drew | apply IsS113.set_1 | refine IsS113.far ?_ NB0_676.out _ | refine IsS113.far ?_ NB0_677.out _) | exact HI0.out))) : gb687 ≠ g))
   replace HI0 := Aside0.mk (IsS113.below (by repeat (first | (with_reducible first | exact HI0.out | apply IsS113.alloc | apply IsS113.drewN | apply IsS113.drew | apply IsS113.set_1 | refine IsS113.far ?_ NB0_676.out _ | refine IsS113.far ?_ NB0_677.out _) | exact HI0.out)) hb)
   clear hb hbox hg
   refine hK.out _ _ ⟨(blk_cell BK676.out 0).trans rfl, (blk_cell BK676.out 1).trans rfl⟩ (fun hHeld => ?_)
   clear hK K
   refine norm_ (a' := ?_) ?_ ?_
   rotate_left
   ·show Act.put _ (some 5) _ = _
    simp only [SX]
    rfl
   exact norm_ (by first | (simp only [putAll, Act.put, List.setIfInBounds_toArray, List.set_cons_zero, List.set_cons_succ]; done) | (simp only [putAll, Act.put, List.setIfInBounds_toArray, List.set_cons_zero, List.set_cons_succ]; rfl)) (hJ10_13 (v683, gb687) _ ⟨hHeld, (rk HO684), (bk BK676), (bk BK677), (bk BK687), GW687.out, GE687.out, NB0_687.out, NB687_0.out, NB676_687.out, NB687_676.out, NB677_687.out, NB687_677.out, (by repeat (first | (with_reducible first | exact HI0.out | apply IsS113.alloc | apply IsS113.drewN | apply IsS113.drew | apply IsS113.set_1 | refine IsS113.far ?_ NB0_676.out _ | refine IsS113.far ?_ NB0_677.out _ | refine IsS113.far ?_ NB0_687.out _) | exact HI0.out)), (by repeat (first | (with_reducible first | exact HK.out | apply KeepBut.set_ | apply keep_drewN | apply keep_drew | apply keep_alloc | refine keep_far ?_ GW676.out _ | refine keep_far ?_ GW677.out _ | refine keep_far ?_ GW687.out _) | exact HK.out)), (by repeat (first | (with_reducible first | exact HB.out | apply below_alloc | apply pw_below_drewN | apply below_drew1 | refine below_set ?_ (IsS113.ge HI0.out) | refine below_set ?_ GE676.out | refine below_set ?_ GE677.out | refine below_set ?_ GE687.out) | exact HB.out))⟩)
  intro hJ10
  refine join_ (σ := Nat) 7 (ms 15 8953) (fun s_ => [(5, .pointer (some ⟨s_, 0, none⟩))]) (fun s_ w' => (w'.cell? ⟨gb676, 0, none⟩ = some (.int .i64 a1_0) ∧ w'.cell? ⟨gb676, 1, none⟩ = some (.slice A1_1 l1_1.length c1_1)) ∧ (w'.heap[gb676]? = some (.cells #[.int .i64 a1_0, .slice A1_1 l1_1.length c1_1] 25 (0, 0))) ∧ (w'.heap[gb677]? = some (.cells #[.int .i64 0, .int .i64 0, .int .i64 0] 64 (0, 0))) ∧ (w'.heap[s_]? = some (.cells #[.int .i64 0, .int .i64 0, .int .i64 0] 64 (0, 0))) ∧ (w.heap.size ≤ s_) ∧ (w0.heap.size ≤ s_) ∧ (g ≠ s_) ∧ (s_ ≠ g) ∧ (gb676 ≠ s_) ∧ (s_ ≠ gb676) ∧ (gb677 ≠ s_) ∧ (s_ ≠ gb677) ∧ (IsS113 w0 w' g s0_0 s0_1) ∧ (KeepBut w w' g none) ∧ (Below w0.heap.size w0 w')) ?_ ?_
  rotate_left
  rotate_left
  ·skip
   rintro gb687 w13 ⟨hS_, h0_, h1_, h2_, h3_, h4_, h5_, h6_, h7_, h8_, h9_, h10_, h11_, h12_, h13_⟩
   replace BK676 : Aside0 (w13.heap[gb676]? = some (.cells #[.int .i64 a1_0, .slice A1_1 l1_1.length c1_1] 25 (0, 0))) := ⟨h0_⟩
   replace BK677 : Aside0 (w13.heap[gb677]? = some (.cells #[.int .i64 0, .int .i64 0, .int .i64 0] 64 (0, 0))) := ⟨h1_⟩
   have BK687 : Aside0 (w13.heap[gb687]? = some (.cells #[.int .i64 0, .int .i64 0, .int .i64 0] 64 (0, 0))) := ⟨h2_⟩
   have GW687 : Aside0 (w.heap.size ≤ gb687) := ⟨h3_⟩
   have GE687 : Aside0 (w0.heap.size ≤ gb687) := ⟨h4_⟩
   have NB0_687 : Aside0 (g ≠ gb687) := ⟨h5_⟩
   have NB687_0 : Aside0 (gb687 ≠ g) := ⟨h6_⟩
   have NB676_687 : Aside0 (gb676 ≠ gb687) := ⟨h7_⟩
   have NB687_676 : Aside0 (gb687 ≠ gb676) := ⟨h8_⟩
   have NB677_687 : Aside0 (gb677 ≠ gb687) := ⟨h9_⟩
   have NB687_677 : Aside0 (gb687 ≠ gb677) := ⟨h10_⟩
   replace HI0 : Aside0 (IsS113 w0 w13 g s0_0 s0_1) := ⟨h11_⟩
   replace HK : Aside0 (KeepBut w w13 g none) := ⟨h12_⟩
   replace HB : Aside0 (Below w0.heap.size w0 w13) := ⟨h13_⟩
   clear h0_ h1_ h2_ h3_ h4_ h5_ h6_ h7_ h8_ h9_ h10_ h11_ h12_ h13_
   have hHeld : w13.cell? ⟨gb676, 0, none⟩ = some (.int .i64 a1_0) ∧ w13.cell? ⟨gb676, 1, none⟩ = some (.slice A1_1 l1_1.length c1_1) := hS_
   refine norm_ (a' := ?_) ?_ ?_
   rotate_left
   ·simp only [putAll, Act.put, List.setIfInBounds_toArray, List.set_cons_zero, List.set_cons_succ]
    rfl
   refine two_ (i := 1) (j := 10) (Ni := some 7) (Nj := some 16) (ms 15 8955) (ms 15 9977) rfl rfl rfl rfl (two_of HT_.out (by kernel_rfl)) (by decide) (by decide) (fun K hK => ?_) (fun K hK => ?_)
   ·skip
    refine goes_ Try.func59 (by kernel_rfl) rfl #[.pointer (some ⟨g, 0, none⟩), .int .i64 6] (by rfl) rfl rfl (by (try simp only [List.map_toArray, List.map_cons, List.map_nil]); first | done | rfl | (simp only [List.length_drop, List.length_take]; rfl)) ?_
    with_reducible refine (spec_l30Rd_pick.calls k g s0_0 s0_1 6 t678 t679 w0 _ ?side1 ?side2 A3.out).mono ?_
    (case side1 => repeat (first | (with_reducible first | exact HI0.out | apply IsS113.alloc | apply IsS113.drewN | apply IsS113.drew | apply IsS113.set_1 | refine IsS113.far ?_ NB0_676.out _ | refine IsS113.far ?_ NB0_677.out _ | refine IsS113.far ?_ NB0_687.out _) | exact HI0.out))
    (case side2 => repeat (first | (with_reducible first | exact HB.out | apply below_alloc | apply pw_below_drewN | apply below_drew1 | refine below_set ?_ (IsS113.ge HI0.out) | refine below_set ?_ GE676.out | refine below_set ?_ GE677.out | refine below_set ?_ GE687.out) | exact HB.out))
    rintro e w14 ⟨rfl, hi, hb, hk⟩
    refine ⟨_, rfl, ?_⟩
    replace BK676 := Aside0.mk (KeepBut.blk hk (g' := gb676) (o := .cells #[.int .i64 a1_0, .slice A1_1 l1_1.length c1_1] 25 (0, 0)) (bk BK676) NB676_0.out (by simp))
    replace BK677 := Aside0.mk (KeepBut.blk hk (g' := gb677) (o := .cells #[.int .i64 0, .int .i64 0, .int .i64 0] 64 (0, 0)) (bk BK677) NB677_0.out (by simp))
    replace BK687 := Aside0.mk (KeepBut.blk hk (g' := gb687) (o := .cells #[.int .i64 0, .int .i64 0, .int .i64 0] 64 (0, 0)) (bk BK687) NB687_0.out (by simp))
    replace HK := Aside0.mk (KeepBut.trans (by repeat (first | (with_reducible first | exact HK.out | apply KeepBut.set_ | apply keep_drewN | apply keep_drew | apply keep_alloc | refine keep_far ?_ GW676.out _ | refine keep_far ?_ GW677.out _ | refine keep_far ?_ GW687.out _) | exact HK.out)) hk (.inl rfl))
    replace HB := Aside0.mk (hb)
    replace HI0 := Aside0.mk (hi)
    (try clear hb)
    (try clear hb2)
    (try clear hk)
    (try clear hi)
    refine hK.out _ _ ⟨(blk_cell BK676.out 0).trans rfl, (blk_cell BK676.out 1).trans rfl⟩ (fun hHeld => ?_)
    clear hK K
    refine norm_ (a' := ?_) ?_ ?_
    rotate_left
    ·show Act.put _ (some 7) _ = _
     simp only [SX]
     rfl
    refine pu 2 8 ?_ (ms 15 8959) rfl rfl HT_ (by kernel_rfl) (fun _ _ _ h => h) (by rfl) ?_ ?_ ?_ ?_
    rotate_left
    ·intro w'
     go_simp
     with_reducible rfl
    rotate_left
    ·simp only [SX]
     rfl
    exact norm_ (by first | (simp only [putAll, Act.put, List.setIfInBounds_toArray, List.set_cons_zero, List.set_cons_succ]; done) | (simp only [putAll, Act.put, List.setIfInBounds_toArray, List.set_cons_zero, List.set_cons_succ]; rfl)) (hJ1_13 (gb687) _ ⟨hHeld, (bk BK676), (bk BK677), (bk BK687), GW687.out, GE687.out, NB0_687.out, NB687_0.out, NB676_687.out, NB687_676.out, NB677_687.out, NB687_677.out, (by repeat (first | (with_reducible first | exact HI0.out | apply IsS113.alloc | apply IsS113.drewN | apply IsS113.drew | apply IsS113.set_1 | refine IsS113.far ?_ NB0_676.out _ | refine IsS113.far ?_ NB0_677.out _ | refine IsS113.far ?_ NB0_687.out _) | exact HI0.out)), (by repeat (first | (with_reducible first | exact HK.out | apply KeepBut.set_ | apply keep_drewN | apply keep_drew | apply keep_alloc | refine keep_far ?_ GW676.out _ | refine keep_far ?_ GW677.out _ | refine keep_far ?_ GW687.out _) | exact HK.out)), (by repeat (first | (with_reducible first | exact HB.out | apply below_alloc | apply pw_below_drewN | apply below_drew1 | refine below_set ?_ (IsS113.ge HI0.out) | refine below_set ?_ GE676.out | refine below_set ?_ GE677.out | refine below_set ?_ GE687.out) | exact HB.out))⟩)
   skip
   refine Kd.R_lit_step (Kd.int .i64) _ 3 ?hg (N := 16) ?hd (xs := ([(-1), 0, 3, 9, 99] : List Int)) (inner := [.int .i64 (-1), .int .i64 0, .int .i64 3, .int .i64 9, .int .i64 99]) (ok := fun _ => True) (okp := fun _ => True) ?hr ?hp (fun _ hk => hk) trivial (Below.refl _ _) (Nat.le_refl _) (by simp) ?_; (case hd => rfl); (case hg => rfl); (case hr => first | (go_simp; done) | (go_simp; rfl)); (case hp => exact (Reps.one (show Kd.M (Kd.int .i64) _ _ _ (-1) [.int .i64 (-1)] from rfl) (Reps.one (show Kd.M (Kd.int .i64) _ _ _ 0 [.int .i64 0] from rfl) (Reps.one (show Kd.M (Kd.int .i64) _ _ _ 3 [.int .i64 3] from rfl) (Reps.one (show Kd.M (Kd.int .i64) _ _ _ 9 [.int .i64 9] from rfl) (Reps.one (show Kd.M (Kd.int .i64) _ _ _ 99 [.int .i64 99] from rfl) (Reps.none _ _)))))))
   intro v683 w14 ho15 hb hg_ hnew_
   clear hg_ hnew_
   (first | rw [← Ny682.out] at ho15 | (simp only [Int.reduceToNat] at ho15; rw [← Ny682.out] at ho15))
   have HO684 := Aside0.mk (Kd.R_lower ho15 (keep_size (w := w) (g := g) (row := none) (by repeat (first | (with_reducible first | exact HK.out | apply KeepBut.set_ | apply keep_drewN | apply keep_drew | apply keep_alloc | refine keep_far ?_ GW676.out _ | refine keep_far ?_ GW677.out _ | refine keep_far ?_ GW687.out _) | exact HK.out))))
   replace BK676 := Aside0.mk (blk_below (bk BK676) hb)
   replace BK677 := Aside0.mk (blk_below (bk BK677) hb)
   replace BK687 := Aside0.mk (blk_below (bk BK687) hb)
   replace HK := Aside0.mk (KeepBut.trans (by repeat (first | (with_reducible first | exact HK.out | apply KeepBut.set_ | apply keep_drewN | apply keep_drew | apply keep_alloc | refine keep_far ?_ GW676.out _ | refine keep_far ?_ GW677.out _ | refine keep_far ?_ GW687.out _) | exact HK.out)) (KeepBut.of_below hb g none) (.inl rfl))
   replace HB := Aside0.mk (below_step (by repeat (first | (with_reducible first | exact HB.out | apply below_alloc | apply pw_below_drewN | apply below_drew1 | refine below_set ?_ (IsS113.ge HI0.out) | refine below_set ?_ GE676.out | refine below_set ?_ GE677.out | refine below_set ?_ GE687.out) | exact HB.out)) hb)
   replace HI0 := Aside0.mk (IsS113.below (by repeat (first | (with_reducible first | exact HI0.out | apply IsS113.alloc | apply IsS113.drewN | apply IsS113.drew | apply IsS113.set_1 | refine IsS113.far ?_ NB0_676.out _ | refine IsS113.far ?_ NB0_677.out _ | refine IsS113.far ?_ NB0_687.out _) | exact HI0.out)) hb)
   clear hb ho15
   refine hK.out _ _ ⟨(blk_cell BK676.out 0).trans rfl, (blk_cell BK676.out 1).trans rfl⟩ (fun hHeld => ?_)
   clear hK K
   refine norm_ (a' := ?_) ?_ ?_
   rotate_left
   ·show Act.put _ (some 16) _ = _
    simp only [SX]
    rfl
   exact norm_ (by first | (simp only [putAll, Act.put, List.setIfInBounds_toArray, List.set_cons_zero, List.set_cons_succ]; done) | (simp only [putAll, Act.put, List.setIfInBounds_toArray, List.set_cons_zero, List.set_cons_succ]; rfl)) (hJ10_13 (v683, gb687) _ ⟨hHeld, (rk HO684), (bk BK676), (bk BK677), (bk BK687), GW687.out, GE687.out, NB0_687.out, NB687_0.out, NB676_687.out, NB687_676.out, NB677_687.out, NB687_677.out, (by repeat (first | (with_reducible first | exact HI0.out | apply IsS113.alloc | apply IsS113.drewN | apply IsS113.drew | apply IsS113.set_1 | refine IsS113.far ?_ NB0_676.out _ | refine IsS113.far ?_ NB0_677.out _ | refine IsS113.far ?_ NB0_687.out _) | exact HI0.out)), (by repeat (first | (with_reducible first | exact HK.out | apply KeepBut.set_ | apply keep_drewN | apply keep_drew | apply keep_alloc | refine keep_far ?_ GW676.out _ | refine keep_far ?_ GW677.out _ | refine keep_far ?_ GW687.out _) | exact HK.out)), (by repeat (first | (with_reducible first | exact HB.out | apply below_alloc | apply pw_below_drewN | apply below_drew1 | refine below_set ?_ (IsS113.ge HI0.out) | refine below_set ?_ GE676.out | refine below_set ?_ GE677.out | refine below_set ?_ GE687.out) | exact HB.out))⟩)
  intro hJ13
  refine three_ (i := 1) (j := 10) (k := 13) (Ni := some 7) (Nj := some 16) (Nk := some 5) (ms 15 763) (ms 15 1785) (ms 15 8953) rfl rfl rfl rfl rfl rfl (three_of HT_.out (by kernel_rfl)) (by decide) (by decide) (by decide) (fun K hK => ?_) (fun K hK => ?_) (fun K hK => ?_)
  ·skip
   refine goes_ Try.func59 (by kernel_rfl) rfl #[.pointer (some ⟨g, 0, none⟩), .int .i64 6] (by rfl) rfl rfl (by (try simp only [List.map_toArray, List.map_cons, List.map_nil]); first | done | rfl | (simp only [List.length_drop, List.length_take]; rfl)) ?_
   with_reducible refine (spec_l30Rd_pick.calls k g s0_0 s0_1 6 t678 t679 w0 _ ?side1 ?side2 A3.out).mono ?_
   (case side1 => repeat (first | (with_reducible first | exact HI0.out | apply IsS113.alloc | apply IsS113.drewN | apply IsS113.drew | apply IsS113.set_1 | refine IsS113.far ?_ NB0_676.out _ | refine IsS113.far ?_ NB0_677.out _) | exact HI0.out))
   (case side2 => repeat (first | (with_reducible first | exact HB.out | apply below_alloc | apply pw_below_drewN | apply below_drew1 | refine below_set ?_ (IsS113.ge HI0.out) | refine below_set ?_ GE676.out | refine below_set ?_ GE677.out) | exact HB.out))
   rintro e w12 ⟨rfl, hi, hb, hk⟩
   refine ⟨_, rfl, ?_⟩
   replace BK676 := Aside0.mk (KeepBut.blk hk (g' := gb676) (o := .cells #[.int .i64 a1_0, .slice A1_1 l1_1.length c1_1] 25 (0, 0)) (bk BK676) NB676_0.out (by simp))
   replace BK677 := Aside0.mk (KeepBut.blk hk (g' := gb677) (o := .cells #[.int .i64 0, .int .i64 0, .int .i64 0] 64 (0, 0)) (bk BK677) NB677_0.out (by simp))
   replace HK := Aside0.mk (KeepBut.trans (by repeat (first | (with_reducible first | exact HK.out | apply KeepBut.set_ | apply keep_drewN | apply keep_drew | apply keep_alloc | refine keep_far ?_ GW676.out _ | refine keep_far ?_ GW677.out _) | exact HK.out)) hk (.inl rfl))
   replace HB := Aside0.mk (hb)
   replace HI0 := Aside0.mk (hi)
   (try clear hb)
   (try clear hb2)
   (try clear hk)
   (try clear hi)
   refine hK.out _ _ ⟨(blk_cell BK676.out 0).trans rfl, (blk_cell BK676.out 1).trans rfl⟩ (fun hHeld => ?_)
   clear hK K
   refine norm_ (a' := ?_) ?_ ?_
   rotate_left
   ·show Act.put _ (some 7) _ = _
    simp only [SX]
    rfl
   refine pu 2 8 ?_ (ms 15 767) rfl rfl HT_ (by kernel_rfl) (fun _ _ _ h => h) (by rfl) ?_ ?_ ?_ ?_
   rotate_left
   ·intro w'
    go_simp
    with_reducible rfl
   rotate_left
   ·simp only [SX]
    rfl
   exact norm_ (by first | (simp only [putAll, Act.put, List.setIfInBounds_toArray, List.set_cons_zero, List.set_cons_succ]; done) | (simp only [putAll, Act.put, List.setIfInBounds_toArray, List.set_cons_zero, List.set_cons_succ]; rfl)) (hJ1 () _ ⟨hHeld, (bk BK676), (bk BK677), (by repeat (first | (with_reducible first | exact HI0.out | apply IsS113.alloc | apply IsS113.drewN | apply IsS113.drew | apply IsS113.set_1 | refine IsS113.far ?_ NB0_676.out _ | refine IsS113.far ?_ NB0_677.out _) | exact HI0.out)), (by repeat (first | (with_reducible first | exact HK.out | apply KeepBut.set_ | apply keep_drewN | apply keep_drew | apply keep_alloc | refine keep_far ?_ GW676.out _ | refine keep_far ?_ GW677.out _) | exact HK.out)), (by repeat (first | (with_reducible first | exact HB.out | apply below_alloc | apply pw_below_drewN | apply below_drew1 | refine below_set ?_ (IsS113.ge HI0.out) | refine below_set ?_ GE676.out | refine below_set ?_ GE677.out) | exact HB.out))⟩)
  ·skip
   refine Kd.R_lit_step (Kd.int .i64) _ 3 ?hg (N := 16) ?hd (xs := ([(-1), 0, 3, 9, 99] : List Int)) (inner := [.int .i64 (-1), .int .i64 0, .int .i64 3, .int .i64 9, .int .i64 99]) (ok := fun _ => True) (okp := fun _ => True) ?hr ?hp (fun _ hk => hk) trivial (Below.refl _ _) (Nat.le_refl _) (by simp) ?_; (case hd => rfl); (case hg => rfl); (case hr => first | (go_simp; done) | (go_simp; rfl)); (case hp => exact (Reps.one (show Kd.M (Kd.int .i64) _ _ _ (-1) [.int .i64 (-1)] from rfl) (Reps.one (show Kd.M (Kd.int .i64) _ _ _ 0 [.int .i64 0] from rfl) (Reps.one (show Kd.M (Kd.int .i64) _ _ _ 3 [.int .i64 3] from rfl) (Reps.one (show Kd.M (Kd.int .i64) _ _ _ 9 [.int .i64 9] from rfl) (Reps.one (show Kd.M (Kd.int .i64) _ _ _ 99 [.int .i64 99] from rfl) (Reps.none _ _)))))))
   intro v683 w12 ho13 hb hg_ hnew_
   clear hg_ hnew_
   (first | rw [← Ny682.out] at ho13 | (simp only [Int.reduceToNat] at ho13; rw [← Ny682.out] at ho13))
   have HO684 := Aside0.mk (Kd.R_lower ho13 (keep_size (w := w) (g := g) (row := none) (by repeat (first | (with_reducible first | exact HK.out | apply KeepBut.set_ | apply keep_drewN | apply keep_drew | apply keep_alloc | refine keep_far ?_ GW676.out _ | refine keep_far ?_ GW677.out _) | exact HK.out))))
   replace BK676 := Aside0.mk (blk_below (bk BK676) hb)
   replace BK677 := Aside0.mk (blk_below (bk BK677) hb)
   replace HK := Aside0.mk (KeepBut.trans (by repeat (first | (with_reducible first | exact HK.out | apply KeepBut.set_ | apply keep_drewN | apply keep_drew | apply keep_alloc | refine keep_far ?_ GW676.out _ | refine keep_far ?_ GW677.out _) | exact HK.out)) (KeepBut.of_below hb g none) (.inl rfl))
   replace HB := Aside0.mk (below_step (by repeat (first | (with_reducible first | exact HB.out | apply below_alloc | apply pw_below_drewN | apply below_drew1 | refine below_set ?_ (IsS113.ge HI0.out) | refine below_set ?_ GE676.out | refine below_set ?_ GE677.out) | exact HB.out)) hb)
   replace HI0 := Aside0.mk (IsS113.below (by repeat (first | (with_reducible first | exact HI0.out | apply IsS113.alloc | apply IsS113.drewN | apply IsS113.drew | apply IsS113.set_1 | refine IsS113.far ?_ NB0_676.out _ | refine IsS113.far ?_ NB0_677.out _) | exact HI0.out)) hb)
   clear hb ho13
   refine hK.out _ _ ⟨(blk_cell BK676.out 0).trans rfl, (blk_cell BK676.out 1).trans rfl⟩ (fun hHeld => ?_)
   clear hK K
   refine norm_ (a' := ?_) ?_ ?_
   rotate_left
   ·show Act.put _ (some 16) _ = _
    simp only [SX]
    rfl
   exact norm_ (by first | (simp only [putAll, Act.put, List.setIfInBounds_toArray, List.set_cons_zero, List.set_cons_succ]; done) | (simp only [putAll, Act.put, List.setIfInBounds_toArray, List.set_cons_zero, List.set_cons_succ]; rfl)) (hJ10 (v683) _ ⟨hHeld, (rk HO684), (bk BK676), (bk BK677), (by repeat (first | (with_reducible first | exact HI0.out | apply IsS113.alloc | apply IsS113.drewN | apply IsS113.drew | apply IsS113.set_1 | refine IsS113.far ?_ NB0_676.out _ | refine IsS113.far ?_ NB0_677.out _) | exact HI0.out)), (by repeat (first | (with_reducible first | exact HK.out | apply KeepBut.set_ | apply keep_drewN | apply keep_drew | apply keep_alloc | refine keep_far ?_ GW676.out _ | refine keep_far ?_ GW677.out _) | exact HK.out)), (by repeat (first | (with_reducible first | exact HB.out | apply below_alloc | apply pw_below_drewN | apply below_drew1 | refine below_set ?_ (IsS113.ge HI0.out) | refine below_set ?_ GE676.out | refine below_set ?_ GE677.out) | exact HB.out))⟩)
  skip
  refine box_step ?hg (N := 5) ?hd (cs := #[.int .i64 0, .int .i64 0, .int .i64 0]) (t := 64) ?hr ?_; (case hd => rfl); (case hg => rfl); (case hr => first | (go_simp; done) | (go_simp; rfl))
  intro gb687 hg w12 hbox hb
  replace HB := Aside0.mk (below_step (by repeat (first | (with_reducible first | exact HB.out | apply below_alloc | apply pw_below_drewN | apply below_drew1 | refine below_set ?_ (IsS113.ge HI0.out) | refine below_set ?_ GE676.out | refine below_set ?_ GE677.out) | exact HB.out)) hb)
  have BK687 := Aside0.mk (hbox)
  have GW687 := Aside0.mk ((by rw [hg]; exact (keep_size (w := w) (g := g) (row := none) (by repeat (first | (with_reducible first | exact HK.out | apply KeepBut.set_ | apply keep_drewN | apply keep_drew | apply keep_alloc | refine keep_far ?_ GW676.out _ | refine keep_far ?_ GW677.out _) | exact HK.out))) : w.heap.size ≤ gb687))
  have GE687 := Aside0.mk ((Nat.le_trans HW0.out (by rw [hg]; exact (keep_size (w := w) (g := g) (row := none) (by repeat (first | (with_reducible first | exact HK.out | apply KeepBut.set_ | apply keep_drewN | apply keep_drew | apply keep_alloc | refine keep_far ?_ GW676.out _ | refine keep_far ?_ GW677.out _) | exact HK.out))) : w.heap.size ≤ gb687) : w0.heap.size ≤ gb687))
  replace HK := Aside0.mk (KeepBut.trans (by repeat (first | (with_reducible first | exact HK.out | apply KeepBut.set_ | apply keep_drewN | apply keep_drew | apply keep_alloc | refine keep_far ?_ GW676.out _ | refine keep_far ?_ GW677.out _) | exact HK.out)) (KeepBut.of_below hb g none) (.inl rfl))
  have NB676_687 := Aside0.mk ((by rw [hg]; exact Nat.ne_of_lt (blk_lt (bk BK676)) : gb676 ≠ gb687))
  have NB687_676 := Aside0.mk ((by rw [hg]; exact Nat.ne_of_gt (blk_lt (bk BK676)) : gb687 ≠ gb676))
  replace BK676 := Aside0.mk (blk_below (bk BK676) hb)
  have NB677_687 := Aside0.mk ((by rw [hg]; exact Nat.ne_of_lt (blk_lt (bk BK677)) : gb677 ≠ gb687))
  have NB687_677 := Aside0.mk ((by rw [hg]; exact Nat.ne_of_gt (blk_lt (bk BK677)) : gb687 ≠ gb677))
  replace BK677 := Aside0.mk (blk_below (bk BK677) hb)
  have NB0_687 := Aside0.mk ((by rw [hg]; exact Nat.ne_of_lt (IsS113.lt (show IsS113 w0 _ g s0_0 s0_1 from by repeat (first | (with_reducible first | exact HI0.out | apply IsS113.alloc | apply IsS113.drewN | apply IsS113.drew | apply IsS113.set_1 | refine IsS113.far ?_ NB0_676.out _ | refine IsS113.far ?_ NB0_677.out _) | exact HI0.out))) : g ≠ gb687))
  have NB687_0 := Aside0.mk ((by rw [hg]; exact Nat.ne_of_gt (IsS113.lt (show IsS113 w0 _ g s0_0 s0_1 from by repeat (first | (with_reducible first | exact HI0.out | apply IsS113.alloc | apply IsS113.drewN | apply IsS113.drew | apply IsS113.set_1 | refine IsS113.far ?_ NB0_676.out _ | refine IsS113.far ?_ NB0_677.out _) | exact HI0.out))) : gb687 ≠ g))
  replace HI0 := Aside0.mk (IsS113.below (by repeat (first | (with_reducible first | exact HI0.out | apply IsS113.alloc | apply IsS113.drewN | apply IsS113.drew | apply IsS113.set_1 | refine IsS113.far ?_ NB0_676.out _ | refine IsS113.far ?_ NB0_677.out _) | exact HI0.out)) hb)
  clear hb hbox hg
  refine hK.out _ _ ⟨(blk_cell BK676.out 0).trans rfl, (blk_cell BK676.out 1).trans rfl⟩ (fun hHeld => ?_)
  clear hK K
  refine norm_ (a' := ?_) ?_ ?_
  rotate_left
  ·show Act.put _ (some 5) _ = _
   simp only [SX]
   rfl
  exact norm_ (by first | (simp only [putAll, Act.put, List.setIfInBounds_toArray, List.set_cons_zero, List.set_cons_succ]; done) | (simp only [putAll, Act.put, List.setIfInBounds_toArray, List.set_cons_zero, List.set_cons_succ]; rfl)) (hJ13 (gb687) _ ⟨hHeld, (bk BK676), (bk BK677), (bk BK687), GW687.out, GE687.out, NB0_687.out, NB687_0.out, NB676_687.out, NB687_676.out, NB677_687.out, NB687_677.out, (by repeat (first | (with_reducible first | exact HI0.out | apply IsS113.alloc | apply IsS113.drewN | apply IsS113.drew | apply IsS113.set_1 | refine IsS113.far ?_ NB0_676.out _ | refine IsS113.far ?_ NB0_677.out _ | refine IsS113.far ?_ NB0_687.out _) | exact HI0.out)), (by repeat (first | (with_reducible first | exact HK.out | apply KeepBut.set_ | apply keep_drewN | apply keep_drew | apply keep_alloc | refine keep_far ?_ GW676.out _ | refine keep_far ?_ GW677.out _ | refine keep_far ?_ GW687.out _) | exact HK.out)), (by repeat (first | (with_reducible first | exact HB.out | apply below_alloc | apply pw_below_drewN | apply below_drew1 | refine below_set ?_ (IsS113.ge HI0.out) | refine below_set ?_ GE676.out | refine below_set ?_ GE677.out | refine below_set ?_ GE687.out) | exact HB.out))⟩)
 rintro ⟨v683, gb687⟩ w19 ⟨hS_, h0_, h1_, h2_, h3_, h4_, h5_, h6_, h7_, h8_, h9_, h10_, h11_, h12_, h13_, h14_⟩
 have HO684 : Aside0 (Kd.R (Kd.int .i64) 3 w19 w.heap.size (fun _ => True) v683 y682) := ⟨h0_⟩
 replace BK676 : Aside0 (w19.heap[gb676]? = some (.cells #[.int .i64 a1_0, .slice A1_1 l1_1.length c1_1] 25 (0, 0))) := ⟨h1_⟩
 replace BK677 : Aside0 (w19.heap[gb677]? = some (.cells #[.int .i64 0, .int .i64 0, .int .i64 0] 64 (0, 0))) := ⟨h2_⟩
 have BK687 : Aside0 (w19.heap[gb687]? = some (.cells #[.int .i64 0, .int .i64 0, .int .i64 0] 64 (0, 0))) := ⟨h3_⟩
 have GW687 : Aside0 (w.heap.size ≤ gb687) := ⟨h4_⟩
 have GE687 : Aside0 (w0.heap.size ≤ gb687) := ⟨h5_⟩
 have NB0_687 : Aside0 (g ≠ gb687) := ⟨h6_⟩
 have NB687_0 : Aside0 (gb687 ≠ g) := ⟨h7_⟩
 have NB676_687 : Aside0 (gb676 ≠ gb687) := ⟨h8_⟩
 have NB687_676 : Aside0 (gb687 ≠ gb676) := ⟨h9_⟩
 have NB677_687 : Aside0 (gb677 ≠ gb687) := ⟨h10_⟩
 have NB687_677 : Aside0 (gb687 ≠ gb677) := ⟨h11_⟩
 replace HI0 : Aside0 (IsS113 w0 w19 g s0_0 t686) := ⟨h12_⟩
 replace HK : Aside0 (KeepBut w w19 g none) := ⟨h13_⟩
 replace HB : Aside0 (Below w0.heap.size w0 w19) := ⟨h14_⟩
 clear h0_ h1_ h2_ h3_ h4_ h5_ h6_ h7_ h8_ h9_ h10_ h11_ h12_ h13_ h14_
 have hHeld : w19.cell? ⟨gb676, 0, none⟩ = some (.int .i64 a1_0) ∧ w19.cell? ⟨gb676, 1, none⟩ = some (.slice A1_1 l1_1.length c1_1) := hS_
 refine norm_ (a' := ?_) ?_ ?_
 rotate_left
 ·simp only [putAll, Act.put, List.setIfInBounds_toArray, List.set_cons_zero, List.set_cons_succ]
  rfl
 refine one_ (i := 14) (N := none) (ms 15 32767) rfl rfl (one_of HT_.out (by kernel_rfl)) (by decide) (fun K hK => ?_)
 have hs20 : w19.cell? ⟨gb687, 0, none⟩ = some (.int .i64 0) := (blk_cell BK687.out 0).trans rfl
 have hfs20 := blk_frozen BK687.out 0
 have hns20_0 := NB676_687.out
 have hns20_1 := NB677_687.out
 have hms20_0 := NB687_676.out
 have hms20_1 := NB687_677.out
 have hs21 : w19.cell? ⟨gb687, 1, none⟩ = some (.int .i64 0) := (blk_cell BK687.out 1).trans rfl
 have hfs21 := blk_frozen BK687.out 1
 have hns21_0 := NB676_687.out
 have hns21_1 := NB677_687.out
 have hms21_0 := NB687_676.out
 have hms21_1 := NB687_677.out
 have hs22 : w19.cell? ⟨gb687, 2, none⟩ = some (.int .i64 0) := (blk_cell BK687.out 2).trans rfl
 have hfs22 := blk_frozen BK687.out 2
 have hns22_0 := NB676_687.out
 have hns22_1 := NB677_687.out
 have hms22_0 := NB687_676.out
 have hms22_1 := NB687_677.out
 refine skip_ (w1 := ?_) (by rfl) rfl ?_ ?_
 rotate_left
 ·go_simp
  rfl
 refine hK.out _ _ ⟨((cell_far (p := ⟨gb687, _, none⟩) NB676_687.out _).trans (((cell_far (p := ⟨gb687, _, none⟩) NB676_687.out _).trans (((cell_far (p := ⟨gb687, _, none⟩) NB676_687.out _).trans (hHeld.1)))))), ((cell_far (p := ⟨gb687, _, none⟩) NB676_687.out _).trans (((cell_far (p := ⟨gb687, _, none⟩) NB676_687.out _).trans (((cell_far (p := ⟨gb687, _, none⟩) NB676_687.out _).trans (hHeld.2))))))⟩ (fun hHeld => ?_)
 clear hK K
 refine done_ (done_of HT_.out (by kernel_rfl)) ?_
 by_cases c7 : t688 = 0
 rotate_left
 ·rw [if_neg c7] at H
  have c7b0 : (t688 == 0) = false := beq_eq_false_iff_ne.mpr c7
  have c7b1 : (t688 != 0) = true := bne_iff_ne.mpr c7
  simp only [Option.some.injEq, Prod.mk.injEq] at H
  obtain ⟨rfl, rfl, rfl, rfl⟩ := H
  try go_wp2_with (first | ((with_reducible refine gate_callee (f := 59) rfl ?_); refine goesL_ (some 20) rfl rfl Try.func59 (by kernel_rfl) rfl #[.pointer (some ⟨g, 0, none⟩), .int .i64 14] rfl (by (try simp only [List.map_toArray, List.map_cons, List.map_nil]); first | done | rfl | (simp only [List.length_drop, List.length_take]; rfl)) ?_; (with_reducible refine (spec_l30Rd_pick.calls k g s0_0 t686 14 t688 t689 w0 _ ?side1 ?side2 A6.out).mono ?_); (case side1 => repeat (first | (with_reducible first | exact HI0.out | apply IsS113.alloc | apply IsS113.drewN | apply IsS113.drew | apply IsS113.set_1 | refine IsS113.far ?_ NB0_676.out _ | refine IsS113.far ?_ NB0_677.out _ | refine IsS113.far ?_ NB0_687.out _) | exact HI0.out)); (case side2 => repeat (first | (with_reducible first | exact HB.out | apply below_alloc | apply pw_below_drewN | apply below_drew1 | refine below_set ?_ (IsS113.ge HI0.out) | refine below_set ?_ GE676.out | refine below_set ?_ GE677.out | refine below_set ?_ GE687.out) | exact HB.out)); rintro e w49 ⟨rfl, hi, hb, hk⟩; refine ⟨_, rfl, ?_⟩; replace BK676 := Aside0.mk (KeepBut.blk hk (g' := gb676) (o := .cells #[.int .i64 a1_0, .slice A1_1 l1_1.length c1_1] 25 (0, 0)) (by (with_reducible repeat (first | refine blk_drewN ?_ _ | refine blk_drew ?_ | refine blk_alloc ?_ _)); refine blk_far ?_ NB676_687.out _; refine blk_far ?_ NB676_687.out _; refine blk_far ?_ NB676_687.out _; (with_reducible repeat (first | refine blk_drewN ?_ _ | refine blk_drew ?_ | refine blk_alloc ?_ _)); exact BK676.out) NB676_0.out (by simp)); replace BK677 := Aside0.mk (KeepBut.blk hk (g' := gb677) (o := .cells #[.int .i64 0, .int .i64 0, .int .i64 0] 64 (0, 0)) (by (with_reducible repeat (first | refine blk_drewN ?_ _ | refine blk_drew ?_ | refine blk_alloc ?_ _)); refine blk_far ?_ NB677_687.out _; refine blk_far ?_ NB677_687.out _; refine blk_far ?_ NB677_687.out _; (with_reducible repeat (first | refine blk_drewN ?_ _ | refine blk_drew ?_ | refine blk_alloc ?_ _)); exact BK677.out) NB677_0.out (by simp)); replace HO684 := Aside0.mk (Kd.R_mono (Kd.R_keep (IsS113.apart (show IsS113 w0 _ g s0_0 t686 from by repeat (first | (with_reducible first | exact HI0.out | apply IsS113.alloc | apply IsS113.drewN | apply IsS113.drew | apply IsS113.set_1 | refine IsS113.far ?_ NB0_676.out _ | refine IsS113.far ?_ NB0_677.out _ | refine IsS113.far ?_ NB0_687.out _) | exact HI0.out)) (by (with_reducible repeat (first | apply Kd.R_alloc | apply Kd.R_drewN | apply Kd.R_drew)); exact (Kd.R_mono (Kd.R_far (p := ⟨gb687, 2, none⟩) (Kd.R_far (p := ⟨gb687, 1, none⟩) (Kd.R_far (p := ⟨gb687, 0, none⟩) (Kd.R_types HO684.out BK687.out (by decide)) (fun _ hk => hk.2) (.int .i64 (wrap64 (1 + t678)))) (fun _ hk => hk.2) (.int .i64 t680)) (fun _ hk => hk.2) (.int .i64 t685)) (fun _ h_ => h_.1))) (by decide)) hk (fun _ h => h.2)) (fun _ h => h.1)); replace BK687 := Aside0.mk (KeepBut.blk hk (g' := gb687) (o := .cells #[.int .i64 (wrap64 (1 + t678)), .int .i64 t680, .int .i64 t685] 64 (0, 0)) (by (with_reducible repeat (first | refine blk_drewN ?_ _ | refine blk_drew ?_ | refine blk_alloc ?_ _)); refine blk_put (cs := #[.int .i64 (wrap64 (1 + t678)), .int .i64 t680, .int .i64 0]) ?_ 2 _ rfl; refine blk_put (cs := #[.int .i64 (wrap64 (1 + t678)), .int .i64 0, .int .i64 0]) ?_ 1 _ rfl; refine blk_put (cs := #[.int .i64 0, .int .i64 0, .int .i64 0]) ?_ 0 _ rfl; (with_reducible repeat (first | refine blk_drewN ?_ _ | refine blk_drew ?_ | refine blk_alloc ?_ _)); exact BK687.out) NB687_0.out (by simp)); replace HK := Aside0.mk (KeepBut.trans (by repeat (first | (with_reducible first | exact HK.out | apply KeepBut.set_ | apply keep_drewN | apply keep_drew | apply keep_alloc | refine keep_far ?_ GW676.out _ | refine keep_far ?_ GW677.out _ | refine keep_far ?_ GW687.out _) | exact HK.out)) hk (.inl rfl)); replace HB := Aside0.mk (hb); replace HI0 := Aside0.mk (hi); (try clear hb); (try clear hb2); (try clear hk); (try clear hi); have hnb50 := NB687_676.out; have hnc50 := NB676_687.out; have hnb51 := NB687_677.out; have hnc51 := NB677_687.out; have hnb52 := NB687_0.out; have hnc52 := NB0_687.out; have hcz53_0 := bc w49 BK687 0 (.int .i64 (wrap64 (1 + t678))) rfl; have hcz53_1 := bc w49 BK687 1 (.int .i64 t680) rfl; have hcz53_2 := bc w49 BK687 2 (.int .i64 t685) rfl; have hfz53_0 := fz BK687 0; have hfz53_1 := fz BK687 1; have hfz53_2 := fz BK687 2; have hnb54 := NB677_676.out; have hnc54 := NB676_677.out; have hnb55 := NB677_0.out; have hnc55 := NB0_677.out; have hcz56_0 := bc w49 BK677 0 (.int .i64 0) rfl; have hcz56_1 := bc w49 BK677 1 (.int .i64 0) rfl; have hcz56_2 := bc w49 BK677 2 (.int .i64 0) rfl; have hfz56_0 := fz BK677 0; have hfz56_1 := fz BK677 1; have hfz56_2 := fz BK677 2))
  refine bodyPost_ret (results_cell_row rfl _ _ gb677 64 #[.int .i64 (wrap64 (1 + t678)), .int .i64 t680, .int .i64 t685] (0, 0) _ rfl (by (with_reducible repeat (first | refine blk_drewN ?_ _ | refine blk_drew ?_ | refine blk_alloc ?_ _)); refine blk_put (cs := #[.int .i64 (wrap64 (1 + t678)), .int .i64 t680, .int .i64 0]) ?_ 2 _ rfl; refine blk_put (cs := #[.int .i64 (wrap64 (1 + t678)), .int .i64 0, .int .i64 0]) ?_ 1 _ rfl; refine blk_put (cs := #[.int .i64 0, .int .i64 0, .int .i64 0]) ?_ 0 _ rfl; (with_reducible repeat (first | refine blk_drewN ?_ _ | refine blk_drew ?_ | refine blk_alloc ?_ _)); exact BK677.out) Try.underlying64 rfl (by kernel_rfl)) rfl ?_
  exact ⟨by first | rfl | (simp [errW_none, errW_some] <;> rfl) | (simp [*, errW_none, errW_some] <;> rfl), by repeat (first | (with_reducible first | exact HI0.out | apply IsS113.alloc | apply IsS113.drewN | apply IsS113.drew | apply IsS113.set_1 | refine IsS113.far ?_ NB0_676.out _ | refine IsS113.far ?_ NB0_677.out _ | refine IsS113.far ?_ NB0_687.out _) | exact HI0.out), by repeat (first | (with_reducible first | exact HB.out | apply below_alloc | apply pw_below_drewN | apply below_drew1 | refine below_set ?_ (IsS113.ge HI0.out) | refine below_set ?_ GE676.out | refine below_set ?_ GE677.out | refine below_set ?_ GE687.out) | exact HB.out), by repeat (first | (with_reducible first | exact HK.out | apply KeepBut.set_ | apply keep_drewN | apply keep_drew | apply keep_alloc | refine keep_far ?_ GW676.out _ | refine keep_far ?_ GW677.out _ | refine keep_far ?_ GW687.out _) | exact HK.out)⟩
 rw [if_pos c7] at H
 have c7b0 : (t688 == 0) = true := beq_iff_eq.mpr c7
 have c7b1 : (t688 != 0) = false := bne_eq_false_iff_eq.mpr c7
 clear c7
 obtain ⟨y690, hy690⟩ : ∃ y_ : List Int, y_ = (([0, 1000] : List Int)) := ⟨_, rfl⟩
 replace H : ((spec_l30Rd_one.f k s0_0 t689 y690).bind fun bt693 => (some (bt693.1, t680, t685, bt693.2))) = some (r1, r2, r3, r4) := by first | (rw [hy690]; with_reducible exact H) | (have H2_ := (Option.bind_some _ _).symm.trans H; rw [hy690]; with_reducible exact H2_) | (have H2_ := (Option.bind_some _ _).symm.trans H; with_reducible exact H2_) | with_reducible exact H | (rw [hy690]; exact H) | exact H
 have Ny690 := Aside0.mk hy690
 clear hy690
 replace H := Option.bind_eq_some_iff.mp H
 obtain ⟨⟨t693, t694⟩, A80, H⟩ := H
 have A8 := Aside0.mk A80
 clear A80
 simp only [Option.some.injEq, Prod.mk.injEq] at H
 obtain ⟨rfl, rfl, rfl, rfl⟩ := H
 try go_wp2_with (first | ((with_reducible refine gate_callee (f := 59) rfl ?_); refine goesL_ (some 20) rfl rfl Try.func59 (by kernel_rfl) rfl #[.pointer (some ⟨g, 0, none⟩), .int .i64 14] rfl (by (try simp only [List.map_toArray, List.map_cons, List.map_nil]); first | done | rfl | (simp only [List.length_drop, List.length_take]; rfl)) ?_; (with_reducible refine (spec_l30Rd_pick.calls k g s0_0 t686 14 t688 t689 w0 _ ?side1 ?side2 A6.out).mono ?_); (case side1 => repeat (first | (with_reducible first | exact HI0.out | apply IsS113.alloc | apply IsS113.drewN | apply IsS113.drew | apply IsS113.set_1 | refine IsS113.far ?_ NB0_676.out _ | refine IsS113.far ?_ NB0_677.out _ | refine IsS113.far ?_ NB0_687.out _) | exact HI0.out)); (case side2 => repeat (first | (with_reducible first | exact HB.out | apply below_alloc | apply pw_below_drewN | apply below_drew1 | refine below_set ?_ (IsS113.ge HI0.out) | refine below_set ?_ GE676.out | refine below_set ?_ GE677.out | refine below_set ?_ GE687.out) | exact HB.out)); rintro e w23 ⟨rfl, hi, hb, hk⟩; refine ⟨_, rfl, ?_⟩; replace BK676 := Aside0.mk (KeepBut.blk hk (g' := gb676) (o := .cells #[.int .i64 a1_0, .slice A1_1 l1_1.length c1_1] 25 (0, 0)) (by (with_reducible repeat (first | refine blk_drewN ?_ _ | refine blk_drew ?_ | refine blk_alloc ?_ _)); refine blk_far ?_ NB676_687.out _; refine blk_far ?_ NB676_687.out _; refine blk_far ?_ NB676_687.out _; (with_reducible repeat (first | refine blk_drewN ?_ _ | refine blk_drew ?_ | refine blk_alloc ?_ _)); exact BK676.out) NB676_0.out (by simp)); replace BK677 := Aside0.mk (KeepBut.blk hk (g' := gb677) (o := .cells #[.int .i64 0, .int .i64 0, .int .i64 0] 64 (0, 0)) (by (with_reducible repeat (first | refine blk_drewN ?_ _ | refine blk_drew ?_ | refine blk_alloc ?_ _)); refine blk_far ?_ NB677_687.out _; refine blk_far ?_ NB677_687.out _; refine blk_far ?_ NB677_687.out _; (with_reducible repeat (first | refine blk_drewN ?_ _ | refine blk_drew ?_ | refine blk_alloc ?_ _)); exact BK677.out) NB677_0.out (by simp)); replace HO684 := Aside0.mk (Kd.R_mono (Kd.R_keep (IsS113.apart (show IsS113 w0 _ g s0_0 t686 from by repeat (first | (with_reducible first | exact HI0.out | apply IsS113.alloc | apply IsS113.drewN | apply IsS113.drew | apply IsS113.set_1 | refine IsS113.far ?_ NB0_676.out _ | refine IsS113.far ?_ NB0_677.out _ | refine IsS113.far ?_ NB0_687.out _) | exact HI0.out)) (by (with_reducible repeat (first | apply Kd.R_alloc | apply Kd.R_drewN | apply Kd.R_drew)); exact (Kd.R_mono (Kd.R_far (p := ⟨gb687, 2, none⟩) (Kd.R_far (p := ⟨gb687, 1, none⟩) (Kd.R_far (p := ⟨gb687, 0, none⟩) (Kd.R_types HO684.out BK687.out (by decide)) (fun _ hk => hk.2) (.int .i64 (wrap64 (1 + t678)))) (fun _ hk => hk.2) (.int .i64 t680)) (fun _ hk => hk.2) (.int .i64 t685)) (fun _ h_ => h_.1))) (by decide)) hk (fun _ h => h.2)) (fun _ h => h.1)); replace BK687 := Aside0.mk (KeepBut.blk hk (g' := gb687) (o := .cells #[.int .i64 (wrap64 (1 + t678)), .int .i64 t680, .int .i64 t685] 64 (0, 0)) (by (with_reducible repeat (first | refine blk_drewN ?_ _ | refine blk_drew ?_ | refine blk_alloc ?_ _)); refine blk_put (cs := #[.int .i64 (wrap64 (1 + t678)), .int .i64 t680, .int .i64 0]) ?_ 2 _ rfl; refine blk_put (cs := #[.int .i64 (wrap64 (1 + t678)), .int .i64 0, .int .i64 0]) ?_ 1 _ rfl; refine blk_put (cs := #[.int .i64 0, .int .i64 0, .int .i64 0]) ?_ 0 _ rfl; (with_reducible repeat (first | refine blk_drewN ?_ _ | refine blk_drew ?_ | refine blk_alloc ?_ _)); exact BK687.out) NB687_0.out (by simp)); replace HK := Aside0.mk (KeepBut.trans (by repeat (first | (with_reducible first | exact HK.out | apply KeepBut.set_ | apply keep_drewN | apply keep_drew | apply keep_alloc | refine keep_far ?_ GW676.out _ | refine keep_far ?_ GW677.out _ | refine keep_far ?_ GW687.out _) | exact HK.out)) hk (.inl rfl)); replace HB := Aside0.mk (hb); replace HI0 := Aside0.mk (hi); (try clear hb); (try clear hb2); (try clear hk); (try clear hi)) | ((with_reducible refine gate_dst (N := 23) rfl ?_); refine Kd.R_lit (Kd.int .i64) _ 3 ?hg (N := 23) ?hd (xs := ([0, 1000] : List Int)) (inner := [.int .i64 0, .int .i64 1000]) (ok := fun _ => True) (okp := fun _ => True) ?hr ?hp (fun _ hk => hk) trivial (Below.refl _ _) (Nat.le_refl _) (by simp) ?_; (case hd => rfl); (case hg => rfl); (case hr => first | (go_simp; done) | (go_simp; rfl)); (case hp => exact (Reps.one (show Kd.M (Kd.int .i64) _ _ _ 0 [.int .i64 0] from rfl) (Reps.one (show Kd.M (Kd.int .i64) _ _ _ 1000 [.int .i64 1000] from rfl) (Reps.none _ _)))); intro v691 w24 ho25 hb hg_ hnew_; clear hg_ hnew_; (first | rw [← Ny690.out] at ho25 | (simp only [Int.reduceToNat] at ho25; rw [← Ny690.out] at ho25)); have HO692 := Aside0.mk (Kd.R_lower (Kd.R_new' ho25 (Kd.R_lt (rk HO684))) (keep_size (w := w) (g := g) (row := none) (by repeat (first | (with_reducible first | exact HK.out | apply KeepBut.set_ | apply keep_drewN | apply keep_drew | apply keep_alloc | refine keep_far ?_ GW676.out _ | refine keep_far ?_ GW677.out _ | refine keep_far ?_ GW687.out _) | exact HK.out)))); replace HO684 := Aside0.mk (Kd.R_elder' (rk HO684) (Kd.R_base ho25) hb); replace BK676 := Aside0.mk (blk_below (bk BK676) hb); replace BK677 := Aside0.mk (blk_below (bk BK677) hb); replace BK687 := Aside0.mk (blk_below (bk BK687) hb); replace HK := Aside0.mk (KeepBut.trans (by repeat (first | (with_reducible first | exact HK.out | apply KeepBut.set_ | apply keep_drewN | apply keep_drew | apply keep_alloc | refine keep_far ?_ GW676.out _ | refine keep_far ?_ GW677.out _ | refine keep_far ?_ GW687.out _) | exact HK.out)) (KeepBut.of_below hb g none) (.inl rfl)); replace HB := Aside0.mk (below_step (by repeat (first | (with_reducible first | exact HB.out | apply below_alloc | apply pw_below_drewN | apply below_drew1 | refine below_set ?_ (IsS113.ge HI0.out) | refine below_set ?_ GE676.out | refine below_set ?_ GE677.out | refine below_set ?_ GE687.out) | exact HB.out)) hb); replace HI0 := Aside0.mk (IsS113.below (by repeat (first | (with_reducible first | exact HI0.out | apply IsS113.alloc | apply IsS113.drewN | apply IsS113.drew | apply IsS113.set_1 | refine IsS113.far ?_ NB0_676.out _ | refine IsS113.far ?_ NB0_677.out _ | refine IsS113.far ?_ NB0_687.out _) | exact HI0.out)) hb); clear hb ho25; obtain ⟨Ao26, co26, eo26⟩ := Kd.R_slice HO692.out; subst eo26) | ((with_reducible refine gate_callee (f := 101) rfl ?_); refine goesL_ (some 24) rfl rfl Try.func101 (by kernel_rfl) rfl #[.pointer (some ⟨g, 0, none⟩), .slice Ao26 y690.length co26] rfl (by (try simp only [List.map_toArray, List.map_cons, List.map_nil]); first | done | rfl | (simp only [List.length_drop, List.length_take]; rfl)) ?_; (with_reducible refine (spec_l30Rd_one.calls k g s0_0 t689 _ _ y690 t693 t694 w0 _ ?side1 ?side2 ?side3 ?side4 ?side5 A8.out).mono ?_); (case side1 => repeat (first | (with_reducible first | exact HI0.out | apply IsS113.alloc | apply IsS113.drewN | apply IsS113.drew | apply IsS113.set_1 | refine IsS113.far ?_ NB0_676.out _ | refine IsS113.far ?_ NB0_677.out _ | refine IsS113.far ?_ NB0_687.out _) | exact HI0.out)); (case side2 => repeat (first | (with_reducible first | exact HB.out | apply below_alloc | apply pw_below_drewN | apply below_drew1 | refine below_set ?_ (IsS113.ge HI0.out) | refine below_set ?_ GE676.out | refine below_set ?_ GE677.out | refine below_set ?_ GE687.out) | exact HB.out)); (case side3 => repeat (first | exact (Kd.R_reads' HO692.out).2.2 | (with_reducible refine Kd.C_alloc ?_ _) | (with_reducible refine Kd.C_drewN ?_ _) | (with_reducible refine Kd.C_drew ?_))); (case side4 => exact (Kd.R_reads' HO692.out).2.1); (case side5 => exact far_slice (IsS113.own_ne HI0.out HO692.out (by decide))); rintro e w27 ⟨rfl, hi, hb, hk⟩; refine ⟨_, rfl, ?_⟩; replace BK676 := Aside0.mk (KeepBut.blk hk (g' := gb676) (o := .cells #[.int .i64 a1_0, .slice A1_1 l1_1.length c1_1] 25 (0, 0)) (bk BK676) NB676_0.out (by simp)); replace BK677 := Aside0.mk (KeepBut.blk hk (g' := gb677) (o := .cells #[.int .i64 0, .int .i64 0, .int .i64 0] 64 (0, 0)) (bk BK677) NB677_0.out (by simp)); replace HO684 := Aside0.mk (Kd.R_mono (Kd.R_keep (IsS113.apart (show IsS113 w0 _ g s0_0 t689 from by repeat (first | (with_reducible first | exact HI0.out | apply IsS113.alloc | apply IsS113.drewN | apply IsS113.drew | apply IsS113.set_1 | refine IsS113.far ?_ NB0_676.out _ | refine IsS113.far ?_ NB0_677.out _ | refine IsS113.far ?_ NB0_687.out _) | exact HI0.out)) (rk HO684) (by decide)) hk (fun _ h => h.2)) (fun _ h => h.1)); replace BK687 := Aside0.mk (KeepBut.blk hk (g' := gb687) (o := .cells #[.int .i64 (wrap64 (1 + t678)), .int .i64 t680, .int .i64 t685] 64 (0, 0)) (bk BK687) NB687_0.out (by simp)); replace HO692 := Aside0.mk (Kd.R_mono (Kd.R_keep (IsS113.apart (show IsS113 w0 _ g s0_0 t689 from by repeat (first | (with_reducible first | exact HI0.out | apply IsS113.alloc | apply IsS113.drewN | apply IsS113.drew | apply IsS113.set_1 | refine IsS113.far ?_ NB0_676.out _ | refine IsS113.far ?_ NB0_677.out _ | refine IsS113.far ?_ NB0_687.out _) | exact HI0.out)) (rk HO692) (by decide)) hk (fun _ h => h.2)) (fun _ h => h.1)); replace HK := Aside0.mk (KeepBut.trans (by repeat (first | (with_reducible first | exact HK.out | apply KeepBut.set_ | apply keep_drewN | apply keep_drew | apply keep_alloc | refine keep_far ?_ GW676.out _ | refine keep_far ?_ GW677.out _ | refine keep_far ?_ GW687.out _) | exact HK.out)) hk (.inl rfl)); replace HB := Aside0.mk (hb); replace HI0 := Aside0.mk (hi); (try clear hb); (try clear hb2); (try clear hk); (try clear hi); have hnb28 := NB687_676.out; have hnc28 := NB676_687.out; have hnb29 := NB687_677.out; have hnc29 := NB677_687.out; have hnb30 := NB687_0.out; have hnc30 := NB0_687.out; have hcz31_0 := bc w27 BK687 0 (.int .i64 (wrap64 (1 + t678))) rfl; have hcz31_1 := bc w27 BK687 1 (.int .i64 t680) rfl; have hcz31_2 := bc w27 BK687 2 (.int .i64 t685) rfl; have hfz31_0 := fz BK687 0; have hfz31_1 := fz BK687 1; have hfz31_2 := fz BK687 2; have hnb32 := NB677_676.out; have hnc32 := NB676_677.out; have hnb33 := NB677_0.out; have hnc33 := NB0_677.out; have hcz34_0 := bc w27 BK677 0 (.int .i64 0) rfl; have hcz34_1 := bc w27 BK677 1 (.int .i64 0) rfl; have hcz34_2 := bc w27 BK677 2 (.int .i64 0) rfl; have hfz34_0 := fz BK677 0; have hfz34_1 := fz BK677 1; have hfz34_2 := fz BK677 2))
 refine bodyPost_ret (results_cell_row rfl _ _ gb677 64 #[.int .i64 t693, .int .i64 t680, .int .i64 t685] (0, 0) _ rfl (by (with_reducible repeat (first | refine blk_drewN ?_ _ | refine blk_drew ?_ | refine blk_alloc ?_ _)); refine blk_put (cs := #[.int .i64 t693, .int .i64 t680, .int .i64 0]) ?_ 2 _ rfl; refine blk_put (cs := #[.int .i64 t693, .int .i64 0, .int .i64 0]) ?_ 1 _ rfl; refine blk_put (cs := #[.int .i64 0, .int .i64 0, .int .i64 0]) ?_ 0 _ rfl; refine blk_far ?_ NB677_687.out _; (with_reducible repeat (first | refine blk_drewN ?_ _ | refine blk_drew ?_ | refine blk_alloc ?_ _)); exact BK677.out) Try.underlying64 rfl (by kernel_rfl)) rfl ?_
 exact ⟨by first | rfl | (simp [errW_none, errW_some] <;> rfl) | (simp [*, errW_none, errW_some] <;> rfl), by repeat (first | (with_reducible first | exact HI0.out | apply IsS113.alloc | apply IsS113.drewN | apply IsS113.drew | apply IsS113.set_1 | refine IsS113.far ?_ NB0_676.out _ | refine IsS113.far ?_ NB0_677.out _ | refine IsS113.far ?_ NB0_687.out _) | exact HI0.out), by repeat (first | (with_reducible first | exact HB.out | apply below_alloc | apply pw_below_drewN | apply below_drew1 | refine below_set ?_ (IsS113.ge HI0.out) | refine below_set ?_ GE676.out | refine below_set ?_ GE677.out | refine below_set ?_ GE687.out) | exact HB.out), by repeat (first | (with_reducible first | exact HK.out | apply KeepBut.set_ | apply keep_drewN | apply keep_drew | apply keep_alloc | refine keep_far ?_ GW676.out _ | refine keep_far ?_ GW677.out _ | refine keep_far ?_ GW687.out _) | exact HK.out)⟩

end Go.Proofs.Ythgihpbpebbebaa.F
