-- Printed by wip/px/px.py of this claim's repository (the kit's printer, extended there). Lean checks it.
import Derived.Test.YtbcedkcjodokkaaFKinds
namespace Go.Proofs.Ytbcedkcjodokkaa.F
open Go.RowKit Go.Proofs.YtbcedkcjodokkaaW.PrintWords Go.Proofs.YtbcedkcjodokkaaW.PrintLast Go.Proofs.YtbcedkcjodokkaaW.PrintMore
attribute [local go_sem] max2_int min2_int max_two min_two max_three min_three max_four min_four   -- for this text's walks alone
set_option linter.unusedVariables false
set_option linter.unusedSimpArgs false

/-! ### spec_l1Copy: function 22 -/
def spec_l1Copy.f (a0_0 : Int) (l0_1 : List (S65)) : Option (Int × (List (S65))) := (some (([] : List (S65)) : List (S65))).bind fun y123 => (if y123.length + l0_1.length < 3518437208883 then (some (a0_0, (y123 ++ l0_1))) else (none))
def spec_l1Copy.T1 : Bool × List (List Nat × List Nat) := (true, [([], []), ([0], [0]), ([], []), ([], []), ([3], [3]), ([2, 4], [2, 4]), ([1, 5], [1, 5]), ([6, 5, 0, 1, 2, 3, 4, 5, 6], [6])])
def spec_l1Copy.B1 : List Nat := [0, 1, 0, 0, 8, 28, 63, 127]
theorem spec_l1Copy.tab1 : rtab .any (opsOf Try.f22 1) = spec_l1Copy.T1 := by kernel_rfl
theorem spec_l1Copy.bits1 : waitsOk spec_l1Copy.T1.2 spec_l1Copy.B1 = true := by kernel_rfl
set_option maxHeartbeats 8000000 in
set_option maxRecDepth 100000 in
theorem spec_l1Copy.calls (a0_0 : Int) (A0_1 : Option Addr) (c0_1 : Nat) (l0_1 : List (S65)) (r1 : Int) (r2 : List (S65)) (w : World) (hr0_1 : Kd.C k65 w A0_1 l0_1.length l0_1) (hc0_1 : l0_1.length ≤ c0_1) (h : spec_l1Copy.f a0_0 l0_1 = some (r1, r2)) :
  Calls Try.prog 22 #[.agg #[.int .i64 a0_0, .slice A0_1 l0_1.length c0_1]] w fun e w' => ∃ v1_ : Value, e = .returned (.agg #[.int .i64 r1, v1_]) ∧ Kd.R k65 65 w' w.heap.size (fun _ => True) v1_ r2 ∧ Below w.heap.size w w' := by
 have hu25 := Try.underlying25
 have HR0_1 := ak hr0_1
 have HC0_1 := ak hc0_1
 clear hr0_1 hc0_1
 have HB := ak (Below.refl w.heap.size w)
 have H : ((some (([] : List (S65)) : List (S65))).bind fun y123 => (if y123.length + l0_1.length < 3518437208883 then (some (a0_0, (y123 ++ l0_1))) else (none))) = some (r1, r2) := h
 clear h
 obtain ⟨y123, hy123⟩ : ∃ y_ : List (S65), y_ = (([] : List (S65))) := ⟨_, rfl⟩
 replace H : (if y123.length + l0_1.length < 3518437208883 then (some (a0_0, (y123 ++ l0_1))) else (none)) = some (r1, r2) := by (have H2_ := (Option.bind_some _ _).symm.trans H; rw [hy123]; with_reducible exact H2_)
 have Ny123 := ak hy123
 clear hy123
 by_cases c2 : y123.length + l0_1.length < 3518437208883
 rotate_left
 ·rw [if_neg c2] at H
  exact absurd H (by simp)
 rw [if_pos c2] at H
 have LMc2 := ak c2
 clear c2
 obtain ⟨y126, hy126⟩ : ∃ y_ : List (S65), y_ = (y123 ++ l0_1) := ⟨_, rfl⟩
 replace H : (some (a0_0, y126)) = some (r1, r2) := by (rw [hy126]; with_reducible exact H)
 have Ny126 := ak hy126
 clear hy126
 simp only [Option.some.injEq, Prod.mk.injEq] at H
 obtain ⟨rfl, rfl⟩ := H
 go_enter Try.func22, Try.ntmps22
 try go_wp2_with (first | ((with_reducible refine gate_dst (N := 1) rfl ?_); refine box_event ?hg (N := 1) ?hd (cs := #[.int .i64 a0_0, .slice A0_1 l0_1.length c0_1]) (t := 25) ?hr ?_; (case hd => rfl); (case hg => rfl); (case hr => (go_simp; done)); intro gb121 hg w3 hbox hb; have BK121 := ak (hbox); have GW121 := ak ((by rw [hg]; exact (below_size (bl HB)) : w.heap.size ≤ gb121)); have GE121 := ak ((by rw [hg]; exact (below_size (bl HB)) : w.heap.size ≤ gb121)); replace HB := ak (below_step (bl HB) hb); clear hb hbox hg) | ((with_reducible refine gate_dst (N := 2) rfl ?_); refine box_event ?hg (N := 2) ?hd (cs := #[.int .i64 0, .slice none 0 0]) (t := 25) ?hr ?_; (case hd => rfl); (case hg => rfl); (case hr => (go_simp; done)); intro gb122 hg w4 hbox hb; have BK122 := ak (hbox); have GW122 := ak ((by rw [hg]; exact (below_size (bl1 HB GE121)) : w.heap.size ≤ gb122)); have GE122 := ak ((by rw [hg]; exact (below_size (bl1 HB GE121)) : w.heap.size ≤ gb122)); replace HB := ak (below_step (bl1 HB GE121) hb); have NB121_122 := ak ((by rw [hg]; exact Nat.ne_of_lt (blk_lt (bk BK121)) : gb121 ≠ gb122)); have NB122_121 := ak ((by rw [hg]; exact Nat.ne_of_gt (blk_lt (bk BK121)) : gb122 ≠ gb121)); replace BK121 := ak (blk_below (bk BK121) hb); clear hb hbox hg))
 replace BK121 := ak (blk_drew BK121.out)
 replace BK122 := ak (blk_drew BK122.out)
 replace HB := ak (below_drew1 HB.out)
 refine start_ (n := 8) (S := fun w' => w'.cell? ⟨gb121, 0, none⟩ = some (.int .i64 a0_0) ∧ w'.cell? ⟨gb121, 1, none⟩ = some (.slice A0_1 l0_1.length c0_1)) (ds := []) (ms 8 0) (by kernel_rfl) rfl (by kernel_rfl) ⟨(blk_cell BK121.out 0).trans rfl, (blk_cell BK121.out 1).trans rfl⟩ (fun hHeld => ?_); refine with_tabW spec_l1Copy.tab1 spec_l1Copy.bits1 (fun HT_ HW_ => ?_)
 generalize w4.drew = w5 at BK121 BK122 HB hHeld ⊢
 refine pu 0 3 ?_ (ms 8 1) rfl rfl HT_ (by kernel_rfl) (fun _ _ _ h => h) (by rfl) ?_ ?_ ?_ ?_
 rotate_left
 ·intro w'
  go_simp
  with_reducible rfl
 rotate_left
 ·simp only [SX]
  rfl
 refine pu 3 6 ?_ (ms 8 9) rfl rfl HT_ (by kernel_rfl) (fun _ _ _ h => h) (by rfl) ?_ ?_ ?_ ?_
 rotate_left
 ·intro w'
  go_simp
  with_reducible rfl
 rotate_left
 ·simp only [SX]
  rfl
 refine tk 1 4 ?_ (ms 8 11) rfl rfl HT_ HW_ (by kernel_rfl) (fun _ _ _ h => h) (by rfl) ?_ hHeld ?_ ?_ ?_
 rotate_left
 ·rintro w' ⟨s0, s1⟩
  go_simp
  with_reducible rfl
 rotate_left
 ·simp only [SX]
  rfl
 refine tk 4 7 ?_ (ms 8 27) rfl rfl HT_ HW_ (by kernel_rfl) (fun _ _ _ h => h) (by rfl) ?_ hHeld ?_ ?_ ?_
 rotate_left
 ·rintro w' ⟨s0, s1⟩
  go_simp
  with_reducible rfl
 rotate_left
 ·simp only [SX]
  rfl
 refine one_ (i := 2) (N := some 5) (ms 8 31) rfl rfl (one_of HT_.out (by kernel_rfl)) (by decide) (fun K hK => ?_)
 refine Kd.R_lit_step k65 _ 65 ?hg (N := 5) ?hd (xs := ([] : List (S65))) (inner := []) (ok := fun _ => True) (okp := fun _ => True) ?hr ?hp (fun _ hk => hk) trivial (Below.refl _ _) (Nat.le_refl _) (by simp) ?_; (case hd => rfl); (case hg => rfl); (case hr => (go_simp; done)); (case hp => exact (Reps.none _ _))
 intro v124 w6 ho7 hb hg_ hnew_
 clear hg_ hnew_
 (rw [← Ny123.out] at ho7)
 have HO125 := ak (Kd.R_lower ho7 (below_size (bl2 HB GE121 GE122)))
 replace BK121 := ak (blk_below (bk BK121) hb)
 replace BK122 := ak (blk_below (bk BK122) hb)
 replace HB := ak (below_step (bl2 HB GE121 GE122) hb)
 clear hb ho7
 refine hK.out _ _ ⟨(blk_cell BK121.out 0).trans rfl, (blk_cell BK121.out 1).trans rfl⟩ (fun hHeld => ?_)
 clear hK K
 refine norm_ (a' := ?_) ?_ ?_
 rotate_left
 ·show Act.put _ (some 5) _ = _
  simp only [SX]
  rfl
 refine one_ (i := 5) (N := some 8) (ms 8 63) rfl rfl (one_of HT_.out (by kernel_rfl)) (by decide) (fun K hK => ?_)
 refine Kd.R_append_rows_step k65 (w0 := w) w.heap.size (by rfl) (.tmp 5) (.tmp 7) 23 65 (.agg #[(.int .i64 0), (.int .i64 0), (.int .i64 0), (.int .i64 0), (.int .i64 0)]) 40 rfl Try.underlying23 info65 rfl (by decide) (by omega) v124 y123 l0_1 _ _ _ (fun _ => True) (fun _ => False) rfl rfl ?aO ?aR (fun _ _ h => h) (fun _ h => h.elim) ?aF ?aB ?aS ?aL ?_
 (case aR => repeat (exact (Kd.C_below HR0_1.out HB.out)))
 (case aB => exact (bl2 HB GE121 GE122))
 (case aF => exact (fun _ _ => trivial))
 (case aO => exact (rk HO125))
 (case aS => exact (below_size (bl2 HB GE121 GE122)))
 (case aL => have := LMc2.out; omega)
 intro v127 w8 ho hb hg hat
 rw [← Ny126.out] at ho
 have n0_ := ak (blk_grown (bk BK121) hg (Kd.R_ne HO125.out BK121.out (by decide)))
 have n1_ := ak (blk_grown (bk BK122) hg (Kd.R_ne HO125.out BK122.out (by decide)))
 have n2_ := ak (hb)
 have n3_ := ak (ho)
 clear BK121
 clear BK122
 clear HB
 clear HO125
 have BK121 := n0_
 have BK122 := n1_
 have HB := n2_
 have HO128 := n3_
 clear n0_ n1_ n2_ n3_
 clear ho hb hg hat
 obtain ⟨Ao9, co9, eo9⟩ := Kd.R_slice HO128.out
 (subst eo9)
 refine hK.out _ _ ⟨(blk_cell BK121.out 0).trans rfl, (blk_cell BK121.out 1).trans rfl⟩ (fun hHeld => ?_)
 clear hK K
 refine norm_ (a' := ?_) ?_ ?_
 rotate_left
 ·show Act.put _ (some 8) _ = _
  simp only [SX]
  rfl
 refine pu 6 9 ?_ (ms 8 127) rfl rfl HT_ (by kernel_rfl) (fun _ _ _ h => h) (by rfl) ?_ ?_ ?_ ?_
 rotate_left
 ·intro w'
  go_simp
  with_reducible rfl
 rotate_left
 ·simp only [SX]
  rfl
 refine one_ (i := 7) (N := none) (ms 8 255) rfl rfl (one_of HT_.out (by kernel_rfl)) (by decide) (fun K hK => ?_)
 have hs10 : w8.cell? ⟨gb122, 0, none⟩ = some (.int .i64 0) := (blk_cell BK122.out 0).trans rfl
 have hfs10 := blk_frozen BK122.out 0
 have hns10_0 := NB121_122.out
 have hms10_0 := NB122_121.out
 have hs11 : w8.cell? ⟨gb122, 1, none⟩ = some (.slice none 0 0) := (blk_cell BK122.out 1).trans rfl
 have hfs11 := blk_frozen BK122.out 1
 have hns11_0 := NB121_122.out
 have hms11_0 := NB122_121.out
 refine skip_ (w1 := ?_) (by rfl) rfl ?_ ?_
 rotate_left
 ·go_simp
  rfl
 refine hK.out _ _ ⟨((cell_far (p := ⟨gb122, _, none⟩) NB121_122.out _).trans (((cell_far (p := ⟨gb122, _, none⟩) NB121_122.out _).trans (hHeld.1)))), ((cell_far (p := ⟨gb122, _, none⟩) NB121_122.out _).trans (((cell_far (p := ⟨gb122, _, none⟩) NB121_122.out _).trans (hHeld.2))))⟩ (fun hHeld => ?_)
 clear hK K
 refine done_ (done_of HT_.out (by kernel_rfl)) ?_
 try go_wp2
 refine bodyPost_ret (results_cell_row rfl _ _ gb122 25 #[.int .i64 a0_0, .slice Ao9 y126.length co9] (0, 0) _ rfl (by refine blk_put (cs := #[.int .i64 a0_0, .slice none 0 0]) ?_ 1 _ rfl; refine blk_put (cs := #[.int .i64 0, .slice none 0 0]) ?_ 0 _ rfl; exact BK122.out) Try.underlying25 rfl (by kernel_rfl)) rfl ?_
 exact ⟨_, by rfl, by exact Kd.R_mono (Kd.R_far (p := ⟨gb122, 1, none⟩) (Kd.R_far (p := ⟨gb122, 0, none⟩) (Kd.R_types HO128.out BK122.out (by decide)) (fun _ hk => hk.2) (.int .i64 a0_0)) (fun _ hk => hk.2) (.slice Ao9 y126.length co9)) (fun _ hk => trivial), bl2 HB GE121 GE122⟩

end Go.Proofs.Ytbcedkcjodokkaa.F
