-- Printed by wip/px/px.py of this claim's repository (the kit's printer, extended there). Lean checks it.
import Derived.Test.YtgickejeakmenaaFKinds
import Derived.Test.YtgickejeakmenaaFimplArc110
namespace Go.Proofs.Ytgickejeakmenaa.F
open Go.RowKit Go.Proofs.YtgickejeakmenaaW.PrintWords Go.Proofs.YtgickejeakmenaaW.PrintLast Go.Proofs.YtgickejeakmenaaW.PrintMore
attribute [local go_sem] max2_int min2_int max_two min_two max_three min_three max_four min_four   -- for this text's walks alone
set_option linter.unusedVariables false
set_option linter.unusedSimpArgs false

/-! ### impl_Live_now: function 74 -/
mutual
def impl_Live_now.l0 : Nat → List (S41) → Int → Int → Int → List (S41) → List (S113) → Int → List (S41) → Option (Int × (List (S41)))
 | 0, _, _, _, _, _, _, _, _ => none
 | k + 1, x20, x21, x22, x788000, x788001, x788002, x793000, x793001 => if x22 < x21 then (if 0 ≤ x22 then (if x22 < (x20.length : Int) then (impl_Live_now.l1 k x22 true x20 x21 x22 x788002 (x788002.length : Int) 0 x788000 x788001 x788002 x793000 x793001 ((rd_T41 x20 x22).f0) ((rd_T41 x20 x22).f1) ((rd_T41 x20 x22).f2) ((rd_T41 x20 x22).f3) ((rd_T41 x20 x22).f4)) else (none)) else (none)) else ((impl_Arc_110.f x793001).bind fun t793 => (some (x793000, t793)))
def impl_Live_now.l1 : Nat → Int → Bool → List (S41) → Int → Int → List (S113) → Int → Int → Int → List (S41) → List (S113) → Int → List (S41) → Int → Int → Int → Int → Int → Option (Int × (List (S41)))
 | 0, _, _, _, _, _, _, _, _, _, _, _, _, _, _, _, _, _, _ => none
 | k + 1, x4, x6, x20, x21, x22, x28, x29, x30, x788000, x788001, x788002, x793000, x793001, x798000, x798001, x798002, x798003, x798004 => if x30 < x29 then (if 0 ≤ x30 then (if x30 < (x28.length : Int) then (if ((rd_T113 x28 x30).f1) = x4 then (impl_Live_now.j2 k x4 x6 x20 x21 x22 x28 x29 x30 (((rd_T113 x28 x30).f2) == (-1)) x788000 x788001 x788002 x793000 x793001 x798000 x798001 x798002 x798003 x798004 ((rd_T113 x28 x30).f0) ((rd_T113 x28 x30).f1) ((rd_T113 x28 x30).f2)) else (impl_Live_now.j2 k x4 x6 x20 x21 x22 x28 x29 x30 false x788000 x788001 x788002 x793000 x793001 x798000 x798001 x798002 x798003 x798004 ((rd_T113 x28 x30).f0) ((rd_T113 x28 x30).f1) ((rd_T113 x28 x30).f2))) else (none)) else (none)) else (if x6 = true then (if x793001.length < 3518437208883 then (impl_Live_now.l0 k x20 x21 (wrap64 (x22 + 1)) x788000 x788001 x788002 x793000 (x793001 ++ [(⟨x798000, x798001, mn x798002 99, x798003, x798004⟩ : S41)])) else (none)) else (impl_Live_now.l0 k x20 x21 (wrap64 (x22 + 1)) x788000 x788001 x788002 x793000 x793001))
def impl_Live_now.j2 : Nat → Int → Bool → List (S41) → Int → Int → List (S113) → Int → Int → Bool → Int → List (S41) → List (S113) → Int → List (S41) → Int → Int → Int → Int → Int → Int → Int → Int → Option (Int × (List (S41)))
 | 0, _, _, _, _, _, _, _, _, _, _, _, _, _, _, _, _, _, _, _, _, _, _ => none
 | k + 1, x4, x6, x20, x21, x22, x28, x29, x30, x42, x788000, x788001, x788002, x793000, x793001, x798000, x798001, x798002, x798003, x798004, x803000, x803001, x803002 => if x42 = true then (if x803001 = x4 then (impl_Live_now.l1 k x4 false x20 x21 x22 x28 x29 (wrap64 (x30 + 1)) x788000 x788001 x788002 x793000 x793001 x798000 x798001 x798002 x798003 x798004) else (impl_Live_now.l1 k x4 false x20 x21 x22 x28 x29 (wrap64 (x30 + 1)) x788000 x788001 x788002 x793000 x793001 x798000 x798001 x798002 x798003 x798004)) else (if x803001 = x4 then (if x6 = true then (impl_Live_now.l1 k x4 x6 x20 x21 x22 x28 x29 (wrap64 (x30 + 1)) x788000 x788001 x788002 x793000 x793001 x798000 x798001 (wrap64 (x798002 + x803002)) x798003 x798004) else (impl_Live_now.l1 k x4 x6 x20 x21 x22 x28 x29 (wrap64 (x30 + 1)) x788000 x788001 x788002 x793000 x793001 x798000 x798001 x798002 x798003 x798004)) else (impl_Live_now.l1 k x4 x6 x20 x21 x22 x28 x29 (wrap64 (x30 + 1)) x788000 x788001 x788002 x793000 x793001 x798000 x798001 x798002 x798003 x798004))
end
def impl_Live_now.f (k : Nat) (a0_0 : Int) (l0_1 : List (S41)) (l0_2 : List (S113)) : Option (Int × (List (S41))) := if ((l0_1.length : Int) : Int).toNat ≤ 7036874417766 then (impl_Live_now.l0 k l0_1 (l0_1.length : Int) 0 a0_0 l0_1 l0_2 a0_0 (([] : List (S41)))) else (none)
theorem impl_Live_now.mono_l : ∀ k, (∀ y0 y1 y2 y3 y4 y5 y6 y7, LeO (impl_Live_now.l0 k y0 y1 y2 y3 y4 y5 y6 y7) (impl_Live_now.l0 (k + 1) y0 y1 y2 y3 y4 y5 y6 y7)) ∧ (∀ y0 y1 y2 y3 y4 y5 y6 y7 y8 y9 y10 y11 y12 y13 y14 y15 y16 y17, LeO (impl_Live_now.l1 k y0 y1 y2 y3 y4 y5 y6 y7 y8 y9 y10 y11 y12 y13 y14 y15 y16 y17) (impl_Live_now.l1 (k + 1) y0 y1 y2 y3 y4 y5 y6 y7 y8 y9 y10 y11 y12 y13 y14 y15 y16 y17)) ∧ (∀ y0 y1 y2 y3 y4 y5 y6 y7 y8 y9 y10 y11 y12 y13 y14 y15 y16 y17 y18 y19 y20 y21, LeO (impl_Live_now.j2 k y0 y1 y2 y3 y4 y5 y6 y7 y8 y9 y10 y11 y12 y13 y14 y15 y16 y17 y18 y19 y20 y21) (impl_Live_now.j2 (k + 1) y0 y1 y2 y3 y4 y5 y6 y7 y8 y9 y10 y11 y12 y13 y14 y15 y16 y17 y18 y19 y20 y21))
 | 0 => ⟨fun _ _ _ _ _ _ _ _ r h => by simp [impl_Live_now.l0] at h, fun _ _ _ _ _ _ _ _ _ _ _ _ _ _ _ _ _ _ r h => by simp [impl_Live_now.l1] at h, fun _ _ _ _ _ _ _ _ _ _ _ _ _ _ _ _ _ _ _ _ _ _ r h => by simp [impl_Live_now.j2] at h⟩
 | k + 1 => by
  obtain ⟨ih0, ih1, ih2⟩ := impl_Live_now.mono_l k
  refine ⟨?_, ?_, ?_⟩
  ·intro y0 y1 y2 y3 y4 y5 y6 y7
   unfold impl_Live_now.l0
   repeat' first | (with_reducible exact ih1 _ _ _ _ _ _ _ _ _ _ _ _ _ _ _ _ _ _) | (with_reducible exact LeO.refl _) | (with_reducible refine LeO.ite ?_ ?_)
  ·intro y0 y1 y2 y3 y4 y5 y6 y7 y8 y9 y10 y11 y12 y13 y14 y15 y16 y17
   unfold impl_Live_now.l1
   repeat' first | (with_reducible exact ih0 _ _ _ _ _ _ _ _) | (with_reducible exact ih2 _ _ _ _ _ _ _ _ _ _ _ _ _ _ _ _ _ _ _ _ _ _) | (with_reducible exact LeO.refl _) | (with_reducible refine LeO.ite ?_ ?_)
  ·intro y0 y1 y2 y3 y4 y5 y6 y7 y8 y9 y10 y11 y12 y13 y14 y15 y16 y17 y18 y19 y20 y21
   unfold impl_Live_now.j2
   repeat' first | (with_reducible exact ih1 _ _ _ _ _ _ _ _ _ _ _ _ _ _ _ _ _ _) | (with_reducible refine LeO.ite ?_ ?_)
theorem impl_Live_now.mono : ∀ a0 a1 a2 k, LeO (impl_Live_now.f k a0 a1 a2) (impl_Live_now.f (k + 1) a0 a1 a2) := by
 intro a0 a1 a2 k
 obtain ⟨ih0, ih1, ih2⟩ := impl_Live_now.mono_l k
 unfold impl_Live_now.f
 repeat' first | (with_reducible exact ih0 _ _ _ _ _ _ _ _) | (with_reducible exact LeO.refl _) | (with_reducible refine LeO.ite ?_ ?_)
def impl_Live_now.T1 : Bool × List (List Nat × List Nat) := (true, [([], []), ([0], [0]), ([1], [1]), ([], []), ([3], [3]), ([4], [4]), ([5], [5]), ([6], [6]), ([2, 7], [2, 7]), ([], []), ([9, 8, 0, 1, 2, 3, 4, 5, 6, 7, 8, 9], [8, 9])])
def impl_Live_now.B1 : List Nat := [0, 1, 3, 0, 8, 24, 56, 120, 255, 0, 1023]
theorem impl_Live_now.tab1 : rtab .any (opsOf Try.f74 1) = impl_Live_now.T1 := by kernel_rfl
theorem impl_Live_now.bits1 : waitsOk impl_Live_now.T1.2 impl_Live_now.B1 = true := by kernel_rfl
set_option maxHeartbeats 8000000 in
set_option maxRecDepth 100000 in
theorem impl_Live_now.calls (k : Nat) (a0_0 : Int) (A0_1 : Option Addr) (c0_1 : Nat) (l0_1 : List (S41)) (A0_2 : Option Addr) (c0_2 : Nat) (l0_2 : List (S113)) (r1 : Int) (r2 : List (S41)) (w : World) (hr0_1 : Kd.C k41 w A0_1 l0_1.length l0_1) (hc0_1 : l0_1.length ≤ c0_1) (hr0_2 : Kd.C k113 w A0_2 l0_2.length l0_2) (hc0_2 : l0_2.length ≤ c0_2) (h : impl_Live_now.f k a0_0 l0_1 l0_2 = some (r1, r2)) :
  Calls Try.prog 74 #[.agg #[.int .i64 a0_0, .slice A0_1 l0_1.length c0_1, .slice A0_2 l0_2.length c0_2]] w fun e w' => ∃ v1_ : Value, e = .returned (.agg #[.int .i64 r1, v1_]) ∧ Kd.R k41 41 w' w.heap.size (fun _ => True) v1_ r2 ∧ Below w.heap.size w w' := by
 have hu44 := Try.underlying44
 have hu25 := Try.underlying25
 have hu41 := Try.underlying41
 have hu113 := Try.underlying113
 have HR0_1 := ak hr0_1
 have HC0_1 := ak hc0_1
 clear hr0_1 hc0_1
 have HR0_2 := ak hr0_2
 have HC0_2 := ak hc0_2
 clear hr0_2 hc0_2
 have HB := ak (Below.refl w.heap.size w)
 have H : (if ((l0_1.length : Int) : Int).toNat ≤ 7036874417766 then (impl_Live_now.l0 k l0_1 (l0_1.length : Int) 0 a0_0 l0_1 l0_2 a0_0 (([] : List (S41)))) else (none)) = some (r1, r2) := h
 clear h
 by_cases c2 : ((l0_1.length : Int) : Int).toNat ≤ 7036874417766
 rotate_left
 ·rw [if_neg c2] at H
  exact absurd H (by simp)
 rw [if_pos c2] at H
 have c2b0 := eq_true c2
 have c2b1 : decide (((l0_1.length : Int) : Int).toNat ≤ 7036874417766) = true := decide_eq_true c2
 clear c2
 obtain ⟨y789, hy789⟩ : ∃ y_ : List (S41), y_ = (([] : List (S41))) := ⟨_, rfl⟩
 replace H : (impl_Live_now.l0 k l0_1 (l0_1.length : Int) 0 a0_0 l0_1 l0_2 a0_0 y789) = some (r1, r2) := by (rw [hy789]; with_reducible exact H)
 have Ny789 := ak hy789
 clear hy789
 have H' := ak H
 clear H
 go_enter Try.func74, Try.ntmps74
 try go_wp2_with (first | ((with_reducible refine gate_dst (N := 1) rfl ?_); refine box_event ?hg (N := 1) ?hd (cs := #[.int .i64 a0_0, .slice A0_1 l0_1.length c0_1, .slice A0_2 l0_2.length c0_2]) (t := 44) ?hr ?_; (case hd => rfl); (case hg => rfl); (case hr => (go_simp; done)); intro gb787 hg w3 hbox hb; have BK787 := ak (hbox); have GW787 := ak ((by rw [hg]; exact (below_size (bl HB)) : w.heap.size ≤ gb787)); have GE787 := ak ((by rw [hg]; exact (below_size (bl HB)) : w.heap.size ≤ gb787)); replace HB := ak (below_step (bl HB) hb); clear hb hbox hg) | ((with_reducible refine gate_dst (N := 2) rfl ?_); refine box_event ?hg (N := 2) ?hd (cs := #[.int .i64 0, .slice none 0 0]) (t := 25) ?hr ?_; (case hd => rfl); (case hg => rfl); (case hr => (go_simp; done)); intro gb788 hg w4 hbox hb; have BK788 := ak (hbox); have GW788 := ak ((by rw [hg]; exact (below_size (bl1 HB GE787)) : w.heap.size ≤ gb788)); have GE788 := ak ((by rw [hg]; exact (below_size (bl1 HB GE787)) : w.heap.size ≤ gb788)); replace HB := ak (below_step (bl1 HB GE787) hb); have NB787_788 := ak ((by rw [hg]; exact Nat.ne_of_lt (blk_lt (bk BK787)) : gb787 ≠ gb788)); have NB788_787 := ak ((by rw [hg]; exact Nat.ne_of_gt (blk_lt (bk BK787)) : gb788 ≠ gb787)); replace BK787 := ak (blk_below (bk BK787) hb); clear hb hbox hg))
 replace BK787 := ak (blk_drew BK787.out)
 replace BK788 := ak (blk_drew BK788.out)
 replace HB := ak (below_drew1 HB.out)
 refine start_ (n := 11) (S := fun w' => w'.cell? ⟨gb787, 0, none⟩ = some (.int .i64 a0_0) ∧ w'.cell? ⟨gb787, 1, none⟩ = some (.slice A0_1 l0_1.length c0_1) ∧ w'.cell? ⟨gb787, 2, none⟩ = some (.slice A0_2 l0_2.length c0_2)) (ds := []) (ms 11 0) (by kernel_rfl) rfl (by kernel_rfl) ⟨(blk_cell BK787.out 0).trans rfl, (blk_cell BK787.out 1).trans rfl, (blk_cell BK787.out 2).trans rfl⟩ (fun hHeld => ?_); refine with_tabW impl_Live_now.tab1 impl_Live_now.bits1 (fun HT_ HW_ => ?_)
 generalize w4.drew = w5 at BK787 BK788 HB hHeld ⊢
 refine pu 0 9 ?_ (ms 11 1) rfl rfl HT_ (by kernel_rfl) (fun _ _ _ h => h) (by rfl) ?_ ?_ ?_ ?_
 rotate_left
 ·intro w'
  go_simp
  with_reducible rfl
 rotate_left
 ·simp only [SX]
  rfl
 refine pu 1 10 ?_ (ms 11 3) rfl rfl HT_ (by kernel_rfl) (fun _ _ _ h => h) (by rfl) ?_ ?_ ?_ ?_
 rotate_left
 ·intro w'
  go_simp
  with_reducible rfl
 rotate_left
 ·simp only [SX]
  rfl
 refine pu 3 12 ?_ (ms 11 11) rfl rfl HT_ (by kernel_rfl) (fun _ _ _ h => h) (by rfl) ?_ ?_ ?_ ?_
 rotate_left
 ·intro w'
  go_simp
  with_reducible rfl
 rotate_left
 ·simp only [SX]
  rfl
 refine pu 4 13 ?_ (ms 11 27) rfl rfl HT_ (by kernel_rfl) (fun _ _ _ h => h) (by rfl) ?_ ?_ ?_ ?_
 rotate_left
 ·intro w'
  go_simp
  with_reducible rfl
 rotate_left
 ·simp only [SX]
  rfl
 refine tk 2 11 ?_ (ms 11 31) rfl rfl HT_ HW_ (by kernel_rfl) (fun _ _ _ h => h) (by rfl) ?_ hHeld ?_ ?_ ?_
 rotate_left
 ·rintro w' ⟨s0, s1, s2⟩
  go_simp
  with_reducible rfl
 rotate_left
 ·simp only [SX]
  rfl
 refine tk 5 14 ?_ (ms 11 63) rfl rfl HT_ HW_ (by kernel_rfl) (fun _ _ _ h => h) (by rfl) ?_ hHeld ?_ ?_ ?_
 rotate_left
 ·rintro w' ⟨s0, s1, s2⟩
  go_simp
  with_reducible rfl
 rotate_left
 ·simp only [SX]
  rfl
 refine pu 6 15 ?_ (ms 11 127) rfl rfl HT_ (by kernel_rfl) (fun _ _ _ h => h) (by rfl) ?_ ?_ ?_ ?_
 rotate_left
 ·intro w'
  go_simp
  with_reducible rfl
 rotate_left
 ·simp only [SX]
  rfl
 refine join_ (σ := Value × Nat) 1 (ms 11 1023) (fun s_ => [(16, s_.1), (3, .pointer (some ⟨s_.2, 0, none⟩)), (17, .agg #[.int .i64 a0_0, s_.1])]) (fun s_ w' => (w'.cell? ⟨gb787, 0, none⟩ = some (.int .i64 a0_0) ∧ w'.cell? ⟨gb787, 1, none⟩ = some (.slice A0_1 l0_1.length c0_1) ∧ w'.cell? ⟨gb787, 2, none⟩ = some (.slice A0_2 l0_2.length c0_2)) ∧ (Kd.R k41 41 w' w.heap.size (fun _ => True) s_.1 y789) ∧ (w'.heap[gb787]? = some (.cells #[.int .i64 a0_0, .slice A0_1 l0_1.length c0_1, .slice A0_2 l0_2.length c0_2] 44 (0, 0))) ∧ (w'.heap[gb788]? = some (.cells #[.int .i64 0, .slice none 0 0] 25 (0, 0))) ∧ (w'.heap[s_.2]? = some (.cells #[.int .i64 0, .slice none 0 0] 25 (0, 0))) ∧ (w.heap.size ≤ s_.2) ∧ (w.heap.size ≤ s_.2) ∧ (gb787 ≠ s_.2) ∧ (s_.2 ≠ gb787) ∧ (gb788 ≠ s_.2) ∧ (s_.2 ≠ gb788) ∧ (Below w.heap.size w w')) ?_ ?_
 rotate_left
 ·intro hCont
  refine two_ (i := 7) (j := 9) (Ni := some 16) (Nj := some 3) (ms 11 255) (ms 11 639) rfl rfl rfl rfl (two_of HT_.out (by kernel_rfl)) (by decide) (by decide) (fun K hK => ?_) (fun K hK => ?_)
  ·skip
   refine Kd.R_make0_step k41 _ 41 (by rfl) (N := 16) rfl 23 _ _ rfl (l0_1.length : Int) rfl rfl Try.underlying23 (.agg #[(.int .i64 0), (.int .i64 0), (.int .i64 0), (.int .i64 0), (.int .i64 0)]) 40 info41 (by decide) (ok := fun _ => True) trivial (by omega) (Nat.le_trans (Nat.mul_le_mul_right _ (oT (by (with_reducible assumption)) : (l0_1.length : Int).toNat ≤ 7036874417766)) (by omega)) (Below.refl _ _) (Nat.le_refl _) ?_
   intro v790 w6 ho7 hb hg_ hnew_
   clear hg_ hnew_
   (rw [← Ny789.out] at ho7)
   have HO791 := ak (Kd.R_lower ho7 (below_size (bl2 HB GE787 GE788)))
   replace BK787 := ak (blk_below (bk BK787) hb)
   replace BK788 := ak (blk_below (bk BK788) hb)
   replace HB := ak (below_step (bl2 HB GE787 GE788) hb)
   clear hb ho7
   obtain ⟨Ao8, co8, eo8⟩ := Kd.R_slice HO791.out
   (subst eo8)
   refine hK.out _ _ ⟨(blk_cell BK787.out 0).trans rfl, (blk_cell BK787.out 1).trans rfl, (blk_cell BK787.out 2).trans rfl⟩ (fun hHeld => ?_)
   clear hK K
   refine norm_ (a' := ?_) ?_ ?_
   rotate_left
   ·show Act.put _ (some 16) _ = _
    simp only [SX]
    rfl
   refine pu 8 17 ?_ (ms 11 511) rfl rfl HT_ (by kernel_rfl) (fun _ _ _ h => h) (by rfl) ?_ ?_ ?_ ?_
   rotate_left
   ·intro w'
    go_simp
    with_reducible rfl
   rotate_left
   ·simp only [SX]
    rfl
   refine one_ (i := 9) (N := some 3) (ms 11 1023) rfl rfl (one_of HT_.out (by kernel_rfl)) (by decide) (fun K hK => ?_)
   refine box_step ?hg (N := 3) ?hd (cs := #[.int .i64 0, .slice none 0 0]) (t := 25) ?hr ?_; (case hd => rfl); (case hg => rfl); (case hr => (go_simp; done))
   intro gb792 hg w9 hbox hb
   replace HO791 := ak (Kd.R_below (rk HO791) hb)
   have BK792 := ak (hbox)
   have GW792 := ak ((by rw [hg]; exact (below_size (bl2 HB GE787 GE788)) : w.heap.size ≤ gb792))
   have GE792 := ak ((by rw [hg]; exact (below_size (bl2 HB GE787 GE788)) : w.heap.size ≤ gb792))
   replace HB := ak (below_step (bl2 HB GE787 GE788) hb)
   have NB787_792 := ak ((by rw [hg]; exact Nat.ne_of_lt (blk_lt (bk BK787)) : gb787 ≠ gb792))
   have NB792_787 := ak ((by rw [hg]; exact Nat.ne_of_gt (blk_lt (bk BK787)) : gb792 ≠ gb787))
   replace BK787 := ak (blk_below (bk BK787) hb)
   have NB788_792 := ak ((by rw [hg]; exact Nat.ne_of_lt (blk_lt (bk BK788)) : gb788 ≠ gb792))
   have NB792_788 := ak ((by rw [hg]; exact Nat.ne_of_gt (blk_lt (bk BK788)) : gb792 ≠ gb788))
   replace BK788 := ak (blk_below (bk BK788) hb)
   clear hb hbox hg
   refine hK.out _ _ ⟨(blk_cell BK787.out 0).trans rfl, (blk_cell BK787.out 1).trans rfl, (blk_cell BK787.out 2).trans rfl⟩ (fun hHeld => ?_)
   clear hK K
   refine norm_ (a' := ?_) ?_ ?_
   rotate_left
   ·show Act.put _ (some 3) _ = _
    simp only [SX]
    rfl
   exact norm_ (by simp only [putAll, Act.put, List.setIfInBounds_toArray, List.set_cons_zero, List.set_cons_succ]) (hCont (.slice Ao8 y789.length co8, gb792) _ ⟨hHeld, (rk HO791), (bk BK787), (bk BK788), (bk BK792), GW792.out, GE792.out, NB787_792.out, NB792_787.out, NB788_792.out, NB792_788.out, (bl3 HB GE787 GE788 GE792)⟩)
  skip
  refine box_step ?hg (N := 3) ?hd (cs := #[.int .i64 0, .slice none 0 0]) (t := 25) ?hr ?_; (case hd => rfl); (case hg => rfl); (case hr => (go_simp; done))
  intro gb792 hg w6 hbox hb
  have BK792 := ak (hbox)
  have GW792 := ak ((by rw [hg]; exact (below_size (bl2 HB GE787 GE788)) : w.heap.size ≤ gb792))
  have GE792 := ak ((by rw [hg]; exact (below_size (bl2 HB GE787 GE788)) : w.heap.size ≤ gb792))
  replace HB := ak (below_step (bl2 HB GE787 GE788) hb)
  have NB787_792 := ak ((by rw [hg]; exact Nat.ne_of_lt (blk_lt (bk BK787)) : gb787 ≠ gb792))
  have NB792_787 := ak ((by rw [hg]; exact Nat.ne_of_gt (blk_lt (bk BK787)) : gb792 ≠ gb787))
  replace BK787 := ak (blk_below (bk BK787) hb)
  have NB788_792 := ak ((by rw [hg]; exact Nat.ne_of_lt (blk_lt (bk BK788)) : gb788 ≠ gb792))
  have NB792_788 := ak ((by rw [hg]; exact Nat.ne_of_gt (blk_lt (bk BK788)) : gb792 ≠ gb788))
  replace BK788 := ak (blk_below (bk BK788) hb)
  clear hb hbox hg
  refine hK.out _ _ ⟨(blk_cell BK787.out 0).trans rfl, (blk_cell BK787.out 1).trans rfl, (blk_cell BK787.out 2).trans rfl⟩ (fun hHeld => ?_)
  clear hK K
  refine norm_ (a' := ?_) ?_ ?_
  rotate_left
  ·show Act.put _ (some 3) _ = _
   simp only [SX]
   rfl
  refine one_ (i := 7) (N := some 16) (ms 11 767) rfl rfl (one_of HT_.out (by kernel_rfl)) (by decide) (fun K hK => ?_)
  refine Kd.R_make0_step k41 _ 41 (by rfl) (N := 16) rfl 23 _ _ rfl (l0_1.length : Int) rfl rfl Try.underlying23 (.agg #[(.int .i64 0), (.int .i64 0), (.int .i64 0), (.int .i64 0), (.int .i64 0)]) 40 info41 (by decide) (ok := fun _ => True) trivial (by omega) (Nat.le_trans (Nat.mul_le_mul_right _ (oT (by (with_reducible assumption)) : (l0_1.length : Int).toNat ≤ 7036874417766)) (by omega)) (Below.refl _ _) (Nat.le_refl _) ?_
  intro v790 w7 ho8 hb hg_ hnew_
  clear hg_ hnew_
  (rw [← Ny789.out] at ho8)
  have HO791 := ak (Kd.R_lower ho8 (below_size (bl3 HB GE787 GE788 GE792)))
  replace BK787 := ak (blk_below (bk BK787) hb)
  replace BK788 := ak (blk_below (bk BK788) hb)
  replace BK792 := ak (blk_below (bk BK792) hb)
  replace HB := ak (below_step (bl3 HB GE787 GE788 GE792) hb)
  clear hb ho8
  obtain ⟨Ao9, co9, eo9⟩ := Kd.R_slice HO791.out
  (subst eo9)
  refine hK.out _ _ ⟨(blk_cell BK787.out 0).trans rfl, (blk_cell BK787.out 1).trans rfl, (blk_cell BK787.out 2).trans rfl⟩ (fun hHeld => ?_)
  clear hK K
  refine norm_ (a' := ?_) ?_ ?_
  rotate_left
  ·show Act.put _ (some 16) _ = _
   simp only [SX]
   rfl
  refine pu 8 17 ?_ (ms 11 1023) rfl rfl HT_ (by kernel_rfl) (fun _ _ _ h => h) (by rfl) ?_ ?_ ?_ ?_
  rotate_left
  ·intro w'
   go_simp
   with_reducible rfl
  rotate_left
  ·simp only [SX]
   rfl
  exact norm_ (by simp only [putAll, Act.put, List.setIfInBounds_toArray, List.set_cons_zero, List.set_cons_succ]) (hCont (.slice Ao9 y789.length co9, gb792) _ ⟨hHeld, (rk HO791), (bk BK787), (bk BK788), (bk BK792), GW792.out, GE792.out, NB787_792.out, NB792_787.out, NB788_792.out, NB792_788.out, (bl3 HB GE787 GE788 GE792)⟩)
 rintro ⟨v790, gb792⟩ w10 ⟨hS_, h0_, h1_, h2_, h3_, h4_, h5_, h6_, h7_, h8_, h9_, h10_⟩
 have HO791 : Aside0 (Kd.R k41 41 w10 w.heap.size (fun _ => True) v790 y789) := ⟨h0_⟩
 replace BK787 : Aside0 (w10.heap[gb787]? = some (.cells #[.int .i64 a0_0, .slice A0_1 l0_1.length c0_1, .slice A0_2 l0_2.length c0_2] 44 (0, 0))) := ⟨h1_⟩
 replace BK788 : Aside0 (w10.heap[gb788]? = some (.cells #[.int .i64 0, .slice none 0 0] 25 (0, 0))) := ⟨h2_⟩
 have BK792 : Aside0 (w10.heap[gb792]? = some (.cells #[.int .i64 0, .slice none 0 0] 25 (0, 0))) := ⟨h3_⟩
 have GW792 : Aside0 (w.heap.size ≤ gb792) := ⟨h4_⟩
 have GE792 : Aside0 (w.heap.size ≤ gb792) := ⟨h5_⟩
 have NB787_792 : Aside0 (gb787 ≠ gb792) := ⟨h6_⟩
 have NB792_787 : Aside0 (gb792 ≠ gb787) := ⟨h7_⟩
 have NB788_792 : Aside0 (gb788 ≠ gb792) := ⟨h8_⟩
 have NB792_788 : Aside0 (gb792 ≠ gb788) := ⟨h9_⟩
 replace HB : Aside0 (Below w.heap.size w w10) := ⟨h10_⟩
 clear h0_ h1_ h2_ h3_ h4_ h5_ h6_ h7_ h8_ h9_ h10_
 have hHeld : w10.cell? ⟨gb787, 0, none⟩ = some (.int .i64 a0_0) ∧ w10.cell? ⟨gb787, 1, none⟩ = some (.slice A0_1 l0_1.length c0_1) ∧ w10.cell? ⟨gb787, 2, none⟩ = some (.slice A0_2 l0_2.length c0_2) := hS_
 obtain ⟨Ao11, co11, eo11⟩ := Kd.R_slice HO791.out
 (subst eo11)
 refine norm_ (a' := ?_) ?_ ?_
 rotate_left
 ·simp only [putAll, Act.put, List.setIfInBounds_toArray, List.set_cons_zero, List.set_cons_succ]
  rfl
 refine one_ (i := 10) (N := none) (ms 11 2047) rfl rfl (one_of HT_.out (by kernel_rfl)) (by decide) (fun K hK => ?_)
 have hs12 : w10.cell? ⟨gb792, 0, none⟩ = some (.int .i64 0) := (blk_cell BK792.out 0).trans rfl
 have hfs12 := blk_frozen BK792.out 0
 have hns12_0 := NB787_792.out
 have hns12_1 := NB788_792.out
 have hms12_0 := NB792_787.out
 have hms12_1 := NB792_788.out
 have hs13 : w10.cell? ⟨gb792, 1, none⟩ = some (.slice none 0 0) := (blk_cell BK792.out 1).trans rfl
 have hfs13 := blk_frozen BK792.out 1
 have hns13_0 := NB787_792.out
 have hns13_1 := NB788_792.out
 have hms13_0 := NB792_787.out
 have hms13_1 := NB792_788.out
 refine skip_ (w1 := ?_) (by rfl) rfl ?_ ?_
 rotate_left
 ·go_simp
  rfl
 refine hK.out _ _ ⟨((cell_far (p := ⟨gb792, _, none⟩) NB787_792.out _).trans (((cell_far (p := ⟨gb792, _, none⟩) NB787_792.out _).trans (hHeld.1)))), ((cell_far (p := ⟨gb792, _, none⟩) NB787_792.out _).trans (((cell_far (p := ⟨gb792, _, none⟩) NB787_792.out _).trans (hHeld.2.1)))), ((cell_far (p := ⟨gb792, _, none⟩) NB787_792.out _).trans (((cell_far (p := ⟨gb792, _, none⟩) NB787_792.out _).trans (hHeld.2.2))))⟩ (fun hHeld => ?_)
 clear hK K
 refine done_ (done_of HT_.out (by kernel_rfl)) ?_
 have hnb14 := NB787_788.out
 have hnc14 := NB788_787.out
 have hnb15 := NB787_792.out
 have hnc15 := NB792_787.out
 have hcz16_0 := bc w10 BK787 0 (.int .i64 a0_0) rfl
 have hcz16_1 := bc w10 BK787 1 (.slice A0_1 l0_1.length c0_1) rfl
 have hcz16_2 := bc w10 BK787 2 (.slice A0_2 l0_2.length c0_2) rfl
 have hfz16_0 := fz BK787 0
 have hfz16_1 := fz BK787 1
 have hfz16_2 := fz BK787 2
 try go_wp2
 go_loopg [22] k (fun kq v22 w' => ∃ (x22_1 : Int) (x793001_1 : List (S41)) (u793001 : Value), v22 = .int .i64 x22_1 ∧ Aside0 (impl_Live_now.l0 kq l0_1 (l0_1.length : Int) x22_1 a0_0 l0_1 l0_2 a0_0 x793001_1 = some (r1, r2)) ∧ Aside0 (kq ≤ k) ∧ Aside0 (Kd.R k41 41 w' w.heap.size (fun _ => True) u793001 x793001_1) ∧ Aside0 (w'.heap[gb787]? = some (.cells #[.int .i64 a0_0, (.slice A0_1 l0_1.length c0_1), (.slice A0_2 l0_2.length c0_2)] 44 (0, 0))) ∧ Aside0 (w'.heap[gb788]? = some (.cells #[.int .i64 0, (.slice none 0 0)] 25 (0, 0))) ∧ Aside0 (w'.heap[gb792]? = some (.cells #[.int .i64 a0_0, u793001] 25 (0, 0))) ∧ Aside0 (Below w.heap.size w w'))
 case atStart => exact ⟨(0), (y789), (.slice Ao11 y789.length co11), (by rfl), H', ⟨Nat.le_refl _⟩, ⟨by exact Kd.R_mono (Kd.R_far (p := ⟨gb792, 1, none⟩) (Kd.R_far (p := ⟨gb792, 0, none⟩) (Kd.R_types HO791.out BK792.out (by decide)) (fun _ hk => hk.2) (.int .i64 a0_0)) (fun _ hk => hk.2) (.slice Ao11 y789.length co11)) (fun _ hk => trivial)⟩, ⟨by refine blk_far ?_ NB787_792.out _; refine blk_far ?_ NB787_792.out _; exact BK787.out⟩, ⟨by refine blk_far ?_ NB788_792.out _; refine blk_far ?_ NB788_792.out _; exact BK788.out⟩, ⟨by refine blk_put (cs := #[.int .i64 a0_0, .slice none 0 0]) ?_ 1 _ rfl; refine blk_put (cs := #[.int .i64 0, .slice none 0 0]) ?_ 0 _ rfl; exact BK792.out⟩, ⟨bl3 HB GE787 GE788 GE792⟩⟩
 clear H'
 try clear c1
 try clear c2
 try clear c2b0
 try clear c2b1
 try clear p2
 try clear c7
 try clear c14
 try clear c15
 try clear hcz16_0
 try clear hcz16_1
 try clear hcz16_2
 try clear hfz16_0
 try clear hfz16_1
 try clear hfz16_2
 obtain ⟨x22_1, x793001_1, u793001, rfl, HA, HK1, HO_793001, BK787, BK788, BK792, HB⟩ := hrel
 cases gk with
 | zero => exact absurd HA.out (by simp [impl_Live_now.l0])
 | succ k1 =>
  have H := HA.out
  clear HA
  simp only [impl_Live_now.l0] at H
  by_cases c17 : x22_1 < (l0_1.length : Int)
  rotate_left
  ·rw [if_neg c17] at H
   have c17b0 : decide (x22_1 < (l0_1.length : Int)) = false := decide_eq_false c17
   clear c17
   replace H := Option.bind_eq_some_iff.mp H
   obtain ⟨t793, A990, H⟩ := H
   have A99 := ak A990
   clear A990
   simp only [Option.some.injEq, Prod.mk.injEq] at H
   obtain ⟨rfl, rfl⟩ := H
   have hnb100 := NB792_787.out
   have hnc100 := NB787_792.out
   have hnb101 := NB792_788.out
   have hnc101 := NB788_792.out
   have hcz102_0 := bc wr BK792 0 (.int .i64 a0_0) rfl
   have hcz102_1 := bc wr BK792 1 (u793001) rfl
   have hfz102_0 := fz BK792 0
   have hfz102_1 := fz BK792 1
   obtain ⟨Ao103, co103, eo103⟩ := Kd.R_slice HO_793001.out
   subst eo103
   go_wp2_with (((with_reducible refine gate_callee (f := 110) rfl ?_); refine goesL_ (some 71) rfl rfl Try.func110 (by kernel_rfl) rfl #[.slice Ao103 x793001_1.length co103] rfl (by (try simp only [List.map_toArray, List.map_cons, List.map_nil]); rfl) ?_; (with_reducible refine (impl_Arc_110.calls (fun k_ => some k_ = (.slice Ao103 x793001_1.length co103 : Value).ownBlock) (.slice Ao103 x793001_1.length co103) x793001_1 t793 w _ ?side1 ?side2 A99.out).mono ?_); (case side1 => repeat ((with_reducible exact HB.out))); (case side2 => exact Kd.R_tight rfl HO_793001.out); rintro e w104 ⟨v794, rfl, ho0, hb, hkp⟩; refine ⟨_, rfl, ?_⟩; have n0_ := ak (blk_kept (bk BK787) hkp (fun hs_ => (fun e_ => (Kd.R_ne HO_793001.out BK787.out (by decide)) e_) hs_)); have n1_ := ak (blk_kept (bk BK788) hkp (fun hs_ => (fun e_ => (Kd.R_ne HO_793001.out BK788.out (by decide)) e_) hs_)); have n2_ := ak (blk_kept (bk BK792) hkp (fun hs_ => (fun e_ => (Kd.R_ne HO_793001.out BK792.out (by decide)) e_) hs_)); have n3_ := ak (Kd.R_mono (ok' := fun k_ => True) ho0 (fun k_ hk_ => trivial)); have n4_ := ak (hb); clear BK787; clear BK788; clear BK792; clear HB; clear HO_793001; have BK787 := n0_; have BK788 := n1_; have BK792 := n2_; have HO795 := n3_; have HB := n4_; clear n0_ n1_ n2_ n3_ n4_; (try clear hb); (try clear hkp); (try clear ho0); obtain ⟨Ao105, co105, eo105⟩ := Kd.R_slice HO795.out; subst eo105; have hcz106_0 := bc w104 BK792 0 (.int .i64 a0_0) rfl; have hcz106_1 := bc w104 BK792 1 (.slice Ao103 x793001_1.length co103) rfl; have hfz106_0 := fz BK792 0; have hfz106_1 := fz BK792 1; have hnb107 := NB788_787.out; have hnc107 := NB787_788.out; have hcz108_0 := bc w104 BK788 0 (.int .i64 0) rfl; have hcz108_1 := bc w104 BK788 1 (.slice none 0 0) rfl; have hfz108_0 := fz BK788 0; have hfz108_1 := fz BK788 1))
   refine bodyPost_ret (results_cell_row rfl _ _ gb788 25 #[.int .i64 a0_0, .slice Ao105 t793.length co105] (0, 0) _ rfl (by refine blk_put (cs := #[.int .i64 a0_0, .slice none 0 0]) ?_ 1 _ rfl; refine blk_put (cs := #[.int .i64 0, .slice none 0 0]) ?_ 0 _ rfl; refine blk_far ?_ NB788_792.out _; exact BK788.out) Try.underlying25 rfl (by kernel_rfl)) rfl ?_
   exact ⟨_, by rfl, by exact Kd.R_mono (Kd.R_far (p := ⟨gb788, 1, none⟩) (Kd.R_far (p := ⟨gb788, 0, none⟩) (Kd.R_far (p := ⟨gb792, 1, none⟩) (Kd.R_types (Kd.R_types HO795.out BK792.out (by decide)) BK788.out (by decide)) (fun _ hk => hk.1.2) (.slice Ao105 t793.length co105)) (fun _ hk => hk.2) (.int .i64 a0_0)) (fun _ hk => hk.2) (.slice Ao105 t793.length co105)) (fun _ hk => trivial), bl3 HB GE787 GE788 GE792⟩
  rw [if_pos c17] at H
  have c17b0 : decide (x22_1 < (l0_1.length : Int)) = true := decide_eq_true c17
  clear c17
  by_cases c18 : 0 ≤ x22_1
  rotate_left
  ·rw [if_neg c18] at H
   exact absurd H (by simp)
  rw [if_pos c18] at H
  have c18b0 : decide (0 ≤ x22_1) = true := decide_eq_true c18
  clear c18
  by_cases c19 : x22_1 < (l0_1.length : Int)
  rotate_left
  ·rw [if_neg c19] at H
   exact absurd H (by simp)
  rw [if_pos c19] at H
  have c19b0 : decide (x22_1 < (l0_1.length : Int)) = true := decide_eq_true c19
  clear c19
  have H' := ak H
  clear H
  have p796 : 0 ≤ (x22_1 : Int) := oT (by (with_reducible assumption))
  have q796 : x22_1 < (l0_1.length : Int) := oT (by (with_reducible assumption))
  obtain ⟨ad796, e796, hx796_0, hx796_1, hx796_2, hx796_3, hx796_4⟩ := at_T41 HR0_1.out x22_1 p796 q796
  cases e796
  replace hx796_0 := hcb HB.out hx796_0
  replace hx796_1 := hcb HB.out hx796_1
  replace hx796_2 := hcb HB.out hx796_2
  replace hx796_3 := hcb HB.out hx796_3
  replace hx796_4 := hcb HB.out hx796_4
  replace p796 := eq_true p796
  replace q796 := eq_true q796
  go_wp2_with (((with_reducible refine gate_dst (N := 5) rfl ?_); refine box_event ?hg (N := 5) ?hd (cs := #[.int .i64 0, .int .i64 0, .int .i64 0, .int .i64 0, .int .i64 0]) (t := 41) ?hr ?_; (case hd => rfl); (case hg => rfl); (case hr => (go_simp; done)); intro gb797 hg w20 hbox hb; replace HO_793001 := ak (Kd.R_below (Kd.R_elderB (rk HO_793001) gb797 (Nat.le_of_eq hg.symm)) hb); have BK797 := ak (hbox); have GW797 := ak ((by rw [hg]; exact (below_size (bl3 HB GE787 GE788 GE792)) : w.heap.size ≤ gb797)); have GE797 := ak ((by rw [hg]; exact (below_size (bl3 HB GE787 GE788 GE792)) : w.heap.size ≤ gb797)); replace HB := ak (below_step (bl3 HB GE787 GE788 GE792) hb); have NB787_797 := ak ((by rw [hg]; exact Nat.ne_of_lt (blk_lt (bk BK787)) : gb787 ≠ gb797)); have NB797_787 := ak ((by rw [hg]; exact Nat.ne_of_gt (blk_lt (bk BK787)) : gb797 ≠ gb787)); replace BK787 := ak (blk_below (bk BK787) hb); have NB788_797 := ak ((by rw [hg]; exact Nat.ne_of_lt (blk_lt (bk BK788)) : gb788 ≠ gb797)); have NB797_788 := ak ((by rw [hg]; exact Nat.ne_of_gt (blk_lt (bk BK788)) : gb797 ≠ gb788)); replace BK788 := ak (blk_below (bk BK788) hb); have NB792_797 := ak ((by rw [hg]; exact Nat.ne_of_lt (blk_lt (bk BK792)) : gb792 ≠ gb797)); have NB797_792 := ak ((by rw [hg]; exact Nat.ne_of_gt (blk_lt (bk BK792)) : gb797 ≠ gb792)); replace BK792 := ak (blk_below (bk BK792) hb); clear hb hbox hg; have hnb21 := NB797_787.out; have hnc21 := NB787_797.out; have hnb22 := NB797_788.out; have hnc22 := NB788_797.out; have hnb23 := NB797_792.out; have hnc23 := NB792_797.out; have hcz24_0 := bc w20 BK797 0 (.int .i64 0) rfl; have hcz24_1 := bc w20 BK797 1 (.int .i64 0) rfl; have hcz24_2 := bc w20 BK797 2 (.int .i64 0) rfl; have hcz24_3 := bc w20 BK797 3 (.int .i64 0) rfl; have hcz24_4 := bc w20 BK797 4 (.int .i64 0) rfl; have hfz24_0 := fz BK797 0; have hfz24_1 := fz BK797 1; have hfz24_2 := fz BK797 2; have hfz24_3 := fz BK797 3; have hfz24_4 := fz BK797 4; have hnb25 := NB787_788.out; have hnc25 := NB788_787.out; have hnb26 := NB787_792.out; have hnc26 := NB792_787.out; have hcz27_0 := bc w20 BK787 0 (.int .i64 a0_0) rfl; have hcz27_1 := bc w20 BK787 1 (.slice (some ad796) l0_1.length c0_1) rfl; have hcz27_2 := bc w20 BK787 2 (.slice A0_2 l0_2.length c0_2) rfl; have hfz27_0 := fz BK787 0; have hfz27_1 := fz BK787 1; have hfz27_2 := fz BK787 2))
  go_loopg [6, 30] k1 (fun kq v6 v30 w' => ∃ (x6_2 : Bool) (x30_2 : Int) (x798002_2 : Int), v6 = .bool x6_2 ∧ v30 = .int .i64 x30_2 ∧ Aside0 (impl_Live_now.l1 kq x22_1 x6_2 l0_1 (l0_1.length : Int) x22_1 l0_2 (l0_2.length : Int) x30_2 a0_0 l0_1 l0_2 a0_0 x793001_1 ((rd_T41 l0_1 x22_1).f0) ((rd_T41 l0_1 x22_1).f1) x798002_2 ((rd_T41 l0_1 x22_1).f3) ((rd_T41 l0_1 x22_1).f4) = some (r1, r2)) ∧ Aside0 (kq ≤ k1) ∧ Aside0 (Kd.R k41 41 w' w.heap.size (fun k_ => k_ ≠ gb797) u793001 x793001_1) ∧ Aside0 (w'.heap[gb787]? = some (.cells #[.int .i64 a0_0, (.slice (some ad796) l0_1.length c0_1), (.slice A0_2 l0_2.length c0_2)] 44 (0, 0))) ∧ Aside0 (w'.heap[gb788]? = some (.cells #[.int .i64 0, (.slice none 0 0)] 25 (0, 0))) ∧ Aside0 (w'.heap[gb792]? = some (.cells #[.int .i64 a0_0, u793001] 25 (0, 0))) ∧ Aside0 (w'.heap[gb797]? = some (.cells #[.int .i64 ((rd_T41 l0_1 x22_1).f0), .int .i64 ((rd_T41 l0_1 x22_1).f1), .int .i64 x798002_2, .int .i64 ((rd_T41 l0_1 x22_1).f3), .int .i64 ((rd_T41 l0_1 x22_1).f4)] 41 (0, 0))) ∧ Aside0 (Below w.heap.size w w'))
  case atStart => exact ⟨(true), (0), ((rd_T41 l0_1 x22_1).f2), (by rfl), (by rfl), H', ⟨Nat.le_refl _⟩, ⟨by exact Kd.R_mono (Kd.R_far (p := ⟨gb797, 4, none⟩) (Kd.R_far (p := ⟨gb797, 3, none⟩) (Kd.R_far (p := ⟨gb797, 2, none⟩) (Kd.R_far (p := ⟨gb797, 1, none⟩) (Kd.R_far (p := ⟨gb797, 0, none⟩) (Kd.R_mono HO_793001.out (fun k_ hk => (⟨hk, hk.2⟩ : _ ∧ k_ ≠ gb797))) (fun _ hk => hk.2) (.int .i64 ((rd_T41 l0_1 x22_1).f0))) (fun _ hk => hk.2) (.int .i64 ((rd_T41 l0_1 x22_1).f1))) (fun _ hk => hk.2) (.int .i64 ((rd_T41 l0_1 x22_1).f2))) (fun _ hk => hk.2) (.int .i64 ((rd_T41 l0_1 x22_1).f3))) (fun _ hk => hk.2) (.int .i64 ((rd_T41 l0_1 x22_1).f4))) (fun _ hk => hk.1.2)⟩, ⟨by refine blk_far ?_ NB787_797.out _; refine blk_far ?_ NB787_797.out _; refine blk_far ?_ NB787_797.out _; refine blk_far ?_ NB787_797.out _; refine blk_far ?_ NB787_797.out _; exact BK787.out⟩, ⟨by refine blk_far ?_ NB788_797.out _; refine blk_far ?_ NB788_797.out _; refine blk_far ?_ NB788_797.out _; refine blk_far ?_ NB788_797.out _; refine blk_far ?_ NB788_797.out _; exact BK788.out⟩, ⟨by refine blk_far ?_ NB792_797.out _; refine blk_far ?_ NB792_797.out _; refine blk_far ?_ NB792_797.out _; refine blk_far ?_ NB792_797.out _; refine blk_far ?_ NB792_797.out _; exact BK792.out⟩, ⟨by refine blk_put (cs := #[.int .i64 ((rd_T41 l0_1 x22_1).f0), .int .i64 ((rd_T41 l0_1 x22_1).f1), .int .i64 ((rd_T41 l0_1 x22_1).f2), .int .i64 ((rd_T41 l0_1 x22_1).f3), .int .i64 0]) ?_ 4 _ rfl; refine blk_put (cs := #[.int .i64 ((rd_T41 l0_1 x22_1).f0), .int .i64 ((rd_T41 l0_1 x22_1).f1), .int .i64 ((rd_T41 l0_1 x22_1).f2), .int .i64 0, .int .i64 0]) ?_ 3 _ rfl; refine blk_put (cs := #[.int .i64 ((rd_T41 l0_1 x22_1).f0), .int .i64 ((rd_T41 l0_1 x22_1).f1), .int .i64 0, .int .i64 0, .int .i64 0]) ?_ 2 _ rfl; refine blk_put (cs := #[.int .i64 ((rd_T41 l0_1 x22_1).f0), .int .i64 0, .int .i64 0, .int .i64 0, .int .i64 0]) ?_ 1 _ rfl; refine blk_put (cs := #[.int .i64 0, .int .i64 0, .int .i64 0, .int .i64 0, .int .i64 0]) ?_ 0 _ rfl; exact BK797.out⟩, ⟨bl4 HB GE787 GE788 GE792 GE797⟩⟩
  clear H'
  try clear c1
  try clear c2
  try clear c2b0
  try clear c2b1
  try clear p2
  try clear c7
  try clear p7
  try clear q7
  try clear hx7
  try clear c14
  try clear c15
  try clear c17
  try clear c17b0
  try clear c18
  try clear c18b0
  try clear c19
  try clear c19b0
  try clear c21
  try clear c22
  try clear c23
  try clear c25
  try clear c26
  try clear hcz16_0
  try clear hcz16_1
  try clear hcz16_2
  try clear hcz24_0
  try clear hcz24_1
  try clear hcz24_2
  try clear hcz24_3
  try clear hcz24_4
  try clear hcz27_0
  try clear hcz27_1
  try clear hcz27_2
  try clear hfz16_0
  try clear hfz16_1
  try clear hfz16_2
  try clear hfz24_0
  try clear hfz24_1
  try clear hfz24_2
  try clear hfz24_3
  try clear hfz24_4
  try clear hfz27_0
  try clear hfz27_1
  try clear hfz27_2
  try clear hx796_0
  try clear hx796_1
  try clear hx796_2
  try clear hx796_3
  try clear hx796_4
  try clear p2
  try clear p796
  try clear q796
  obtain ⟨x6_2, x30_2, x798002_2, rfl, rfl, HA, HK2, HO_793001, BK787, BK788, BK792, BK797, HB⟩ := hrel
  cases gk with
  | zero => exact absurd HA.out (by simp [impl_Live_now.l1])
  | succ k2 =>
   have H := HA.out
   clear HA
   simp only [impl_Live_now.l1] at H
   by_cases c28 : x30_2 < (l0_2.length : Int)
   rotate_left
   ·rw [if_neg c28] at H
    have c28b0 : decide (x30_2 < (l0_2.length : Int)) = false := decide_eq_false c28
    clear c28
    obtain ⟨ji82, hji82⟩ : ∃ j_ : Int, (mn x798002_2 99) = j_ := ⟨_, rfl⟩
    replace H : (if x6_2 = true then (if x793001_1.length < 3518437208883 then (impl_Live_now.l0 k2 l0_1 (l0_1.length : Int) (wrap64 (x22_1 + 1)) a0_0 l0_1 l0_2 a0_0 (x793001_1 ++ [(⟨((rd_T41 l0_1 x22_1).f0), ((rd_T41 l0_1 x22_1).f1), ji82, ((rd_T41 l0_1 x22_1).f3), ((rd_T41 l0_1 x22_1).f4)⟩ : S41)])) else (none)) else (impl_Live_now.l0 k2 l0_1 (l0_1.length : Int) (wrap64 (x22_1 + 1)) a0_0 l0_1 l0_2 a0_0 x793001_1)) = some (r1, r2) := by (rw [hji82] at H; exact H)
    have hji82_ : (if 99 < x798002_2 then 99 else x798002_2) = ji82 := hji82
    by_cases c83 : x6_2 = true
    rotate_left
    ·replace c83 := Bool.eq_false_iff.mpr c83
     subst c83
     rw [if_neg (show ¬ (false = true) by decide)] at H
     have H' := ak H
     clear H
     have hnb95 := NB797_787.out
     have hnc95 := NB787_797.out
     have hnb96 := NB797_788.out
     have hnc96 := NB788_797.out
     have hnb97 := NB797_792.out
     have hnc97 := NB792_797.out
     have hcz98_0 := bc wr BK797 0 (.int .i64 ((rd_T41 l0_1 x22_1).f0)) rfl
     have hcz98_1 := bc wr BK797 1 (.int .i64 ((rd_T41 l0_1 x22_1).f1)) rfl
     have hcz98_2 := bc wr BK797 2 (.int .i64 x798002_2) rfl
     have hcz98_3 := bc wr BK797 3 (.int .i64 ((rd_T41 l0_1 x22_1).f3)) rfl
     have hcz98_4 := bc wr BK797 4 (.int .i64 ((rd_T41 l0_1 x22_1).f4)) rfl
     have hfz98_0 := fz BK797 0
     have hfz98_1 := fz BK797 1
     have hfz98_2 := fz BK797 2
     have hfz98_3 := fz BK797 3
     have hfz98_4 := fz BK797 4
     go_wp2
     go_roundg k2
     case measure => have := HK1.out; have := HK2.out; omega
     case rel => exact ⟨(wrap64 (x22_1 + 1)), (x793001_1), (u793001), (by rfl), H', ⟨by have := HK1.out; have := HK2.out; omega⟩, ⟨by exact Kd.R_mono (Kd.R_far (p := ⟨gb797, 2, none⟩) (Kd.R_mono HO_793001.out (fun k_ hk => (⟨hk, hk⟩ : _ ∧ k_ ≠ gb797))) (fun _ hk => hk.2) (.int .i64 ji82)) (fun _ hk => trivial)⟩, ⟨by refine blk_far ?_ NB787_797.out _; exact BK787.out⟩, ⟨by refine blk_far ?_ NB788_797.out _; exact BK788.out⟩, ⟨by refine blk_far ?_ NB792_797.out _; exact BK792.out⟩, ⟨bl4 HB GE787 GE788 GE792 GE797⟩⟩
    subst c83
    rw [if_pos rfl] at H
    by_cases c84 : x793001_1.length < 3518437208883
    rotate_left
    ·rw [if_neg c84] at H
     exact absurd H (by simp)
    rw [if_pos c84] at H
    have LMc84 := ak c84
    clear c84
    obtain ⟨y798, hy798⟩ : ∃ y_ : List (S41), y_ = (x793001_1 ++ [(⟨((rd_T41 l0_1 x22_1).f0), ((rd_T41 l0_1 x22_1).f1), ji82, ((rd_T41 l0_1 x22_1).f3), ((rd_T41 l0_1 x22_1).f4)⟩ : S41)]) := ⟨_, rfl⟩
    replace H : (impl_Live_now.l0 k2 l0_1 (l0_1.length : Int) (wrap64 (x22_1 + 1)) a0_0 l0_1 l0_2 a0_0 y798) = some (r1, r2) := by (rw [hy798]; with_reducible exact H)
    have Ny798 := ak hy798
    clear hy798
    have H' := ak H
    clear H
    have hnb85 := NB797_787.out
    have hnc85 := NB787_797.out
    have hnb86 := NB797_788.out
    have hnc86 := NB788_797.out
    have hnb87 := NB797_792.out
    have hnc87 := NB792_797.out
    have hcz88_0 := bc wr BK797 0 (.int .i64 ((rd_T41 l0_1 x22_1).f0)) rfl
    have hcz88_1 := bc wr BK797 1 (.int .i64 ((rd_T41 l0_1 x22_1).f1)) rfl
    have hcz88_2 := bc wr BK797 2 (.int .i64 x798002_2) rfl
    have hcz88_3 := bc wr BK797 3 (.int .i64 ((rd_T41 l0_1 x22_1).f3)) rfl
    have hcz88_4 := bc wr BK797 4 (.int .i64 ((rd_T41 l0_1 x22_1).f4)) rfl
    have hfz88_0 := fz BK797 0
    have hfz88_1 := fz BK797 1
    have hfz88_2 := fz BK797 2
    have hfz88_3 := fz BK797 3
    have hfz88_4 := fz BK797 4
    have hnb89 := NB792_787.out
    have hnc89 := NB787_792.out
    have hnb90 := NB792_788.out
    have hnc90 := NB788_792.out
    have hcz91_0 := bc wr BK792 0 (.int .i64 a0_0) rfl
    have hcz91_1 := bc wr BK792 1 (u793001) rfl
    have hfz91_0 := fz BK792 0
    have hfz91_1 := fz BK792 1
    go_wp2_with (((with_reducible refine gate_builtin (b := .append) (xs := #[.tmp 63, .tmp 65]) rfl ?_); at_builtin; refine Kd.R_append k41 (w0 := w) w.heap.size rfl (.tmp 63) (.tmp 65) 23 41 (.agg #[(.int .i64 0), (.int .i64 0), (.int .i64 0), (.int .i64 0), (.int .i64 0)]) 40 rfl Try.underlying23 info41 rfl (by decide) (by omega) u793001 x793001_1 (⟨((rd_T41 l0_1 x22_1).f0), ((rd_T41 l0_1 x22_1).f1), ji82, ((rd_T41 l0_1 x22_1).f3), ((rd_T41 l0_1 x22_1).f4)⟩ : S41) [.int .i64 ((rd_T41 l0_1 x22_1).f0), .int .i64 ((rd_T41 l0_1 x22_1).f1), .int .i64 ji82, .int .i64 ((rd_T41 l0_1 x22_1).f3), .int .i64 ((rd_T41 l0_1 x22_1).f4)] (fun k_ => k_ ≠ gb797) (fun _ => False) rfl (by (go_simp; done)) ?aP (fun _ hk => hk.elim) ?aF ?aO ?aB ?aS ?aL ?_; (case aP => exact k41_mkM _ _ _ (⟨((rd_T41 l0_1 x22_1).f0), ((rd_T41 l0_1 x22_1).f1), ji82, ((rd_T41 l0_1 x22_1).f3), ((rd_T41 l0_1 x22_1).f4)⟩ : S41)); (case aB => exact (bl4 HB GE787 GE788 GE792 GE797)); (case aF => exact (fun k_ hk => Kd.freshB (g := gb797) (o := .cells #[.int .i64 ((rd_T41 l0_1 x22_1).f0), .int .i64 ((rd_T41 l0_1 x22_1).f1), .int .i64 ji82, .int .i64 ((rd_T41 l0_1 x22_1).f3), .int .i64 ((rd_T41 l0_1 x22_1).f4)] 41 (0, 0)) (by refine blk_put (cs := #[.int .i64 ((rd_T41 l0_1 x22_1).f0), .int .i64 ((rd_T41 l0_1 x22_1).f1), .int .i64 x798002_2, .int .i64 ((rd_T41 l0_1 x22_1).f3), .int .i64 ((rd_T41 l0_1 x22_1).f4)]) ?_ 2 _ rfl; exact BK797.out) k_ hk)); (case aO => exact (by exact Kd.R_mono (Kd.R_far (p := ⟨gb797, 2, none⟩) (Kd.R_mono HO_793001.out (fun k_ hk => (⟨hk, hk⟩ : _ ∧ k_ ≠ gb797))) (fun _ hk => hk.2) (.int .i64 ji82)) (fun _ hk => hk.1))); (case aS => exact (below_size (bl4 HB GE787 GE788 GE792 GE797))); (case aL => have := LMc84.out; omega); intro v799 w92 ho hb hg hat; rw [← Ny798.out] at ho; have n0_ := ak (blk_grown (g := gb787) (o := .cells #[.int .i64 a0_0, .slice (some ad796) l0_1.length c0_1, .slice A0_2 l0_2.length c0_2] 44 (0, 0)) (by refine blk_far ?_ NB787_797.out _; exact BK787.out) hg (Kd.R_ne HO_793001.out BK787.out (by decide))); have n1_ := ak (blk_grown (g := gb788) (o := .cells #[.int .i64 0, .slice none 0 0] 25 (0, 0)) (by refine blk_far ?_ NB788_797.out _; exact BK788.out) hg (Kd.R_ne HO_793001.out BK788.out (by decide))); have n2_ := ak (blk_grown (g := gb792) (o := .cells #[.int .i64 a0_0, u793001] 25 (0, 0)) (by refine blk_far ?_ NB792_797.out _; exact BK792.out) hg (Kd.R_ne HO_793001.out BK792.out (by decide))); have n3_ := ak (blk_grown (g := gb797) (o := .cells #[.int .i64 ((rd_T41 l0_1 x22_1).f0), .int .i64 ((rd_T41 l0_1 x22_1).f1), .int .i64 ji82, .int .i64 ((rd_T41 l0_1 x22_1).f3), .int .i64 ((rd_T41 l0_1 x22_1).f4)] 41 (0, 0)) (by refine blk_put (cs := #[.int .i64 ((rd_T41 l0_1 x22_1).f0), .int .i64 ((rd_T41 l0_1 x22_1).f1), .int .i64 x798002_2, .int .i64 ((rd_T41 l0_1 x22_1).f3), .int .i64 ((rd_T41 l0_1 x22_1).f4)]) ?_ 2 _ rfl; exact BK797.out) hg (Kd.R_away HO_793001.out (fun _ hk => hk))); have n4_ := ak (hb); have n5_ := ak (ho); clear BK787; clear BK788; clear BK792; clear BK797; clear HB; clear HO_793001; have BK787 := n0_; have BK788 := n1_; have BK792 := n2_; have BK797 := n3_; have HB := n4_; have HO800 := n5_; clear n0_ n1_ n2_ n3_ n4_ n5_; clear ho hb hg hat; obtain ⟨Ao93, co93, eo93⟩ := Kd.R_slice HO800.out; subst eo93; have hcz94_0 := bc w92 BK792 0 (.int .i64 a0_0) rfl; have hcz94_1 := bc w92 BK792 1 (u793001) rfl; have hfz94_0 := fz BK792 0; have hfz94_1 := fz BK792 1))
    go_roundg k2
    case measure => have := HK1.out; have := HK2.out; omega
    case rel => exact ⟨(wrap64 (x22_1 + 1)), (y798), (.slice Ao93 y798.length co93), (by rfl), H', ⟨by have := HK1.out; have := HK2.out; omega⟩, ⟨by exact Kd.R_mono (Kd.R_far (p := ⟨gb792, 1, none⟩) (Kd.R_types HO800.out BK792.out (by decide)) (fun _ hk => hk.2) (.slice Ao93 y798.length co93)) (fun _ hk => trivial)⟩, ⟨by refine blk_far ?_ NB787_792.out _; exact BK787.out⟩, ⟨by refine blk_far ?_ NB788_792.out _; exact BK788.out⟩, ⟨by refine blk_put (cs := #[.int .i64 a0_0, u793001]) ?_ 1 _ rfl; exact BK792.out⟩, ⟨bl4 HB GE787 GE788 GE792 GE797⟩⟩
   rw [if_pos c28] at H
   have c28b0 : decide (x30_2 < (l0_2.length : Int)) = true := decide_eq_true c28
   clear c28
   by_cases c29 : 0 ≤ x30_2
   rotate_left
   ·rw [if_neg c29] at H
    exact absurd H (by simp)
   rw [if_pos c29] at H
   have c29b0 : decide (0 ≤ x30_2) = true := decide_eq_true c29
   clear c29
   by_cases c30 : x30_2 < (l0_2.length : Int)
   rotate_left
   ·rw [if_neg c30] at H
    exact absurd H (by simp)
   rw [if_pos c30] at H
   have c30b0 : decide (x30_2 < (l0_2.length : Int)) = true := decide_eq_true c30
   clear c30
   have HC31 := ak H
   clear H
   have p801 : 0 ≤ (x30_2 : Int) := oT (by (with_reducible assumption))
   have q801 : x30_2 < (l0_2.length : Int) := oT (by (with_reducible assumption))
   obtain ⟨ad801, e801, hx801_0, hx801_1, hx801_2⟩ := at_T113 HR0_2.out x30_2 p801 q801
   cases e801
   replace hx801_0 := hcb HB.out hx801_0
   replace hx801_1 := hcb HB.out hx801_1
   replace hx801_2 := hcb HB.out hx801_2
   replace p801 := eq_true p801
   replace q801 := eq_true q801
   go_upto_region 9 with (((with_reducible refine gate_dst (N := 8) rfl ?_); refine box_event ?hg (N := 8) ?hd (cs := #[.int .i64 0, .int .i64 0, .int .i64 0]) (t := 113) ?hr ?_; (case hd => rfl); (case hg => rfl); (case hr => (go_simp; done)); intro gb802 hg w32 hbox hb; replace HO_793001 := ak (Kd.R_below (rk HO_793001) hb); have BK802 := ak (hbox); have GW802 := ak ((by rw [hg]; exact (below_size (bl4 HB GE787 GE788 GE792 GE797)) : w.heap.size ≤ gb802)); have GE802 := ak ((by rw [hg]; exact (below_size (bl4 HB GE787 GE788 GE792 GE797)) : w.heap.size ≤ gb802)); replace HB := ak (below_step (bl4 HB GE787 GE788 GE792 GE797) hb); have NB787_802 := ak ((by rw [hg]; exact Nat.ne_of_lt (blk_lt (bk BK787)) : gb787 ≠ gb802)); have NB802_787 := ak ((by rw [hg]; exact Nat.ne_of_gt (blk_lt (bk BK787)) : gb802 ≠ gb787)); replace BK787 := ak (blk_below (bk BK787) hb); have NB788_802 := ak ((by rw [hg]; exact Nat.ne_of_lt (blk_lt (bk BK788)) : gb788 ≠ gb802)); have NB802_788 := ak ((by rw [hg]; exact Nat.ne_of_gt (blk_lt (bk BK788)) : gb802 ≠ gb788)); replace BK788 := ak (blk_below (bk BK788) hb); have NB792_802 := ak ((by rw [hg]; exact Nat.ne_of_lt (blk_lt (bk BK792)) : gb792 ≠ gb802)); have NB802_792 := ak ((by rw [hg]; exact Nat.ne_of_gt (blk_lt (bk BK792)) : gb802 ≠ gb792)); replace BK792 := ak (blk_below (bk BK792) hb); have NB797_802 := ak ((by rw [hg]; exact Nat.ne_of_lt (blk_lt (bk BK797)) : gb797 ≠ gb802)); have NB802_797 := ak ((by rw [hg]; exact Nat.ne_of_gt (blk_lt (bk BK797)) : gb802 ≠ gb797)); replace BK797 := ak (blk_below (bk BK797) hb); clear hb hbox hg; have hnb33 := NB802_787.out; have hnc33 := NB787_802.out; have hnb34 := NB802_788.out; have hnc34 := NB788_802.out; have hnb35 := NB802_792.out; have hnc35 := NB792_802.out; have hnb36 := NB802_797.out; have hnc36 := NB797_802.out; have hcz37_0 := bc w32 BK802 0 (.int .i64 0) rfl; have hcz37_1 := bc w32 BK802 1 (.int .i64 0) rfl; have hcz37_2 := bc w32 BK802 2 (.int .i64 0) rfl; have hfz37_0 := fz BK802 0; have hfz37_1 := fz BK802 1; have hfz37_2 := fz BK802 2))
   (try simp only [Act.put, List.setIfInBounds_toArray, List.set_cons_zero, List.set_cons_succ])
   go_cut [42] (fun v42 wc => ∃ (kq : Nat) (x42_30 : Bool), v42 = .bool x42_30 ∧ Aside0 (impl_Live_now.j2 kq x22_1 x6_2 l0_1 (l0_1.length : Int) x22_1 l0_2 (l0_2.length : Int) x30_2 x42_30 a0_0 l0_1 l0_2 a0_0 x793001_1 ((rd_T41 l0_1 x22_1).f0) ((rd_T41 l0_1 x22_1).f1) x798002_2 ((rd_T41 l0_1 x22_1).f3) ((rd_T41 l0_1 x22_1).f4) ((rd_T113 l0_2 x30_2).f0) ((rd_T113 l0_2 x30_2).f1) ((rd_T113 l0_2 x30_2).f2) = some (r1, r2)) ∧ Aside0 (kq ≤ k2) ∧ Aside0 (Kd.R k41 41 wc w.heap.size (fun k_ => k_ ≠ gb797) u793001 x793001_1) ∧ Aside0 (wc.heap[gb787]? = some (.cells #[.int .i64 a0_0, (.slice (some ad796) l0_1.length c0_1), (.slice (some ad801) l0_2.length c0_2)] 44 (0, 0))) ∧ Aside0 (wc.heap[gb788]? = some (.cells #[.int .i64 0, (.slice none 0 0)] 25 (0, 0))) ∧ Aside0 (wc.heap[gb792]? = some (.cells #[.int .i64 a0_0, u793001] 25 (0, 0))) ∧ Aside0 (wc.heap[gb797]? = some (.cells #[.int .i64 ((rd_T41 l0_1 x22_1).f0), .int .i64 ((rd_T41 l0_1 x22_1).f1), .int .i64 x798002_2, .int .i64 ((rd_T41 l0_1 x22_1).f3), .int .i64 ((rd_T41 l0_1 x22_1).f4)] 41 (0, 0))) ∧ Aside0 (wc.heap[gb802]? = some (.cells #[.int .i64 ((rd_T113 l0_2 x30_2).f0), .int .i64 ((rd_T113 l0_2 x30_2).f1), .int .i64 ((rd_T113 l0_2 x30_2).f2)] 113 (0, 0))) ∧ Aside0 (Below w.heap.size w wc))
   case first =>
    have H := HC31.out
    clear HC31
    by_cases c38 : ((rd_T113 l0_2 x30_2).f1) = x22_1
    rotate_left
    ·rw [if_neg c38] at H
     have c38b0 : (((rd_T113 l0_2 x30_2).f1) == x22_1) = false := beq_eq_false_iff_ne.mpr c38
     have c38b1 : (((rd_T113 l0_2 x30_2).f1) != x22_1) = true := bne_iff_ne.mpr c38
     (skip)
     have H' := ak H
     clear H
     have hnb44 := NB802_787.out
     have hnc44 := NB787_802.out
     have hnb45 := NB802_788.out
     have hnc45 := NB788_802.out
     have hnb46 := NB802_792.out
     have hnc46 := NB792_802.out
     have hnb47 := NB802_797.out
     have hnc47 := NB797_802.out
     have hcz48_0 := bc w32 BK802 0 (.int .i64 0) rfl
     have hcz48_1 := bc w32 BK802 1 (.int .i64 0) rfl
     have hcz48_2 := bc w32 BK802 2 (.int .i64 0) rfl
     have hfz48_0 := fz BK802 0
     have hfz48_1 := fz BK802 1
     have hfz48_2 := fz BK802 2
     go_wp2
     go_meet
     case rel => exact ⟨_, (false), (by rfl), H', ⟨by have := HK1.out; have := HK2.out; omega⟩, ⟨by exact Kd.R_mono (Kd.R_far (p := ⟨gb802, 2, none⟩) (Kd.R_far (p := ⟨gb802, 1, none⟩) (Kd.R_far (p := ⟨gb802, 0, none⟩) (Kd.R_types HO_793001.out BK802.out (by decide)) (fun _ hk => hk.2) (.int .i64 ((rd_T113 l0_2 x30_2).f0))) (fun _ hk => hk.2) (.int .i64 ((rd_T113 l0_2 x30_2).f1))) (fun _ hk => hk.2) (.int .i64 ((rd_T113 l0_2 x30_2).f2))) (fun _ hk => hk.1)⟩, ⟨by refine blk_far ?_ NB787_802.out _; refine blk_far ?_ NB787_802.out _; refine blk_far ?_ NB787_802.out _; exact BK787.out⟩, ⟨by refine blk_far ?_ NB788_802.out _; refine blk_far ?_ NB788_802.out _; refine blk_far ?_ NB788_802.out _; exact BK788.out⟩, ⟨by refine blk_far ?_ NB792_802.out _; refine blk_far ?_ NB792_802.out _; refine blk_far ?_ NB792_802.out _; exact BK792.out⟩, ⟨by refine blk_far ?_ NB797_802.out _; refine blk_far ?_ NB797_802.out _; refine blk_far ?_ NB797_802.out _; exact BK797.out⟩, ⟨by refine blk_put (cs := #[.int .i64 ((rd_T113 l0_2 x30_2).f0), .int .i64 ((rd_T113 l0_2 x30_2).f1), .int .i64 0]) ?_ 2 _ rfl; refine blk_put (cs := #[.int .i64 ((rd_T113 l0_2 x30_2).f0), .int .i64 0, .int .i64 0]) ?_ 1 _ rfl; refine blk_put (cs := #[.int .i64 0, .int .i64 0, .int .i64 0]) ?_ 0 _ rfl; exact BK802.out⟩, ⟨by repeat ((with_reducible first | exact HB.out | refine below_set ?_ GE802.out))⟩⟩
    rw [if_pos c38] at H
    have c38b0 : (((rd_T113 l0_2 x30_2).f1) == x22_1) = true := beq_iff_eq.mpr c38
    have c38b1 : (((rd_T113 l0_2 x30_2).f1) != x22_1) = false := bne_eq_false_iff_eq.mpr c38
    clear c38
    (skip)
    have H' := ak H
    clear H
    have hnb39 := NB802_787.out
    have hnc39 := NB787_802.out
    have hnb40 := NB802_788.out
    have hnc40 := NB788_802.out
    have hnb41 := NB802_792.out
    have hnc41 := NB792_802.out
    have hnb42 := NB802_797.out
    have hnc42 := NB797_802.out
    have hcz43_0 := bc w32 BK802 0 (.int .i64 0) rfl
    have hcz43_1 := bc w32 BK802 1 (.int .i64 0) rfl
    have hcz43_2 := bc w32 BK802 2 (.int .i64 0) rfl
    have hfz43_0 := fz BK802 0
    have hfz43_1 := fz BK802 1
    have hfz43_2 := fz BK802 2
    go_wp2
    go_meet
    case rel => exact ⟨_, ((((rd_T113 l0_2 x30_2).f2) == (-1))), (by rfl), H', ⟨by have := HK1.out; have := HK2.out; omega⟩, ⟨by exact Kd.R_mono (Kd.R_far (p := ⟨gb802, 2, none⟩) (Kd.R_far (p := ⟨gb802, 1, none⟩) (Kd.R_far (p := ⟨gb802, 0, none⟩) (Kd.R_types HO_793001.out BK802.out (by decide)) (fun _ hk => hk.2) (.int .i64 ((rd_T113 l0_2 x30_2).f0))) (fun _ hk => hk.2) (.int .i64 ((rd_T113 l0_2 x30_2).f1))) (fun _ hk => hk.2) (.int .i64 ((rd_T113 l0_2 x30_2).f2))) (fun _ hk => hk.1)⟩, ⟨by refine blk_far ?_ NB787_802.out _; refine blk_far ?_ NB787_802.out _; refine blk_far ?_ NB787_802.out _; exact BK787.out⟩, ⟨by refine blk_far ?_ NB788_802.out _; refine blk_far ?_ NB788_802.out _; refine blk_far ?_ NB788_802.out _; exact BK788.out⟩, ⟨by refine blk_far ?_ NB792_802.out _; refine blk_far ?_ NB792_802.out _; refine blk_far ?_ NB792_802.out _; exact BK792.out⟩, ⟨by refine blk_far ?_ NB797_802.out _; refine blk_far ?_ NB797_802.out _; refine blk_far ?_ NB797_802.out _; exact BK797.out⟩, ⟨by refine blk_put (cs := #[.int .i64 ((rd_T113 l0_2 x30_2).f0), .int .i64 ((rd_T113 l0_2 x30_2).f1), .int .i64 0]) ?_ 2 _ rfl; refine blk_put (cs := #[.int .i64 ((rd_T113 l0_2 x30_2).f0), .int .i64 0, .int .i64 0]) ?_ 1 _ rfl; refine blk_put (cs := #[.int .i64 0, .int .i64 0, .int .i64 0]) ?_ 0 _ rfl; exact BK802.out⟩, ⟨by repeat ((with_reducible first | exact HB.out | refine below_set ?_ GE802.out))⟩⟩
   clear HC31
   try clear c1
   try clear c2
   try clear c2b0
   try clear c2b1
   try clear p2
   try clear c3
   try clear c4
   try clear c7
   try clear p7
   try clear q7
   try clear hx7
   try clear p8
   try clear q8
   try clear hx8
   try clear c14
   try clear c15
   try clear c17
   try clear c17b0
   try clear c18
   try clear c18b0
   try clear c19
   try clear c19b0
   try clear c21
   try clear c22
   try clear c23
   try clear c25
   try clear c26
   try clear c28
   try clear c28b0
   try clear c29
   try clear c29b0
   try clear c30
   try clear c30b0
   try clear c33
   try clear c34
   try clear c35
   try clear c36
   try clear c38
   try clear c38b0
   try clear c38b1
   try clear c39
   try clear c40
   try clear c41
   try clear c42
   try clear c44
   try clear c45
   try clear c46
   try clear c47
   try clear hcz16_0
   try clear hcz16_1
   try clear hcz16_2
   try clear hcz24_0
   try clear hcz24_1
   try clear hcz24_2
   try clear hcz24_3
   try clear hcz24_4
   try clear hcz27_0
   try clear hcz27_1
   try clear hcz27_2
   try clear hcz37_0
   try clear hcz37_1
   try clear hcz37_2
   try clear hcz43_0
   try clear hcz43_1
   try clear hcz43_2
   try clear hcz48_0
   try clear hcz48_1
   try clear hcz48_2
   try clear hfz16_0
   try clear hfz16_1
   try clear hfz16_2
   try clear hfz24_0
   try clear hfz24_1
   try clear hfz24_2
   try clear hfz24_3
   try clear hfz24_4
   try clear hfz27_0
   try clear hfz27_1
   try clear hfz27_2
   try clear hfz37_0
   try clear hfz37_1
   try clear hfz37_2
   try clear hfz43_0
   try clear hfz43_1
   try clear hfz43_2
   try clear hfz48_0
   try clear hfz48_1
   try clear hfz48_2
   try clear hx796_0
   try clear hx796_1
   try clear hx796_2
   try clear hx796_3
   try clear hx796_4
   try clear hx801_0
   try clear hx801_1
   try clear hx801_2
   try clear p2
   try clear p7
   try clear p796
   try clear p801
   try clear q7
   try clear q796
   try clear q801
   obtain ⟨kq, x42_30, rfl, HA, HJ30, HO_793001, BK787, BK788, BK792, BK797, BK802, HB⟩ := hcut
   cases kq with
   | zero => exact absurd HA.out (by simp [impl_Live_now.j2])
   | succ kj30 =>
    have H := HA.out
    clear HA
    simp only [impl_Live_now.j2] at H
    by_cases c49 : x42_30 = true
    ·subst c49
     rw [if_pos rfl] at H
     by_cases c50 : ((rd_T113 l0_2 x30_2).f1) = x22_1
     rotate_left
     ·rw [if_neg c50] at H
      have c50b0 : (((rd_T113 l0_2 x30_2).f1) == x22_1) = false := beq_eq_false_iff_ne.mpr c50
      have c50b1 : (((rd_T113 l0_2 x30_2).f1) != x22_1) = true := bne_iff_ne.mpr c50
      have H' := ak H
      clear H
      have hnb56 := NB802_787.out
      have hnc56 := NB787_802.out
      have hnb57 := NB802_788.out
      have hnc57 := NB788_802.out
      have hnb58 := NB802_792.out
      have hnc58 := NB792_802.out
      have hnb59 := NB802_797.out
      have hnc59 := NB797_802.out
      have hcz60_0 := bc wc BK802 0 (.int .i64 ((rd_T113 l0_2 x30_2).f0)) rfl
      have hcz60_1 := bc wc BK802 1 (.int .i64 ((rd_T113 l0_2 x30_2).f1)) rfl
      have hcz60_2 := bc wc BK802 2 (.int .i64 ((rd_T113 l0_2 x30_2).f2)) rfl
      have hfz60_0 := fz BK802 0
      have hfz60_1 := fz BK802 1
      have hfz60_2 := fz BK802 2
      go_wp2
      go_roundg kj30
      case measure => have := HK1.out; have := HK2.out; have := HJ30.out; omega
      case rel => exact ⟨(false), (wrap64 (x30_2 + 1)), (x798002_2), (by rfl), (by rfl), H', ⟨by have := HK1.out; have := HK2.out; have := HJ30.out; omega⟩, ⟨rk HO_793001⟩, ⟨bk BK787⟩, ⟨bk BK788⟩, ⟨bk BK792⟩, ⟨bk BK797⟩, ⟨by repeat ((with_reducible exact HB.out))⟩⟩
     rw [if_pos c50] at H
     have c50b0 : (((rd_T113 l0_2 x30_2).f1) == x22_1) = true := beq_iff_eq.mpr c50
     have c50b1 : (((rd_T113 l0_2 x30_2).f1) != x22_1) = false := bne_eq_false_iff_eq.mpr c50
     clear c50
     have H' := ak H
     clear H
     have hnb51 := NB802_787.out
     have hnc51 := NB787_802.out
     have hnb52 := NB802_788.out
     have hnc52 := NB788_802.out
     have hnb53 := NB802_792.out
     have hnc53 := NB792_802.out
     have hnb54 := NB802_797.out
     have hnc54 := NB797_802.out
     have hcz55_0 := bc wc BK802 0 (.int .i64 ((rd_T113 l0_2 x30_2).f0)) rfl
     have hcz55_1 := bc wc BK802 1 (.int .i64 ((rd_T113 l0_2 x30_2).f1)) rfl
     have hcz55_2 := bc wc BK802 2 (.int .i64 ((rd_T113 l0_2 x30_2).f2)) rfl
     have hfz55_0 := fz BK802 0
     have hfz55_1 := fz BK802 1
     have hfz55_2 := fz BK802 2
     go_wp2
     go_roundg kj30
     case measure => have := HK1.out; have := HK2.out; have := HJ30.out; omega
     case rel => exact ⟨(false), (wrap64 (x30_2 + 1)), (x798002_2), (by rfl), (by rfl), H', ⟨by have := HK1.out; have := HK2.out; have := HJ30.out; omega⟩, ⟨rk HO_793001⟩, ⟨bk BK787⟩, ⟨bk BK788⟩, ⟨bk BK792⟩, ⟨bk BK797⟩, ⟨by repeat ((with_reducible exact HB.out))⟩⟩
    replace c49 := Bool.eq_false_iff.mpr c49
    subst c49
    rw [if_neg (show ¬ (false = true) by decide)] at H
    by_cases c61 : ((rd_T113 l0_2 x30_2).f1) = x22_1
    rotate_left
    ·rw [if_neg c61] at H
     have c61b0 : (((rd_T113 l0_2 x30_2).f1) == x22_1) = false := beq_eq_false_iff_ne.mpr c61
     have c61b1 : (((rd_T113 l0_2 x30_2).f1) != x22_1) = true := bne_iff_ne.mpr c61
     have H' := ak H
     clear H
     have hnb77 := NB802_787.out
     have hnc77 := NB787_802.out
     have hnb78 := NB802_788.out
     have hnc78 := NB788_802.out
     have hnb79 := NB802_792.out
     have hnc79 := NB792_802.out
     have hnb80 := NB802_797.out
     have hnc80 := NB797_802.out
     have hcz81_0 := bc wc BK802 0 (.int .i64 ((rd_T113 l0_2 x30_2).f0)) rfl
     have hcz81_1 := bc wc BK802 1 (.int .i64 ((rd_T113 l0_2 x30_2).f1)) rfl
     have hcz81_2 := bc wc BK802 2 (.int .i64 ((rd_T113 l0_2 x30_2).f2)) rfl
     have hfz81_0 := fz BK802 0
     have hfz81_1 := fz BK802 1
     have hfz81_2 := fz BK802 2
     go_wp2
     go_roundg kj30
     case measure => have := HK1.out; have := HK2.out; have := HJ30.out; omega
     case rel => exact ⟨(x6_2), (wrap64 (x30_2 + 1)), (x798002_2), (by rfl), (by rfl), H', ⟨by have := HK1.out; have := HK2.out; have := HJ30.out; omega⟩, ⟨rk HO_793001⟩, ⟨bk BK787⟩, ⟨bk BK788⟩, ⟨bk BK792⟩, ⟨bk BK797⟩, ⟨by repeat ((with_reducible exact HB.out))⟩⟩
    rw [if_pos c61] at H
    have c61b0 : (((rd_T113 l0_2 x30_2).f1) == x22_1) = true := beq_iff_eq.mpr c61
    have c61b1 : (((rd_T113 l0_2 x30_2).f1) != x22_1) = false := bne_eq_false_iff_eq.mpr c61
    clear c61
    by_cases c62 : x6_2 = true
    rotate_left
    ·replace c62 := Bool.eq_false_iff.mpr c62
     subst c62
     rw [if_neg (show ¬ (false = true) by decide)] at H
     have H' := ak H
     clear H
     have hnb72 := NB802_787.out
     have hnc72 := NB787_802.out
     have hnb73 := NB802_788.out
     have hnc73 := NB788_802.out
     have hnb74 := NB802_792.out
     have hnc74 := NB792_802.out
     have hnb75 := NB802_797.out
     have hnc75 := NB797_802.out
     have hcz76_0 := bc wc BK802 0 (.int .i64 ((rd_T113 l0_2 x30_2).f0)) rfl
     have hcz76_1 := bc wc BK802 1 (.int .i64 ((rd_T113 l0_2 x30_2).f1)) rfl
     have hcz76_2 := bc wc BK802 2 (.int .i64 ((rd_T113 l0_2 x30_2).f2)) rfl
     have hfz76_0 := fz BK802 0
     have hfz76_1 := fz BK802 1
     have hfz76_2 := fz BK802 2
     go_wp2
     go_roundg kj30
     case measure => have := HK1.out; have := HK2.out; have := HJ30.out; omega
     case rel => exact ⟨(false), (wrap64 (x30_2 + 1)), (x798002_2), (by rfl), (by rfl), H', ⟨by have := HK1.out; have := HK2.out; have := HJ30.out; omega⟩, ⟨rk HO_793001⟩, ⟨bk BK787⟩, ⟨bk BK788⟩, ⟨bk BK792⟩, ⟨bk BK797⟩, ⟨by repeat ((with_reducible exact HB.out))⟩⟩
    subst c62
    rw [if_pos rfl] at H
    have H' := ak H
    clear H
    have hnb63 := NB802_787.out
    have hnc63 := NB787_802.out
    have hnb64 := NB802_788.out
    have hnc64 := NB788_802.out
    have hnb65 := NB802_792.out
    have hnc65 := NB792_802.out
    have hnb66 := NB802_797.out
    have hnc66 := NB797_802.out
    have hcz67_0 := bc wc BK802 0 (.int .i64 ((rd_T113 l0_2 x30_2).f0)) rfl
    have hcz67_1 := bc wc BK802 1 (.int .i64 ((rd_T113 l0_2 x30_2).f1)) rfl
    have hcz67_2 := bc wc BK802 2 (.int .i64 ((rd_T113 l0_2 x30_2).f2)) rfl
    have hfz67_0 := fz BK802 0
    have hfz67_1 := fz BK802 1
    have hfz67_2 := fz BK802 2
    have hnb68 := NB797_787.out
    have hnc68 := NB787_797.out
    have hnb69 := NB797_788.out
    have hnc69 := NB788_797.out
    have hnb70 := NB797_792.out
    have hnc70 := NB792_797.out
    have hcz71_0 := bc wc BK797 0 (.int .i64 ((rd_T41 l0_1 x22_1).f0)) rfl
    have hcz71_1 := bc wc BK797 1 (.int .i64 ((rd_T41 l0_1 x22_1).f1)) rfl
    have hcz71_2 := bc wc BK797 2 (.int .i64 x798002_2) rfl
    have hcz71_3 := bc wc BK797 3 (.int .i64 ((rd_T41 l0_1 x22_1).f3)) rfl
    have hcz71_4 := bc wc BK797 4 (.int .i64 ((rd_T41 l0_1 x22_1).f4)) rfl
    have hfz71_0 := fz BK797 0
    have hfz71_1 := fz BK797 1
    have hfz71_2 := fz BK797 2
    have hfz71_3 := fz BK797 3
    have hfz71_4 := fz BK797 4
    go_wp2
    go_roundg kj30
    case measure => have := HK1.out; have := HK2.out; have := HJ30.out; omega
    case rel => exact ⟨(true), (wrap64 (x30_2 + 1)), (wrap64 (x798002_2 + ((rd_T113 l0_2 x30_2).f2))), (by rfl), (by rfl), H', ⟨by have := HK1.out; have := HK2.out; have := HJ30.out; omega⟩, ⟨by exact Kd.R_mono (Kd.R_far (p := ⟨gb797, 2, none⟩) (Kd.R_mono HO_793001.out (fun k_ hk => (⟨hk, hk⟩ : _ ∧ k_ ≠ gb797))) (fun _ hk => hk.2) (.int .i64 (wrap64 (x798002_2 + ((rd_T113 l0_2 x30_2).f2))))) (fun _ hk => hk.1)⟩, ⟨by refine blk_far ?_ NB787_797.out _; exact BK787.out⟩, ⟨by refine blk_far ?_ NB788_797.out _; exact BK788.out⟩, ⟨by refine blk_far ?_ NB792_797.out _; exact BK792.out⟩, ⟨by refine blk_put (cs := #[.int .i64 ((rd_T41 l0_1 x22_1).f0), .int .i64 ((rd_T41 l0_1 x22_1).f1), .int .i64 x798002_2, .int .i64 ((rd_T41 l0_1 x22_1).f3), .int .i64 ((rd_T41 l0_1 x22_1).f4)]) ?_ 2 _ rfl; exact BK797.out⟩, ⟨by repeat ((with_reducible first | exact HB.out | refine below_set ?_ GE797.out))⟩⟩

end Go.Proofs.Ytgickejeakmenaa.F
