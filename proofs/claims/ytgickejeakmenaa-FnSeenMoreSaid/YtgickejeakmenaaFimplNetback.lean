-- Printed by wip/px/px.py of this claim's repository (the kit's printer, extended there). Lean checks it.
import Derived.Test.YtgickejeakmenaaFKinds
namespace Go.Proofs.Ytgickejeakmenaa.F
open Go.RowKit Go.Proofs.YtgickejeakmenaaW.PrintWords Go.Proofs.YtgickejeakmenaaW.PrintLast Go.Proofs.YtgickejeakmenaaW.PrintMore
attribute [local go_sem] max2_int min2_int max_two min_two max_three min_three max_four min_four   -- for this text's walks alone
set_option linter.unusedVariables false
set_option linter.unusedSimpArgs false

/-! ### impl_Net_back: function 105 -/
def impl_Net_back.l0 : Nat → List (S41) → Int → Int → Int → List (S41) → Option (Int × (List (S41)))
 | 0, _, _, _, _, _ => none
 | k + 1, x14, x15, x16, x228000, x228001 => if x16 < x15 then (if 0 ≤ x16 then (if x16 < (x14.length : Int) then (if x228001.length < 3518437208883 then (impl_Net_back.l0 k x14 x15 (wrap64 (x16 + 1)) x228000 (x228001 ++ [(⟨(rd_T41 x14 x16).f1, (rd_T41 x14 x16).f0, (rd_T41 x14 x16).f2, (rd_T41 x14 x16).f3, (rd_T41 x14 x16).f4⟩ : S41)])) else (none)) else (none)) else (none)) else (some (x228000, x228001))
def impl_Net_back.f (k : Nat) (a0_0 : Int) (l0_1 : List (S41)) : Option (Int × (List (S41))) := if ((l0_1.length : Int) : Int).toNat ≤ 7036874417766 then (impl_Net_back.l0 k l0_1 (l0_1.length : Int) 0 a0_0 (([] : List (S41)))) else (none)
theorem impl_Net_back.mono_l : ∀ k, (∀ y0 y1 y2 y3 y4, LeO (impl_Net_back.l0 k y0 y1 y2 y3 y4) (impl_Net_back.l0 (k + 1) y0 y1 y2 y3 y4))
 | 0 => fun _ _ _ _ _ r h => by simp [impl_Net_back.l0] at h
 | k + 1 => by
  have ih0 := impl_Net_back.mono_l k
  ·intro y0 y1 y2 y3 y4
   unfold impl_Net_back.l0
   repeat' first
   | (with_reducible exact ih0 _ _ _ _ _)
   | (with_reducible exact LeO.refl _)
   | (with_reducible exact LeO.none _)
   | (with_reducible refine LeO.ite ?_ ?_)
   | (with_reducible refine LeO.bind ?_ (fun _ => ?_))
   | exact ih0 _ _ _ _ _
   | exact LeO.none _
   | refine LeO.ite ?_ ?_
   | refine LeO.bind ?_ (fun _ => ?_)
theorem impl_Net_back.mono : ∀ a0 a1 k, LeO (impl_Net_back.f k a0 a1) (impl_Net_back.f (k + 1) a0 a1) := by
 intro a0 a1 k
 have ih0 := impl_Net_back.mono_l k
 unfold impl_Net_back.f
 repeat' first
   | (with_reducible exact ih0 _ _ _ _ _)
   | (with_reducible exact LeO.refl _)
   | (with_reducible exact LeO.none _)
   | (with_reducible refine LeO.ite ?_ ?_)
   | (with_reducible refine LeO.bind ?_ (fun _ => ?_))
   | exact ih0 _ _ _ _ _
   | exact LeO.none _
   | refine LeO.ite ?_ ?_
   | refine LeO.bind ?_ (fun _ => ?_)
def impl_Net_back.T1 : Bool × List (List Nat × List Nat) := (true, [([], []), ([0], [0]), ([], []), ([2], [2]), ([3], [3]), ([4], [4]), ([1, 5], [1, 5]), ([], []), ([7, 6, 0, 1, 2, 3, 4, 5, 6, 7], [6, 7])])
def impl_Net_back.B1 : List Nat := [0, 1, 0, 4, 12, 28, 63, 0, 255]
theorem impl_Net_back.tab1 : rtab .any (opsOf Try.f105 1) = impl_Net_back.T1 := by kernel_rfl
theorem impl_Net_back.bits1 : waitsOk impl_Net_back.T1.2 impl_Net_back.B1 = true := by kernel_rfl
theorem impl_Net_back.fix_world {P : Program} {ops : Array Oper} {Q : Exit → Act → World → Prop} {l : List Oper} {a : Act} {W : World} {g : Nat} {o : Obj} (hb : W.heap[g]? = some o) (h : ∀ W', W = W' → W'.heap[g]? = some o → wpList P ops Q l a W') : wpList P ops Q l a W := h W rfl hb
set_option maxHeartbeats 8000000 in
set_option maxRecDepth 100000 in
theorem impl_Net_back.calls (k : Nat) (a0_0 : Int) (A0_1 : Option Addr) (c0_1 : Nat) (l0_1 : List (S41)) (r1 : Int) (r2 : List (S41)) (w : World) (hr0_1 : Kd.C k41 w A0_1 l0_1.length l0_1) (hc0_1 : l0_1.length ≤ c0_1) (h : impl_Net_back.f k a0_0 l0_1 = some (r1, r2)) :
  Calls Try.prog 105 #[.agg #[.int .i64 a0_0, .slice A0_1 l0_1.length c0_1]] w fun e w' => ∃ v1_ : Value, e = .returned (.agg #[.int .i64 r1, v1_]) ∧ Kd.R k41 41 w' w.heap.size (fun _ => True) v1_ r2 ∧ Below w.heap.size w w' := by
 have hu25 := Try.underlying25
 have hu41 := Try.underlying41
 have HR0_1 := ak hr0_1
 have HC0_1 := ak hc0_1
 clear hr0_1 hc0_1
 have HB := ak (Below.refl w.heap.size w)
 have H : (if ((l0_1.length : Int) : Int).toNat ≤ 7036874417766 then (impl_Net_back.l0 k l0_1 (l0_1.length : Int) 0 a0_0 (([] : List (S41)))) else (none)) = some (r1, r2) := h
 clear h
 by_cases c2 : ((l0_1.length : Int) : Int).toNat ≤ 7036874417766
 rotate_left
 ·rw [if_neg c2] at H
  exact absurd H (by simp)
 rw [if_pos c2] at H
 have c2b0 := eq_true c2
 have c2b1 : decide (((l0_1.length : Int) : Int).toNat ≤ 7036874417766) = true := decide_eq_true c2
 clear c2
 obtain ⟨y224, hy224⟩ : ∃ y_ : List (S41), y_ = (([] : List (S41))) := ⟨_, rfl⟩
 replace H : (impl_Net_back.l0 k l0_1 (l0_1.length : Int) 0 a0_0 y224) = some (r1, r2) := by first | (rw [hy224]; with_reducible exact H) | (have H2_ := (Option.bind_some _ _).symm.trans H; rw [hy224]; with_reducible exact H2_) | (have H2_ := (Option.bind_some _ _).symm.trans H; with_reducible exact H2_) | with_reducible exact H | (rw [hy224]; exact H) | exact H
 have Ny224 := ak hy224
 clear hy224
 have H' := ak H
 clear H
 go_enter Try.func105, Try.ntmps105
 try go_wp2_with (first | ((with_reducible refine gate_dst (N := 1) rfl ?_); refine box_event ?hg (N := 1) ?hd (cs := #[.int .i64 a0_0, .slice A0_1 l0_1.length c0_1]) (t := 25) ?hr ?_; (case hd => rfl); (case hg => rfl); (case hr => first | (go_simp; done) | (go_simp; rfl)); intro gb222 hg w3 hbox hb; have BK222 := ak (hbox); have GW222 := ak ((by rw [hg]; exact (below_size (bl HB)) : w.heap.size ≤ gb222)); have GE222 := ak ((by rw [hg]; exact (below_size (bl HB)) : w.heap.size ≤ gb222)); replace HB := ak (below_step (bl HB) hb); clear hb hbox hg) | ((with_reducible refine gate_dst (N := 2) rfl ?_); refine box_event ?hg (N := 2) ?hd (cs := #[.int .i64 0, .slice none 0 0]) (t := 25) ?hr ?_; (case hd => rfl); (case hg => rfl); (case hr => first | (go_simp; done) | (go_simp; rfl)); intro gb223 hg w4 hbox hb; have BK223 := ak (hbox); have GW223 := ak ((by rw [hg]; exact (below_size (bl1 HB GE222)) : w.heap.size ≤ gb223)); have GE223 := ak ((by rw [hg]; exact (below_size (bl1 HB GE222)) : w.heap.size ≤ gb223)); replace HB := ak (below_step (bl1 HB GE222) hb); have NB222_223 := ak ((by rw [hg]; exact Nat.ne_of_lt (blk_lt (bk BK222)) : gb222 ≠ gb223)); have NB223_222 := ak ((by rw [hg]; exact Nat.ne_of_gt (blk_lt (bk BK222)) : gb223 ≠ gb222)); replace BK222 := ak (blk_below (bk BK222) hb); clear hb hbox hg))
 replace BK222 := ak (blk_drew BK222.out)
 replace BK223 := ak (blk_drew BK223.out)
 replace HB := ak (below_drew1 HB.out)
 refine start_ (n := 9) (S := fun w' => w'.cell? ⟨gb222, 0, none⟩ = some (.int .i64 a0_0) ∧ w'.cell? ⟨gb222, 1, none⟩ = some (.slice A0_1 l0_1.length c0_1)) (ds := []) (ms 9 0) (by kernel_rfl) rfl (by kernel_rfl) ⟨(blk_cell BK222.out 0).trans rfl, (blk_cell BK222.out 1).trans rfl⟩ (fun hHeld => ?_); refine with_tabW impl_Net_back.tab1 impl_Net_back.bits1 (fun HT_ HW_ => ?_)
 generalize w4.drew = w5 at BK222 BK223 HB hHeld ⊢
 refine pu 0 6 ?_ (ms 9 1) rfl rfl HT_ (by kernel_rfl) (fun _ _ _ h => h) (by rfl) ?_ ?_ ?_ ?_
 rotate_left
 ·intro w'
  go_simp
  with_reducible rfl
 rotate_left
 ·simp only [SX]
  rfl
 refine pu 2 8 ?_ (ms 9 5) rfl rfl HT_ (by kernel_rfl) (fun _ _ _ h => h) (by rfl) ?_ ?_ ?_ ?_
 rotate_left
 ·intro w'
  go_simp
  with_reducible rfl
 rotate_left
 ·simp only [SX]
  rfl
 refine tk 1 7 ?_ (ms 9 7) rfl rfl HT_ HW_ (by kernel_rfl) (fun _ _ _ h => h) (by rfl) ?_ hHeld ?_ ?_ ?_
 rotate_left
 ·rintro w' ⟨s0, s1⟩
  go_simp
  with_reducible rfl
 rotate_left
 ·simp only [SX]
  rfl
 refine tk 3 9 ?_ (ms 9 15) rfl rfl HT_ HW_ (by kernel_rfl) (fun _ _ _ h => h) (by rfl) ?_ hHeld ?_ ?_ ?_
 rotate_left
 ·rintro w' ⟨s0, s1⟩
  go_simp
  with_reducible rfl
 rotate_left
 ·simp only [SX]
  rfl
 refine pu 4 10 ?_ (ms 9 31) rfl rfl HT_ (by kernel_rfl) (fun _ _ _ h => h) (by rfl) ?_ ?_ ?_ ?_
 rotate_left
 ·intro w'
  go_simp
  with_reducible rfl
 rotate_left
 ·simp only [SX]
  rfl
 refine join_ (σ := Value × Nat) 1 (ms 9 255) (fun s_ => [(11, s_.1), (3, .pointer (some ⟨s_.2, 0, none⟩)), (12, .agg #[.int .i64 a0_0, s_.1])]) (fun s_ w' => (w'.cell? ⟨gb222, 0, none⟩ = some (.int .i64 a0_0) ∧ w'.cell? ⟨gb222, 1, none⟩ = some (.slice A0_1 l0_1.length c0_1)) ∧ (Kd.R k41 41 w' w.heap.size (fun _ => True) s_.1 y224) ∧ (w'.heap[gb222]? = some (.cells #[.int .i64 a0_0, .slice A0_1 l0_1.length c0_1] 25 (0, 0))) ∧ (w'.heap[gb223]? = some (.cells #[.int .i64 0, .slice none 0 0] 25 (0, 0))) ∧ (w'.heap[s_.2]? = some (.cells #[.int .i64 0, .slice none 0 0] 25 (0, 0))) ∧ (w.heap.size ≤ s_.2) ∧ (w.heap.size ≤ s_.2) ∧ (gb222 ≠ s_.2) ∧ (s_.2 ≠ gb222) ∧ (gb223 ≠ s_.2) ∧ (s_.2 ≠ gb223) ∧ (Below w.heap.size w w')) ?_ ?_
 rotate_left
 ·intro hCont
  refine two_ (i := 5) (j := 7) (Ni := some 11) (Nj := some 3) (ms 9 63) (ms 9 159) rfl rfl rfl rfl (two_of HT_.out (by kernel_rfl)) (by decide) (by decide) (fun K hK => ?_) (fun K hK => ?_)
  ·skip
   refine Kd.R_make0_step k41 _ 41 (by rfl) (N := 11) rfl 23 _ _ rfl (l0_1.length : Int) rfl rfl Try.underlying23 (.agg #[(.int .i64 0), (.int .i64 0), (.int .i64 0), (.int .i64 0), (.int .i64 0)]) 40 info41 (by decide) (ok := fun _ => True) trivial (by omega) (Nat.le_trans (Nat.mul_le_mul_right _ (oT (by first | (with_reducible assumption) | assumption) : (l0_1.length : Int).toNat ≤ 7036874417766)) (by omega)) (Below.refl _ _) (Nat.le_refl _) ?_
   intro v225 w6 ho7 hb hg_ hnew_
   clear hg_ hnew_
   (first | rw [← Ny224.out] at ho7 | (simp only [Int.reduceToNat] at ho7; rw [← Ny224.out] at ho7))
   have HO226 := ak (Kd.R_lower ho7 (below_size (bl2 HB GE222 GE223)))
   replace BK222 := ak (blk_below (bk BK222) hb)
   replace BK223 := ak (blk_below (bk BK223) hb)
   replace HB := ak (below_step (bl2 HB GE222 GE223) hb)
   clear hb ho7
   obtain ⟨Ao8, co8, eo8⟩ := Kd.R_slice HO226.out
   (first | subst eo8 | (injection eo8 with f1_ f2_ f3_; have f4_ := f1_.symm; have f5_ := f3_.symm; clear f1_ f2_ f3_; subst f4_; subst f5_))
   refine hK.out _ _ ⟨(blk_cell BK222.out 0).trans rfl, (blk_cell BK222.out 1).trans rfl⟩ (fun hHeld => ?_)
   clear hK K
   refine norm_ (a' := ?_) ?_ ?_
   rotate_left
   ·show Act.put _ (some 11) _ = _
    simp only [SX]
    rfl
   refine pu 6 12 ?_ (ms 9 127) rfl rfl HT_ (by kernel_rfl) (fun _ _ _ h => h) (by rfl) ?_ ?_ ?_ ?_
   rotate_left
   ·intro w'
    go_simp
    with_reducible rfl
   rotate_left
   ·simp only [SX]
    rfl
   refine one_ (i := 7) (N := some 3) (ms 9 255) rfl rfl (one_of HT_.out (by kernel_rfl)) (by decide) (fun K hK => ?_)
   refine box_step ?hg (N := 3) ?hd (cs := #[.int .i64 0, .slice none 0 0]) (t := 25) ?hr ?_; (case hd => rfl); (case hg => rfl); (case hr => first | (go_simp; done) | (go_simp; rfl))
   intro gb227 hg w9 hbox hb
   replace HO226 := ak (Kd.R_below (rk HO226) hb)
   have BK227 := ak (hbox)
   have GW227 := ak ((by rw [hg]; exact (below_size (bl2 HB GE222 GE223)) : w.heap.size ≤ gb227))
   have GE227 := ak ((by rw [hg]; exact (below_size (bl2 HB GE222 GE223)) : w.heap.size ≤ gb227))
   replace HB := ak (below_step (bl2 HB GE222 GE223) hb)
   have NB222_227 := ak ((by rw [hg]; exact Nat.ne_of_lt (blk_lt (bk BK222)) : gb222 ≠ gb227))
   have NB227_222 := ak ((by rw [hg]; exact Nat.ne_of_gt (blk_lt (bk BK222)) : gb227 ≠ gb222))
   replace BK222 := ak (blk_below (bk BK222) hb)
   have NB223_227 := ak ((by rw [hg]; exact Nat.ne_of_lt (blk_lt (bk BK223)) : gb223 ≠ gb227))
   have NB227_223 := ak ((by rw [hg]; exact Nat.ne_of_gt (blk_lt (bk BK223)) : gb227 ≠ gb223))
   replace BK223 := ak (blk_below (bk BK223) hb)
   clear hb hbox hg
   refine hK.out _ _ ⟨(blk_cell BK222.out 0).trans rfl, (blk_cell BK222.out 1).trans rfl⟩ (fun hHeld => ?_)
   clear hK K
   refine norm_ (a' := ?_) ?_ ?_
   rotate_left
   ·show Act.put _ (some 3) _ = _
    simp only [SX]
    rfl
   exact norm_ (by simp only [putAll, Act.put, List.setIfInBounds_toArray, List.set_cons_zero, List.set_cons_succ]) (hCont (.slice Ao8 y224.length co8, gb227) _ ⟨hHeld, (rk HO226), (bk BK222), (bk BK223), (bk BK227), GW227.out, GE227.out, NB222_227.out, NB227_222.out, NB223_227.out, NB227_223.out, (bl3 HB GE222 GE223 GE227)⟩)
  skip
  refine box_step ?hg (N := 3) ?hd (cs := #[.int .i64 0, .slice none 0 0]) (t := 25) ?hr ?_; (case hd => rfl); (case hg => rfl); (case hr => first | (go_simp; done) | (go_simp; rfl))
  intro gb227 hg w6 hbox hb
  have BK227 := ak (hbox)
  have GW227 := ak ((by rw [hg]; exact (below_size (bl2 HB GE222 GE223)) : w.heap.size ≤ gb227))
  have GE227 := ak ((by rw [hg]; exact (below_size (bl2 HB GE222 GE223)) : w.heap.size ≤ gb227))
  replace HB := ak (below_step (bl2 HB GE222 GE223) hb)
  have NB222_227 := ak ((by rw [hg]; exact Nat.ne_of_lt (blk_lt (bk BK222)) : gb222 ≠ gb227))
  have NB227_222 := ak ((by rw [hg]; exact Nat.ne_of_gt (blk_lt (bk BK222)) : gb227 ≠ gb222))
  replace BK222 := ak (blk_below (bk BK222) hb)
  have NB223_227 := ak ((by rw [hg]; exact Nat.ne_of_lt (blk_lt (bk BK223)) : gb223 ≠ gb227))
  have NB227_223 := ak ((by rw [hg]; exact Nat.ne_of_gt (blk_lt (bk BK223)) : gb227 ≠ gb223))
  replace BK223 := ak (blk_below (bk BK223) hb)
  clear hb hbox hg
  refine hK.out _ _ ⟨(blk_cell BK222.out 0).trans rfl, (blk_cell BK222.out 1).trans rfl⟩ (fun hHeld => ?_)
  clear hK K
  refine norm_ (a' := ?_) ?_ ?_
  rotate_left
  ·show Act.put _ (some 3) _ = _
   simp only [SX]
   rfl
  refine one_ (i := 5) (N := some 11) (ms 9 191) rfl rfl (one_of HT_.out (by kernel_rfl)) (by decide) (fun K hK => ?_)
  refine Kd.R_make0_step k41 _ 41 (by rfl) (N := 11) rfl 23 _ _ rfl (l0_1.length : Int) rfl rfl Try.underlying23 (.agg #[(.int .i64 0), (.int .i64 0), (.int .i64 0), (.int .i64 0), (.int .i64 0)]) 40 info41 (by decide) (ok := fun _ => True) trivial (by omega) (Nat.le_trans (Nat.mul_le_mul_right _ (oT (by first | (with_reducible assumption) | assumption) : (l0_1.length : Int).toNat ≤ 7036874417766)) (by omega)) (Below.refl _ _) (Nat.le_refl _) ?_
  intro v225 w7 ho8 hb hg_ hnew_
  clear hg_ hnew_
  (first | rw [← Ny224.out] at ho8 | (simp only [Int.reduceToNat] at ho8; rw [← Ny224.out] at ho8))
  have HO226 := ak (Kd.R_lower ho8 (below_size (bl3 HB GE222 GE223 GE227)))
  replace BK222 := ak (blk_below (bk BK222) hb)
  replace BK223 := ak (blk_below (bk BK223) hb)
  replace BK227 := ak (blk_below (bk BK227) hb)
  replace HB := ak (below_step (bl3 HB GE222 GE223 GE227) hb)
  clear hb ho8
  obtain ⟨Ao9, co9, eo9⟩ := Kd.R_slice HO226.out
  (first | subst eo9 | (injection eo9 with f1_ f2_ f3_; have f4_ := f1_.symm; have f5_ := f3_.symm; clear f1_ f2_ f3_; subst f4_; subst f5_))
  refine hK.out _ _ ⟨(blk_cell BK222.out 0).trans rfl, (blk_cell BK222.out 1).trans rfl⟩ (fun hHeld => ?_)
  clear hK K
  refine norm_ (a' := ?_) ?_ ?_
  rotate_left
  ·show Act.put _ (some 11) _ = _
   simp only [SX]
   rfl
  refine pu 6 12 ?_ (ms 9 255) rfl rfl HT_ (by kernel_rfl) (fun _ _ _ h => h) (by rfl) ?_ ?_ ?_ ?_
  rotate_left
  ·intro w'
   go_simp
   with_reducible rfl
  rotate_left
  ·simp only [SX]
   rfl
  exact norm_ (by simp only [putAll, Act.put, List.setIfInBounds_toArray, List.set_cons_zero, List.set_cons_succ]) (hCont (.slice Ao9 y224.length co9, gb227) _ ⟨hHeld, (rk HO226), (bk BK222), (bk BK223), (bk BK227), GW227.out, GE227.out, NB222_227.out, NB227_222.out, NB223_227.out, NB227_223.out, (bl3 HB GE222 GE223 GE227)⟩)
 rintro ⟨v225, gb227⟩ w10 ⟨hS_, h0_, h1_, h2_, h3_, h4_, h5_, h6_, h7_, h8_, h9_, h10_⟩
 have HO226 : Aside0 (Kd.R k41 41 w10 w.heap.size (fun _ => True) v225 y224) := ⟨h0_⟩
 replace BK222 : Aside0 (w10.heap[gb222]? = some (.cells #[.int .i64 a0_0, .slice A0_1 l0_1.length c0_1] 25 (0, 0))) := ⟨h1_⟩
 replace BK223 : Aside0 (w10.heap[gb223]? = some (.cells #[.int .i64 0, .slice none 0 0] 25 (0, 0))) := ⟨h2_⟩
 have BK227 : Aside0 (w10.heap[gb227]? = some (.cells #[.int .i64 0, .slice none 0 0] 25 (0, 0))) := ⟨h3_⟩
 have GW227 : Aside0 (w.heap.size ≤ gb227) := ⟨h4_⟩
 have GE227 : Aside0 (w.heap.size ≤ gb227) := ⟨h5_⟩
 have NB222_227 : Aside0 (gb222 ≠ gb227) := ⟨h6_⟩
 have NB227_222 : Aside0 (gb227 ≠ gb222) := ⟨h7_⟩
 have NB223_227 : Aside0 (gb223 ≠ gb227) := ⟨h8_⟩
 have NB227_223 : Aside0 (gb227 ≠ gb223) := ⟨h9_⟩
 replace HB : Aside0 (Below w.heap.size w w10) := ⟨h10_⟩
 clear h0_ h1_ h2_ h3_ h4_ h5_ h6_ h7_ h8_ h9_ h10_
 have hHeld : w10.cell? ⟨gb222, 0, none⟩ = some (.int .i64 a0_0) ∧ w10.cell? ⟨gb222, 1, none⟩ = some (.slice A0_1 l0_1.length c0_1) := hS_
 obtain ⟨Ao11, co11, eo11⟩ := Kd.R_slice HO226.out
 (first | subst eo11 | (injection eo11 with f1_ f2_ f3_; have f4_ := f1_.symm; have f5_ := f3_.symm; clear f1_ f2_ f3_; subst f4_; subst f5_))
 refine norm_ (a' := ?_) ?_ ?_
 rotate_left
 ·simp only [putAll, Act.put, List.setIfInBounds_toArray, List.set_cons_zero, List.set_cons_succ]
  rfl
 refine one_ (i := 8) (N := none) (ms 9 511) rfl rfl (one_of HT_.out (by kernel_rfl)) (by decide) (fun K hK => ?_)
 have hs12 : w10.cell? ⟨gb227, 0, none⟩ = some (.int .i64 0) := (blk_cell BK227.out 0).trans rfl
 have hfs12 := blk_frozen BK227.out 0
 have hns12_0 := NB222_227.out
 have hns12_1 := NB223_227.out
 have hms12_0 := NB227_222.out
 have hms12_1 := NB227_223.out
 have hs13 : w10.cell? ⟨gb227, 1, none⟩ = some (.slice none 0 0) := (blk_cell BK227.out 1).trans rfl
 have hfs13 := blk_frozen BK227.out 1
 have hns13_0 := NB222_227.out
 have hns13_1 := NB223_227.out
 have hms13_0 := NB227_222.out
 have hms13_1 := NB227_223.out
 refine skip_ (w1 := ?_) (by rfl) rfl ?_ ?_
 rotate_left
 ·go_simp
  rfl
 refine hK.out _ _ ⟨((cell_far (p := ⟨gb227, _, none⟩) NB222_227.out _).trans (((cell_far (p := ⟨gb227, _, none⟩) NB222_227.out _).trans (hHeld.1)))), ((cell_far (p := ⟨gb227, _, none⟩) NB222_227.out _).trans (((cell_far (p := ⟨gb227, _, none⟩) NB222_227.out _).trans (hHeld.2))))⟩ (fun hHeld => ?_)
 clear hK K
 refine done_ (done_of HT_.out (by kernel_rfl)) ?_
 have hnb14 := NB222_223.out
 have hnc14 := NB223_222.out
 have hnb15 := NB222_227.out
 have hnc15 := NB227_222.out
 have hcz16_0 := bc w10 BK222 0 (.int .i64 a0_0) rfl
 have hcz16_1 := bc w10 BK222 1 (.slice A0_1 l0_1.length c0_1) rfl
 have hfz16_0 := fz BK222 0
 have hfz16_1 := fz BK222 1
 try go_wp2
 go_loopg [16] k (fun kq v16 w' => ∃ (x16_1 : Int) (x228001_1 : List (S41)) (u228001 : Value), v16 = .int .i64 x16_1 ∧ Aside0 (impl_Net_back.l0 kq l0_1 (l0_1.length : Int) x16_1 a0_0 x228001_1 = some (r1, r2)) ∧ Aside0 (kq ≤ k) ∧ Aside0 (Kd.R k41 41 w' w.heap.size (fun _ => True) u228001 x228001_1) ∧ Aside0 (w'.heap[gb222]? = some (.cells #[.int .i64 a0_0, (.slice A0_1 l0_1.length c0_1)] 25 (0, 0))) ∧ Aside0 (w'.heap[gb223]? = some (.cells #[.int .i64 0, (.slice none 0 0)] 25 (0, 0))) ∧ Aside0 (w'.heap[gb227]? = some (.cells #[.int .i64 a0_0, u228001] 25 (0, 0))) ∧ Aside0 (Below w.heap.size w w'))
 case atStart => exact ⟨(0), (y224), (.slice Ao11 y224.length co11), (by first | rfl | (simp; done) | (simp [*]; done)), H', ⟨Nat.le_refl _⟩, ⟨by (with_reducible repeat (first | apply Kd.R_alloc | apply Kd.R_drewN | apply Kd.R_drew)); exact Kd.R_mono (Kd.R_far (p := ⟨gb227, 1, none⟩) (Kd.R_far (p := ⟨gb227, 0, none⟩) (Kd.R_types HO226.out BK227.out (by decide)) (fun _ hk => hk.2) (.int .i64 a0_0)) (fun _ hk => hk.2) (.slice Ao11 y224.length co11)) (fun _ hk => trivial)⟩, ⟨by (with_reducible repeat (first | refine blk_drewN ?_ _ | refine blk_drew ?_ | refine blk_alloc ?_ _)); refine blk_far ?_ NB222_227.out _; refine blk_far ?_ NB222_227.out _; (with_reducible repeat (first | refine blk_drewN ?_ _ | refine blk_drew ?_ | refine blk_alloc ?_ _)); exact BK222.out⟩, ⟨by (with_reducible repeat (first | refine blk_drewN ?_ _ | refine blk_drew ?_ | refine blk_alloc ?_ _)); refine blk_far ?_ NB223_227.out _; refine blk_far ?_ NB223_227.out _; (with_reducible repeat (first | refine blk_drewN ?_ _ | refine blk_drew ?_ | refine blk_alloc ?_ _)); exact BK223.out⟩, ⟨by (with_reducible repeat (first | refine blk_drewN ?_ _ | refine blk_drew ?_ | refine blk_alloc ?_ _)); refine blk_put (cs := #[.int .i64 a0_0, .slice none 0 0]) ?_ 1 _ rfl; refine blk_put (cs := #[.int .i64 0, .slice none 0 0]) ?_ 0 _ rfl; (with_reducible repeat (first | refine blk_drewN ?_ _ | refine blk_drew ?_ | refine blk_alloc ?_ _)); exact BK227.out⟩, ⟨bl3 HB GE222 GE223 GE227⟩⟩
 clear H'
 try clear c1
 try clear c2
 try clear c2b0
 try clear c2b1
 try clear p2
 try clear c10
 try clear c14
 try clear c15
 try clear hcz16_0
 try clear hcz16_1
 try clear hfz16_0
 try clear hfz16_1
 obtain ⟨x16_1, x228001_1, u228001, rfl, HA, HK1, HO_228001, BK222, BK223, BK227, HB⟩ := hrel
 cases gk with
 | zero => exact absurd HA.out (by simp [impl_Net_back.l0])
 | succ k1 =>
  have H := HA.out
  clear HA
  simp only [impl_Net_back.l0] at H
  by_cases c17 : x16_1 < (l0_1.length : Int)
  rotate_left
  ·rw [if_neg c17] at H
   have c17b0 : decide (x16_1 < (l0_1.length : Int)) = false := decide_eq_false c17
   clear c17
   simp only [Option.some.injEq, Prod.mk.injEq] at H
   obtain ⟨rfl, rfl⟩ := H
   have hnb32 := NB227_222.out
   have hnc32 := NB222_227.out
   have hnb33 := NB227_223.out
   have hnc33 := NB223_227.out
   have hcz34_0 := bc wr BK227 0 (.int .i64 a0_0) rfl
   have hcz34_1 := bc wr BK227 1 (u228001) rfl
   have hfz34_0 := fz BK227 0
   have hfz34_1 := fz BK227 1
   have hnb35 := NB223_222.out
   have hnc35 := NB222_223.out
   have hcz36_0 := bc wr BK223 0 (.int .i64 0) rfl
   have hcz36_1 := bc wr BK223 1 (.slice none 0 0) rfl
   have hfz36_0 := fz BK223 0
   have hfz36_1 := fz BK223 1
   obtain ⟨Ao37, co37, eo37⟩ := Kd.R_slice HO_228001.out
   subst eo37
   go_wp2
   refine bodyPost_ret (results_cell_row rfl _ _ gb223 25 #[.int .i64 a0_0, .slice Ao37 x228001_1.length co37] (0, 0) _ rfl (by (with_reducible repeat (first | refine blk_drewN ?_ _ | refine blk_drew ?_ | refine blk_alloc ?_ _)); refine blk_put (cs := #[.int .i64 a0_0, .slice none 0 0]) ?_ 1 _ rfl; refine blk_put (cs := #[.int .i64 0, .slice none 0 0]) ?_ 0 _ rfl; (with_reducible repeat (first | refine blk_drewN ?_ _ | refine blk_drew ?_ | refine blk_alloc ?_ _)); exact BK223.out) Try.underlying25 rfl (by kernel_rfl)) rfl ?_
   exact ⟨_, by first | rfl | (simp [errW_none, errW_some] <;> rfl) | (simp [*, errW_none, errW_some] <;> rfl), by (with_reducible repeat (first | apply Kd.R_alloc | apply Kd.R_drewN | apply Kd.R_drew)); exact Kd.R_mono (Kd.R_far (p := ⟨gb223, 1, none⟩) (Kd.R_far (p := ⟨gb223, 0, none⟩) (Kd.R_types HO_228001.out BK223.out (by decide)) (fun _ hk => hk.2) (.int .i64 a0_0)) (fun _ hk => hk.2) (.slice Ao37 x228001_1.length co37)) (fun _ hk => trivial), bl3 HB GE222 GE223 GE227⟩
  rw [if_pos c17] at H
  have c17b0 : decide (x16_1 < (l0_1.length : Int)) = true := decide_eq_true c17
  clear c17
  by_cases c18 : 0 ≤ x16_1
  rotate_left
  ·rw [if_neg c18] at H
   exact absurd H (by simp)
  rw [if_pos c18] at H
  have c18b0 : decide (0 ≤ x16_1) = true := decide_eq_true c18
  clear c18
  by_cases c19 : x16_1 < (l0_1.length : Int)
  rotate_left
  ·rw [if_neg c19] at H
   exact absurd H (by simp)
  rw [if_pos c19] at H
  have c19b0 : decide (x16_1 < (l0_1.length : Int)) = true := decide_eq_true c19
  clear c19
  by_cases c20 : x228001_1.length < 3518437208883
  rotate_left
  ·rw [if_neg c20] at H
   exact absurd H (by simp)
  rw [if_pos c20] at H
  have LMc20 := ak c20
  clear c20
  obtain ⟨y230, hy230⟩ : ∃ y_ : List (S41), y_ = (x228001_1 ++ [(⟨(rd_T41 l0_1 x16_1).f1, (rd_T41 l0_1 x16_1).f0, (rd_T41 l0_1 x16_1).f2, (rd_T41 l0_1 x16_1).f3, (rd_T41 l0_1 x16_1).f4⟩ : S41)]) := ⟨_, rfl⟩
  replace H : (impl_Net_back.l0 k1 l0_1 (l0_1.length : Int) (wrap64 (x16_1 + 1)) a0_0 y230) = some (r1, r2) := by first | (rw [hy230]; with_reducible exact H) | (have H2_ := (Option.bind_some _ _).symm.trans H; rw [hy230]; with_reducible exact H2_) | (have H2_ := (Option.bind_some _ _).symm.trans H; with_reducible exact H2_) | with_reducible exact H | (rw [hy230]; exact H) | exact H
  have Ny230 := ak hy230
  clear hy230
  have H' := ak H
  clear H
  have p228 : 0 ≤ (x16_1 : Int) := oT (by first | (with_reducible assumption) | assumption)
  have q228 : x16_1 < (l0_1.length : Int) := oT (by first | (with_reducible assumption) | assumption)
  obtain ⟨ad228, e228, hx228_0, hx228_1, hx228_2, hx228_3, hx228_4⟩ := at_T41 HR0_1.out x16_1 p228 q228
  cases e228
  replace hx228_0 := hcb HB.out hx228_0
  replace hx228_1 := hcb HB.out hx228_1
  replace hx228_2 := hcb HB.out hx228_2
  replace hx228_3 := hcb HB.out hx228_3
  replace hx228_4 := hcb HB.out hx228_4
  replace p228 := eq_true p228
  replace q228 := eq_true q228
  go_wp2_with (first | ((with_reducible refine gate_dst (N := 5) rfl ?_); refine box_event ?hg (N := 5) ?hd (cs := #[.int .i64 0, .int .i64 0, .int .i64 0, .int .i64 0, .int .i64 0]) (t := 41) ?hr ?_; (case hd => rfl); (case hg => rfl); (case hr => first | (go_simp; done) | (go_simp; rfl)); intro gb229 hg w21 hbox hb; replace HO_228001 := ak (Kd.R_below (Kd.R_elderB (rk HO_228001) gb229 (Nat.le_of_eq hg.symm)) hb); have BK229 := ak (hbox); have GW229 := ak ((by rw [hg]; exact (below_size (bl3 HB GE222 GE223 GE227)) : w.heap.size ≤ gb229)); have GE229 := ak ((by rw [hg]; exact (below_size (bl3 HB GE222 GE223 GE227)) : w.heap.size ≤ gb229)); replace HB := ak (below_step (bl3 HB GE222 GE223 GE227) hb); have NB222_229 := ak ((by rw [hg]; exact Nat.ne_of_lt (blk_lt (bk BK222)) : gb222 ≠ gb229)); have NB229_222 := ak ((by rw [hg]; exact Nat.ne_of_gt (blk_lt (bk BK222)) : gb229 ≠ gb222)); replace BK222 := ak (blk_below (bk BK222) hb); have NB223_229 := ak ((by rw [hg]; exact Nat.ne_of_lt (blk_lt (bk BK223)) : gb223 ≠ gb229)); have NB229_223 := ak ((by rw [hg]; exact Nat.ne_of_gt (blk_lt (bk BK223)) : gb229 ≠ gb223)); replace BK223 := ak (blk_below (bk BK223) hb); have NB227_229 := ak ((by rw [hg]; exact Nat.ne_of_lt (blk_lt (bk BK227)) : gb227 ≠ gb229)); have NB229_227 := ak ((by rw [hg]; exact Nat.ne_of_gt (blk_lt (bk BK227)) : gb229 ≠ gb227)); replace BK227 := ak (blk_below (bk BK227) hb); clear hb hbox hg; have hnb22 := NB229_222.out; have hnc22 := NB222_229.out; have hnb23 := NB229_223.out; have hnc23 := NB223_229.out; have hnb24 := NB229_227.out; have hnc24 := NB227_229.out; have hcz25_0 := bc w21 BK229 0 (.int .i64 0) rfl; have hcz25_1 := bc w21 BK229 1 (.int .i64 0) rfl; have hcz25_2 := bc w21 BK229 2 (.int .i64 0) rfl; have hcz25_3 := bc w21 BK229 3 (.int .i64 0) rfl; have hcz25_4 := bc w21 BK229 4 (.int .i64 0) rfl; have hfz25_0 := fz BK229 0; have hfz25_1 := fz BK229 1; have hfz25_2 := fz BK229 2; have hfz25_3 := fz BK229 3; have hfz25_4 := fz BK229 4; have hnb26 := NB227_222.out; have hnc26 := NB222_227.out; have hnb27 := NB227_223.out; have hnc27 := NB223_227.out; have hcz28_0 := bc w21 BK227 0 (.int .i64 a0_0) rfl; have hcz28_1 := bc w21 BK227 1 (u228001) rfl; have hfz28_0 := fz BK227 0; have hfz28_1 := fz BK227 1) | ((with_reducible refine gate_dst (N := 28) rfl ?_); (fail_if_success clear hW_); refine impl_Net_back.fix_world (g := gb229) (o := .cells #[.int .i64 ((rd_T41 l0_1 x16_1).f1), .int .i64 ((rd_T41 l0_1 x16_1).f0), .int .i64 ((rd_T41 l0_1 x16_1).f2), .int .i64 ((rd_T41 l0_1 x16_1).f3), .int .i64 ((rd_T41 l0_1 x16_1).f4)] 41 (0, 0)) (by (with_reducible repeat (first | refine blk_drewN ?_ _ | refine blk_drew ?_ | refine blk_alloc ?_ _)); refine blk_put (cs := #[.int .i64 ((rd_T41 l0_1 x16_1).f1), .int .i64 ((rd_T41 l0_1 x16_1).f1), .int .i64 ((rd_T41 l0_1 x16_1).f2), .int .i64 ((rd_T41 l0_1 x16_1).f3), .int .i64 ((rd_T41 l0_1 x16_1).f4)]) ?_ 1 _ rfl; refine blk_put (cs := #[.int .i64 ((rd_T41 l0_1 x16_1).f0), .int .i64 ((rd_T41 l0_1 x16_1).f1), .int .i64 ((rd_T41 l0_1 x16_1).f2), .int .i64 ((rd_T41 l0_1 x16_1).f3), .int .i64 ((rd_T41 l0_1 x16_1).f4)]) ?_ 0 _ rfl; refine blk_put (cs := #[.int .i64 ((rd_T41 l0_1 x16_1).f0), .int .i64 ((rd_T41 l0_1 x16_1).f1), .int .i64 ((rd_T41 l0_1 x16_1).f2), .int .i64 ((rd_T41 l0_1 x16_1).f3), .int .i64 0]) ?_ 4 _ rfl; refine blk_put (cs := #[.int .i64 ((rd_T41 l0_1 x16_1).f0), .int .i64 ((rd_T41 l0_1 x16_1).f1), .int .i64 ((rd_T41 l0_1 x16_1).f2), .int .i64 0, .int .i64 0]) ?_ 3 _ rfl; refine blk_put (cs := #[.int .i64 ((rd_T41 l0_1 x16_1).f0), .int .i64 ((rd_T41 l0_1 x16_1).f1), .int .i64 0, .int .i64 0, .int .i64 0]) ?_ 2 _ rfl; refine blk_put (cs := #[.int .i64 ((rd_T41 l0_1 x16_1).f0), .int .i64 0, .int .i64 0, .int .i64 0, .int .i64 0]) ?_ 1 _ rfl; refine blk_put (cs := #[.int .i64 0, .int .i64 0, .int .i64 0, .int .i64 0, .int .i64 0]) ?_ 0 _ rfl; (with_reducible repeat (first | refine blk_drewN ?_ _ | refine blk_drew ?_ | refine blk_alloc ?_ _)); exact BK229.out) ?_; intro W_ hW_ hBW_; have hcw_0 : W_.cell? ⟨gb229, 0, none⟩ = some (.int .i64 ((rd_T41 l0_1 x16_1).f1)) := (blk_cell hBW_ 0).trans rfl; have hcw_1 : W_.cell? ⟨gb229, 1, none⟩ = some (.int .i64 ((rd_T41 l0_1 x16_1).f0)) := (blk_cell hBW_ 1).trans rfl; have hcw_2 : W_.cell? ⟨gb229, 2, none⟩ = some (.int .i64 ((rd_T41 l0_1 x16_1).f2)) := (blk_cell hBW_ 2).trans rfl; have hcw_3 : W_.cell? ⟨gb229, 3, none⟩ = some (.int .i64 ((rd_T41 l0_1 x16_1).f3)) := (blk_cell hBW_ 3).trans rfl; have hcw_4 : W_.cell? ⟨gb229, 4, none⟩ = some (.int .i64 ((rd_T41 l0_1 x16_1).f4)) := (blk_cell hBW_ 4).trans rfl) | ((with_reducible refine gate_dst (N := 29) rfl ?_); clear hBW_ hcw_0 hcw_1 hcw_2 hcw_3 hcw_4; subst hW_) | ((with_reducible refine gate_builtin (b := .append) (xs := #[.tmp 27, .tmp 29]) rfl ?_); at_builtin; refine Kd.R_append k41 (w0 := w) w.heap.size rfl (.tmp 27) (.tmp 29) 23 41 (.agg #[(.int .i64 0), (.int .i64 0), (.int .i64 0), (.int .i64 0), (.int .i64 0)]) 40 rfl Try.underlying23 info41 rfl (by decide) (by omega) u228001 x228001_1 (⟨(rd_T41 l0_1 x16_1).f1, (rd_T41 l0_1 x16_1).f0, (rd_T41 l0_1 x16_1).f2, (rd_T41 l0_1 x16_1).f3, (rd_T41 l0_1 x16_1).f4⟩ : S41) [.int .i64 ((rd_T41 l0_1 x16_1).f1), .int .i64 ((rd_T41 l0_1 x16_1).f0), .int .i64 ((rd_T41 l0_1 x16_1).f2), .int .i64 ((rd_T41 l0_1 x16_1).f3), .int .i64 ((rd_T41 l0_1 x16_1).f4)] (fun k_ => k_ ≠ gb229) (fun _ => False) rfl (by first | (go_simp; done) | (go_simp; rfl)) ?aP (fun _ hk => hk.elim) ?aF ?aO ?aB ?aS ?aL ?_; (case aP => exact k41_mkM _ _ _ (⟨(rd_T41 l0_1 x16_1).f1, (rd_T41 l0_1 x16_1).f0, (rd_T41 l0_1 x16_1).f2, (rd_T41 l0_1 x16_1).f3, (rd_T41 l0_1 x16_1).f4⟩ : S41)); (case aB => exact (bl4 HB GE222 GE223 GE227 GE229)); (case aF => exact (fun k_ hk => Kd.freshB (g := gb229) (o := .cells #[.int .i64 ((rd_T41 l0_1 x16_1).f1), .int .i64 ((rd_T41 l0_1 x16_1).f0), .int .i64 ((rd_T41 l0_1 x16_1).f2), .int .i64 ((rd_T41 l0_1 x16_1).f3), .int .i64 ((rd_T41 l0_1 x16_1).f4)] 41 (0, 0)) (by (with_reducible repeat (first | refine blk_drewN ?_ _ | refine blk_drew ?_ | refine blk_alloc ?_ _)); refine blk_put (cs := #[.int .i64 ((rd_T41 l0_1 x16_1).f1), .int .i64 ((rd_T41 l0_1 x16_1).f1), .int .i64 ((rd_T41 l0_1 x16_1).f2), .int .i64 ((rd_T41 l0_1 x16_1).f3), .int .i64 ((rd_T41 l0_1 x16_1).f4)]) ?_ 1 _ rfl; refine blk_put (cs := #[.int .i64 ((rd_T41 l0_1 x16_1).f0), .int .i64 ((rd_T41 l0_1 x16_1).f1), .int .i64 ((rd_T41 l0_1 x16_1).f2), .int .i64 ((rd_T41 l0_1 x16_1).f3), .int .i64 ((rd_T41 l0_1 x16_1).f4)]) ?_ 0 _ rfl; refine blk_put (cs := #[.int .i64 ((rd_T41 l0_1 x16_1).f0), .int .i64 ((rd_T41 l0_1 x16_1).f1), .int .i64 ((rd_T41 l0_1 x16_1).f2), .int .i64 ((rd_T41 l0_1 x16_1).f3), .int .i64 0]) ?_ 4 _ rfl; refine blk_put (cs := #[.int .i64 ((rd_T41 l0_1 x16_1).f0), .int .i64 ((rd_T41 l0_1 x16_1).f1), .int .i64 ((rd_T41 l0_1 x16_1).f2), .int .i64 0, .int .i64 0]) ?_ 3 _ rfl; refine blk_put (cs := #[.int .i64 ((rd_T41 l0_1 x16_1).f0), .int .i64 ((rd_T41 l0_1 x16_1).f1), .int .i64 0, .int .i64 0, .int .i64 0]) ?_ 2 _ rfl; refine blk_put (cs := #[.int .i64 ((rd_T41 l0_1 x16_1).f0), .int .i64 0, .int .i64 0, .int .i64 0, .int .i64 0]) ?_ 1 _ rfl; refine blk_put (cs := #[.int .i64 0, .int .i64 0, .int .i64 0, .int .i64 0, .int .i64 0]) ?_ 0 _ rfl; (with_reducible repeat (first | refine blk_drewN ?_ _ | refine blk_drew ?_ | refine blk_alloc ?_ _)); exact BK229.out) k_ hk)); (case aO => exact (by (with_reducible repeat (first | apply Kd.R_alloc | apply Kd.R_drewN | apply Kd.R_drew)); exact Kd.R_mono (Kd.R_far (p := ⟨gb229, 1, none⟩) (Kd.R_far (p := ⟨gb229, 0, none⟩) (Kd.R_far (p := ⟨gb229, 4, none⟩) (Kd.R_far (p := ⟨gb229, 3, none⟩) (Kd.R_far (p := ⟨gb229, 2, none⟩) (Kd.R_far (p := ⟨gb229, 1, none⟩) (Kd.R_far (p := ⟨gb229, 0, none⟩) (Kd.R_mono HO_228001.out (fun k_ hk => (⟨hk, hk.2⟩ : _ ∧ k_ ≠ gb229))) (fun _ hk => hk.2) (.int .i64 ((rd_T41 l0_1 x16_1).f0))) (fun _ hk => hk.2) (.int .i64 ((rd_T41 l0_1 x16_1).f1))) (fun _ hk => hk.2) (.int .i64 ((rd_T41 l0_1 x16_1).f2))) (fun _ hk => hk.2) (.int .i64 ((rd_T41 l0_1 x16_1).f3))) (fun _ hk => hk.2) (.int .i64 ((rd_T41 l0_1 x16_1).f4))) (fun _ hk => hk.2) (.int .i64 ((rd_T41 l0_1 x16_1).f1))) (fun _ hk => hk.2) (.int .i64 ((rd_T41 l0_1 x16_1).f0))) (fun _ hk => hk.1.2))); (case aS => exact (below_size (bl4 HB GE222 GE223 GE227 GE229))); (case aL => have := LMc20.out; omega); intro v231 w29 ho hb hg hat; rw [← Ny230.out] at ho; have n0_ := ak (blk_grown (g := gb222) (o := .cells #[.int .i64 a0_0, .slice (some ad228) l0_1.length c0_1] 25 (0, 0)) (by (with_reducible repeat (first | refine blk_drewN ?_ _ | refine blk_drew ?_ | refine blk_alloc ?_ _)); refine blk_far ?_ NB222_229.out _; refine blk_far ?_ NB222_229.out _; refine blk_far ?_ NB222_229.out _; refine blk_far ?_ NB222_229.out _; refine blk_far ?_ NB222_229.out _; refine blk_far ?_ NB222_229.out _; refine blk_far ?_ NB222_229.out _; (with_reducible repeat (first | refine blk_drewN ?_ _ | refine blk_drew ?_ | refine blk_alloc ?_ _)); exact BK222.out) hg (Kd.R_ne HO_228001.out BK222.out (by decide))); have n1_ := ak (blk_grown (g := gb223) (o := .cells #[.int .i64 0, .slice none 0 0] 25 (0, 0)) (by (with_reducible repeat (first | refine blk_drewN ?_ _ | refine blk_drew ?_ | refine blk_alloc ?_ _)); refine blk_far ?_ NB223_229.out _; refine blk_far ?_ NB223_229.out _; refine blk_far ?_ NB223_229.out _; refine blk_far ?_ NB223_229.out _; refine blk_far ?_ NB223_229.out _; refine blk_far ?_ NB223_229.out _; refine blk_far ?_ NB223_229.out _; (with_reducible repeat (first | refine blk_drewN ?_ _ | refine blk_drew ?_ | refine blk_alloc ?_ _)); exact BK223.out) hg (Kd.R_ne HO_228001.out BK223.out (by decide))); have n2_ := ak (blk_grown (g := gb227) (o := .cells #[.int .i64 a0_0, u228001] 25 (0, 0)) (by (with_reducible repeat (first | refine blk_drewN ?_ _ | refine blk_drew ?_ | refine blk_alloc ?_ _)); refine blk_far ?_ NB227_229.out _; refine blk_far ?_ NB227_229.out _; refine blk_far ?_ NB227_229.out _; refine blk_far ?_ NB227_229.out _; refine blk_far ?_ NB227_229.out _; refine blk_far ?_ NB227_229.out _; refine blk_far ?_ NB227_229.out _; (with_reducible repeat (first | refine blk_drewN ?_ _ | refine blk_drew ?_ | refine blk_alloc ?_ _)); exact BK227.out) hg (Kd.R_ne HO_228001.out BK227.out (by decide))); have n3_ := ak (blk_grown (g := gb229) (o := .cells #[.int .i64 ((rd_T41 l0_1 x16_1).f1), .int .i64 ((rd_T41 l0_1 x16_1).f0), .int .i64 ((rd_T41 l0_1 x16_1).f2), .int .i64 ((rd_T41 l0_1 x16_1).f3), .int .i64 ((rd_T41 l0_1 x16_1).f4)] 41 (0, 0)) (by (with_reducible repeat (first | refine blk_drewN ?_ _ | refine blk_drew ?_ | refine blk_alloc ?_ _)); refine blk_put (cs := #[.int .i64 ((rd_T41 l0_1 x16_1).f1), .int .i64 ((rd_T41 l0_1 x16_1).f1), .int .i64 ((rd_T41 l0_1 x16_1).f2), .int .i64 ((rd_T41 l0_1 x16_1).f3), .int .i64 ((rd_T41 l0_1 x16_1).f4)]) ?_ 1 _ rfl; refine blk_put (cs := #[.int .i64 ((rd_T41 l0_1 x16_1).f0), .int .i64 ((rd_T41 l0_1 x16_1).f1), .int .i64 ((rd_T41 l0_1 x16_1).f2), .int .i64 ((rd_T41 l0_1 x16_1).f3), .int .i64 ((rd_T41 l0_1 x16_1).f4)]) ?_ 0 _ rfl; refine blk_put (cs := #[.int .i64 ((rd_T41 l0_1 x16_1).f0), .int .i64 ((rd_T41 l0_1 x16_1).f1), .int .i64 ((rd_T41 l0_1 x16_1).f2), .int .i64 ((rd_T41 l0_1 x16_1).f3), .int .i64 0]) ?_ 4 _ rfl; refine blk_put (cs := #[.int .i64 ((rd_T41 l0_1 x16_1).f0), .int .i64 ((rd_T41 l0_1 x16_1).f1), .int .i64 ((rd_T41 l0_1 x16_1).f2), .int .i64 0, .int .i64 0]) ?_ 3 _ rfl; refine blk_put (cs := #[.int .i64 ((rd_T41 l0_1 x16_1).f0), .int .i64 ((rd_T41 l0_1 x16_1).f1), .int .i64 0, .int .i64 0, .int .i64 0]) ?_ 2 _ rfl; refine blk_put (cs := #[.int .i64 ((rd_T41 l0_1 x16_1).f0), .int .i64 0, .int .i64 0, .int .i64 0, .int .i64 0]) ?_ 1 _ rfl; refine blk_put (cs := #[.int .i64 0, .int .i64 0, .int .i64 0, .int .i64 0, .int .i64 0]) ?_ 0 _ rfl; (with_reducible repeat (first | refine blk_drewN ?_ _ | refine blk_drew ?_ | refine blk_alloc ?_ _)); exact BK229.out) hg (Kd.R_away HO_228001.out (fun _ hk => hk.2))); have n4_ := ak (hb); have n5_ := ak (ho); clear BK222; clear BK223; clear BK227; clear BK229; clear HB; clear HO_228001; have BK222 := n0_; have BK223 := n1_; have BK227 := n2_; have BK229 := n3_; have HB := n4_; have HO232 := n5_; clear n0_ n1_ n2_ n3_ n4_ n5_; clear ho hb hg hat; obtain ⟨Ao30, co30, eo30⟩ := Kd.R_slice HO232.out; subst eo30; have hcz31_0 := bc w29 BK227 0 (.int .i64 a0_0) rfl; have hcz31_1 := bc w29 BK227 1 (u228001) rfl; have hfz31_0 := fz BK227 0; have hfz31_1 := fz BK227 1))
  go_roundg k1
  case measure => have := HK1.out; omega
  case rel => exact ⟨(wrap64 (x16_1 + 1)), (y230), (.slice Ao30 y230.length co30), (by first | rfl | (simp; done) | (simp [*]; done)), H', ⟨by have := HK1.out; omega⟩, ⟨by (with_reducible repeat (first | apply Kd.R_alloc | apply Kd.R_drewN | apply Kd.R_drew)); exact Kd.R_mono (Kd.R_far (p := ⟨gb227, 1, none⟩) (Kd.R_types HO232.out BK227.out (by decide)) (fun _ hk => hk.2) (.slice Ao30 y230.length co30)) (fun _ hk => trivial)⟩, ⟨by (with_reducible repeat (first | refine blk_drewN ?_ _ | refine blk_drew ?_ | refine blk_alloc ?_ _)); refine blk_far ?_ NB222_227.out _; (with_reducible repeat (first | refine blk_drewN ?_ _ | refine blk_drew ?_ | refine blk_alloc ?_ _)); exact BK222.out⟩, ⟨by (with_reducible repeat (first | refine blk_drewN ?_ _ | refine blk_drew ?_ | refine blk_alloc ?_ _)); refine blk_far ?_ NB223_227.out _; (with_reducible repeat (first | refine blk_drewN ?_ _ | refine blk_drew ?_ | refine blk_alloc ?_ _)); exact BK223.out⟩, ⟨by (with_reducible repeat (first | refine blk_drewN ?_ _ | refine blk_drew ?_ | refine blk_alloc ?_ _)); refine blk_put (cs := #[.int .i64 a0_0, u228001]) ?_ 1 _ rfl; (with_reducible repeat (first | refine blk_drewN ?_ _ | refine blk_drew ?_ | refine blk_alloc ?_ _)); exact BK227.out⟩, ⟨bl4 HB GE222 GE223 GE227 GE229⟩⟩

end Go.Proofs.Ytgickejeakmenaa.F
