-- Printed by wip/px/px.py of this claim's repository (the kit's printer, extended there). Lean checks it.
import Derived.Test.YtbappbbljncdeaaFKinds
namespace Go.Proofs.Ytbappbbljncdeaa.F
open Go.RowKit Go.Proofs.YtbappbbljncdeaaW.PrintWords Go.Proofs.YtbappbbljncdeaaW.PrintLast Go.Proofs.YtbappbbljncdeaaW.PrintMore
attribute [local go_sem] max2_int min2_int max_two min_two max_three min_three max_four min_four   -- for this text's walks alone
set_option linter.unusedVariables false
set_option linter.unusedSimpArgs false

/-! ### impl_Net_back: function 129 -/
def impl_Net_back.l0 : Nat → List (S100) → Int → Int → Int → List (S100) → Option (Int × (List (S100)))
 | 0, _, _, _, _, _ => none
 | k + 1, x14, x15, x16, x246000, x246001 => if x16 < x15 then (if 0 ≤ x16 then (if x16 < (x14.length : Int) then (if x246001.length < 3518437208883 then (impl_Net_back.l0 k x14 x15 (wrap64 (x16 + 1)) x246000 (x246001 ++ [(⟨(rd_T100 x14 x16).f1, (rd_T100 x14 x16).f0, (rd_T100 x14 x16).f2, (rd_T100 x14 x16).f3, (rd_T100 x14 x16).f4⟩ : S100)])) else (none)) else (none)) else (none)) else (some (x246000, x246001))
def impl_Net_back.f (k : Nat) (a0_0 : Int) (l0_1 : List (S100)) : Option (Int × (List (S100))) := if ((l0_1.length : Int) : Int).toNat ≤ 7036874417766 then (impl_Net_back.l0 k l0_1 (l0_1.length : Int) 0 a0_0 (([] : List (S100)))) else (none)
theorem impl_Net_back.mono_l : ∀ k, (∀ y0 y1 y2 y3 y4, LeO (impl_Net_back.l0 k y0 y1 y2 y3 y4) (impl_Net_back.l0 (k + 1) y0 y1 y2 y3 y4))
 | 0 => fun _ _ _ _ _ r h => by simp [impl_Net_back.l0] at h
 | k + 1 => by
  have ih0 := impl_Net_back.mono_l k
  ·intro y0 y1 y2 y3 y4
   unfold impl_Net_back.l0
   repeat' first
   | (with_reducible exact ih0 _ _ _ _ _)
   | (with_reducible exact LeO.refl _)
   | (with_reducible exact LeO.none _)
   | (with_reducible refine LeO.ite ?_ ?_)
   | (with_reducible refine LeO.bind ?_ (fun _ => ?_))
   | exact ih0 _ _ _ _ _
   | exact LeO.none _
   | refine LeO.ite ?_ ?_
   | refine LeO.bind ?_ (fun _ => ?_)
theorem impl_Net_back.mono : ∀ a0 a1 k, LeO (impl_Net_back.f k a0 a1) (impl_Net_back.f (k + 1) a0 a1) := by
 intro a0 a1 k
 have ih0 := impl_Net_back.mono_l k
 unfold impl_Net_back.f
 repeat' first
   | (with_reducible exact ih0 _ _ _ _ _)
   | (with_reducible exact LeO.refl _)
   | (with_reducible exact LeO.none _)
   | (with_reducible refine LeO.ite ?_ ?_)
   | (with_reducible refine LeO.bind ?_ (fun _ => ?_))
   | exact ih0 _ _ _ _ _
   | exact LeO.none _
   | refine LeO.ite ?_ ?_
   | refine LeO.bind ?_ (fun _ => ?_)
def impl_Net_back.T1 : Bool × List (List Nat × List Nat) := (true, [([], []), ([0], [0]), ([], []), ([2], [2]), ([3], [3]), ([4], [4]), ([1, 5], [1, 5]), ([], []), ([7, 6, 0, 1, 2, 3, 4, 5, 6, 7], [6, 7])])
def impl_Net_back.B1 : List Nat := [0, 1, 0, 4, 12, 28, 63, 0, 255]
theorem impl_Net_back.tab1 : rtab .any (opsOf Try.f129 1) = impl_Net_back.T1 := by kernel_rfl
theorem impl_Net_back.bits1 : waitsOk impl_Net_back.T1.2 impl_Net_back.B1 = true := by kernel_rfl
theorem impl_Net_back.fix_world {P : Program} {ops : Array Oper} {Q : Exit → Act → World → Prop} {l : List Oper} {a : Act} {W : World} {g : Nat} {o : Obj} (hb : W.heap[g]? = some o) (h : ∀ W', W = W' → W'.heap[g]? = some o → wpList P ops Q l a W') : wpList P ops Q l a W := h W rfl hb
set_option maxHeartbeats 8000000 in
set_option maxRecDepth 100000 in
theorem impl_Net_back.calls (k : Nat) (a0_0 : Int) (A0_1 : Option Addr) (c0_1 : Nat) (l0_1 : List (S100)) (r1 : Int) (r2 : List (S100)) (w : World) (hr0_1 : Kd.C k100 w A0_1 l0_1.length l0_1) (hc0_1 : l0_1.length ≤ c0_1) (h : impl_Net_back.f k a0_0 l0_1 = some (r1, r2)) :
  Calls Try.prog 129 #[.agg #[.int .i64 a0_0, .slice A0_1 l0_1.length c0_1]] w fun e w' => ∃ v1_ : Value, e = .returned (.agg #[.int .i64 r1, v1_]) ∧ Kd.R k100 100 w' w.heap.size (fun _ => True) v1_ r2 ∧ Below w.heap.size w w' := by
 have hu30 := Try.underlying30
 have hu100 := Try.underlying100
 have HR0_1 := Aside0.mk hr0_1
 have HC0_1 := Aside0.mk hc0_1
 clear hr0_1 hc0_1
 have HB := Aside0.mk (Below.refl w.heap.size w)
 have H : (if ((l0_1.length : Int) : Int).toNat ≤ 7036874417766 then (impl_Net_back.l0 k l0_1 (l0_1.length : Int) 0 a0_0 (([] : List (S100)))) else (none)) = some (r1, r2) := h
 clear h
 by_cases c2 : ((l0_1.length : Int) : Int).toNat ≤ 7036874417766
 rotate_left
 ·rw [if_neg c2] at H
  exact absurd H (by simp)
 rw [if_pos c2] at H
 have c2b0 := eq_true c2
 have c2b1 : decide (((l0_1.length : Int) : Int).toNat ≤ 7036874417766) = true := decide_eq_true c2
 clear c2
 obtain ⟨y242, hy242⟩ : ∃ y_ : List (S100), y_ = (([] : List (S100))) := ⟨_, rfl⟩
 replace H : (impl_Net_back.l0 k l0_1 (l0_1.length : Int) 0 a0_0 y242) = some (r1, r2) := by first | (rw [hy242]; with_reducible exact H) | (have H2_ := (Option.bind_some _ _).symm.trans H; rw [hy242]; with_reducible exact H2_) | (have H2_ := (Option.bind_some _ _).symm.trans H; with_reducible exact H2_) | with_reducible exact H | (rw [hy242]; exact H) | exact H
 have Ny242 := Aside0.mk hy242
 clear hy242
 have H' := Aside0.mk H
 clear H
 go_enter Try.func129, Try.ntmps129
 try go_wp2_with (first | ((with_reducible refine gate_dst (N := 1) rfl ?_); refine box_event ?hg (N := 1) ?hd (cs := #[.int .i64 a0_0, .slice A0_1 l0_1.length c0_1]) (t := 30) ?hr ?_; (case hd => rfl); (case hg => rfl); (case hr => first | (go_simp; done) | (go_simp; rfl)); intro gb240 hg w3 hbox hb; have BK240 := Aside0.mk (hbox); have GW240 := Aside0.mk ((by rw [hg]; exact (below_size (bl HB)) : w.heap.size ≤ gb240)); have GE240 := Aside0.mk ((by rw [hg]; exact (below_size (bl HB)) : w.heap.size ≤ gb240)); replace HB := Aside0.mk (below_step (bl HB) hb); clear hb hbox hg) | ((with_reducible refine gate_dst (N := 2) rfl ?_); refine box_event ?hg (N := 2) ?hd (cs := #[.int .i64 0, .slice none 0 0]) (t := 30) ?hr ?_; (case hd => rfl); (case hg => rfl); (case hr => first | (go_simp; done) | (go_simp; rfl)); intro gb241 hg w4 hbox hb; have BK241 := Aside0.mk (hbox); have GW241 := Aside0.mk ((by rw [hg]; exact (below_size (bl1 HB GE240)) : w.heap.size ≤ gb241)); have GE241 := Aside0.mk ((by rw [hg]; exact (below_size (bl1 HB GE240)) : w.heap.size ≤ gb241)); replace HB := Aside0.mk (below_step (bl1 HB GE240) hb); have NB240_241 := Aside0.mk ((by rw [hg]; exact Nat.ne_of_lt (blk_lt (bk BK240)) : gb240 ≠ gb241)); have NB241_240 := Aside0.mk ((by rw [hg]; exact Nat.ne_of_gt (blk_lt (bk BK240)) : gb241 ≠ gb240)); replace BK240 := Aside0.mk (blk_below (bk BK240) hb); clear hb hbox hg))
 replace BK240 := Aside0.mk (blk_drew BK240.out)
 replace BK241 := Aside0.mk (blk_drew BK241.out)
 replace HB := Aside0.mk (below_drew1 HB.out)
 refine start_ (n := 9) (S := fun w' => w'.cell? ⟨gb240, 0, none⟩ = some (.int .i64 a0_0) ∧ w'.cell? ⟨gb240, 1, none⟩ = some (.slice A0_1 l0_1.length c0_1)) (ds := []) (ms 9 0) (by kernel_rfl) rfl (by kernel_rfl) ⟨(blk_cell BK240.out 0).trans rfl, (blk_cell BK240.out 1).trans rfl⟩ (fun hHeld => ?_); refine with_tabW impl_Net_back.tab1 impl_Net_back.bits1 (fun HT_ HW_ => ?_)
 generalize w4.drew = w5 at BK240 BK241 HB hHeld ⊢
 refine pure_ (i := 0) (N := some 6) (v := ?_) (a' := ?_) (ms 9 1) rfl rfl (any_of HT_.out (by kernel_rfl)) (fun _ _ _ h => h) (Or.inl ⟨by rfl, ?_⟩) ?_ ?_
 rotate_left
 ·intro w'
  go_simp
  with_reducible rfl
 rotate_left
 ·simp only [Act.put, sA, sB, sC, i64_w, i32_w]
  rfl
 refine pure_ (i := 2) (N := some 8) (v := ?_) (a' := ?_) (ms 9 5) rfl rfl (any_of HT_.out (by kernel_rfl)) (fun _ _ _ h => h) (Or.inl ⟨by rfl, ?_⟩) ?_ ?_
 rotate_left
 ·intro w'
  go_simp
  with_reducible rfl
 rotate_left
 ·simp only [Act.put, sA, sB, sC, i64_w, i32_w]
  rfl
 refine take_ (i := 1) (N := some 7) (v := ?_) (a' := ?_) (ms 9 7) rfl rfl (take_ofW HT_.out HW_.out (by kernel_rfl)) (fun _ _ _ h => h) (Or.inl ⟨by rfl, ?_⟩) hHeld ?_ ?_
 rotate_left
 ·rintro w' ⟨s0, s1⟩
  go_simp
  with_reducible rfl
 rotate_left
 ·simp only [Act.put, sA, sB, sC, i64_w, i32_w]
  rfl
 refine take_ (i := 3) (N := some 9) (v := ?_) (a' := ?_) (ms 9 15) rfl rfl (take_ofW HT_.out HW_.out (by kernel_rfl)) (fun _ _ _ h => h) (Or.inl ⟨by rfl, ?_⟩) hHeld ?_ ?_
 rotate_left
 ·rintro w' ⟨s0, s1⟩
  go_simp
  with_reducible rfl
 rotate_left
 ·simp only [Act.put, sA, sB, sC, i64_w, i32_w]
  rfl
 refine pure_ (i := 4) (N := some 10) (v := ?_) (a' := ?_) (ms 9 31) rfl rfl (any_of HT_.out (by kernel_rfl)) (fun _ _ _ h => h) (Or.inl ⟨by rfl, ?_⟩) ?_ ?_
 rotate_left
 ·intro w'
  go_simp
  with_reducible rfl
 rotate_left
 ·simp only [Act.put, sA, sB, sC, i64_w, i32_w]
  rfl
 refine join_ (σ := Value × Nat) 1 (ms 9 255) (fun s_ => [(11, s_.1), (3, .pointer (some ⟨s_.2, 0, none⟩)), (12, .agg #[.int .i64 a0_0, s_.1])]) (fun s_ w' => (w'.cell? ⟨gb240, 0, none⟩ = some (.int .i64 a0_0) ∧ w'.cell? ⟨gb240, 1, none⟩ = some (.slice A0_1 l0_1.length c0_1)) ∧ (Kd.R k100 100 w' w.heap.size (fun _ => True) s_.1 y242) ∧ (w'.heap[gb240]? = some (.cells #[.int .i64 a0_0, .slice A0_1 l0_1.length c0_1] 30 (0, 0))) ∧ (w'.heap[gb241]? = some (.cells #[.int .i64 0, .slice none 0 0] 30 (0, 0))) ∧ (w'.heap[s_.2]? = some (.cells #[.int .i64 0, .slice none 0 0] 30 (0, 0))) ∧ (w.heap.size ≤ s_.2) ∧ (w.heap.size ≤ s_.2) ∧ (gb240 ≠ s_.2) ∧ (s_.2 ≠ gb240) ∧ (gb241 ≠ s_.2) ∧ (s_.2 ≠ gb241) ∧ (Below w.heap.size w w')) ?_ ?_
 rotate_left
 ·intro hCont
  refine two_ (i := 5) (j := 7) (Ni := some 11) (Nj := some 3) (ms 9 63) (ms 9 159) rfl rfl rfl rfl (two_of HT_.out (by kernel_rfl)) (by decide) (by decide) (fun K hK => ?_) (fun K hK => ?_)
  ·skip
   refine Kd.R_make0_step k100 _ 100 (by rfl) (N := 11) rfl 28 _ _ rfl (l0_1.length : Int) rfl rfl Try.underlying28 (.agg #[(.int .i64 0), (.int .i64 0), (.int .i64 0), (.int .i64 0), (.int .i64 0)]) 40 info100 (by decide) (ok := fun _ => True) trivial (by omega) (Nat.le_trans (Nat.mul_le_mul_right _ (oT (by first | (with_reducible assumption) | assumption) : (l0_1.length : Int).toNat ≤ 7036874417766)) (by omega)) (Below.refl _ _) (Nat.le_refl _) ?_
   intro v243 w6 ho7 hb hg_ hnew_
   clear hg_ hnew_
   (first | rw [← Ny242.out] at ho7 | (simp only [Int.reduceToNat] at ho7; rw [← Ny242.out] at ho7))
   have HO244 := Aside0.mk (Kd.R_lower ho7 (below_size (bl2 HB GE240 GE241)))
   replace BK240 := Aside0.mk (blk_below (bk BK240) hb)
   replace BK241 := Aside0.mk (blk_below (bk BK241) hb)
   replace HB := Aside0.mk (below_step (bl2 HB GE240 GE241) hb)
   clear hb ho7
   obtain ⟨Ao8, co8, eo8⟩ := Kd.R_slice HO244.out
   (first | subst eo8 | (injection eo8 with f1_ f2_ f3_; have f4_ := f1_.symm; have f5_ := f3_.symm; clear f1_ f2_ f3_; subst f4_; subst f5_))
   refine hK.out _ _ ⟨(blk_cell BK240.out 0).trans rfl, (blk_cell BK240.out 1).trans rfl⟩ (fun hHeld => ?_)
   clear hK K
   refine norm_ (a' := ?_) ?_ ?_
   rotate_left
   ·show Act.put _ (some 11) _ = _
    simp only [Act.put, sA, sB, sC, i64_w, i32_w]
    rfl
   refine pure_ (i := 6) (N := some 12) (v := ?_) (a' := ?_) (ms 9 127) rfl rfl (any_of HT_.out (by kernel_rfl)) (fun _ _ _ h => h) (Or.inl ⟨by rfl, ?_⟩) ?_ ?_
   rotate_left
   ·intro w'
    go_simp
    with_reducible rfl
   rotate_left
   ·simp only [Act.put, sA, sB, sC, i64_w, i32_w]
    rfl
   refine one_ (i := 7) (N := some 3) (ms 9 255) rfl rfl (one_of HT_.out (by kernel_rfl)) (by decide) (fun K hK => ?_)
   refine box_step ?hg (N := 3) ?hd (cs := #[.int .i64 0, .slice none 0 0]) (t := 30) ?hr ?_; (case hd => rfl); (case hg => rfl); (case hr => first | (go_simp; done) | (go_simp; rfl))
   intro gb245 hg w9 hbox hb
   replace HO244 := Aside0.mk (Kd.R_below (rk HO244) hb)
   have BK245 := Aside0.mk (hbox)
   have GW245 := Aside0.mk ((by rw [hg]; exact (below_size (bl2 HB GE240 GE241)) : w.heap.size ≤ gb245))
   have GE245 := Aside0.mk ((by rw [hg]; exact (below_size (bl2 HB GE240 GE241)) : w.heap.size ≤ gb245))
   replace HB := Aside0.mk (below_step (bl2 HB GE240 GE241) hb)
   have NB240_245 := Aside0.mk ((by rw [hg]; exact Nat.ne_of_lt (blk_lt (bk BK240)) : gb240 ≠ gb245))
   have NB245_240 := Aside0.mk ((by rw [hg]; exact Nat.ne_of_gt (blk_lt (bk BK240)) : gb245 ≠ gb240))
   replace BK240 := Aside0.mk (blk_below (bk BK240) hb)
   have NB241_245 := Aside0.mk ((by rw [hg]; exact Nat.ne_of_lt (blk_lt (bk BK241)) : gb241 ≠ gb245))
   have NB245_241 := Aside0.mk ((by rw [hg]; exact Nat.ne_of_gt (blk_lt (bk BK241)) : gb245 ≠ gb241))
   replace BK241 := Aside0.mk (blk_below (bk BK241) hb)
   clear hb hbox hg
   refine hK.out _ _ ⟨(blk_cell BK240.out 0).trans rfl, (blk_cell BK240.out 1).trans rfl⟩ (fun hHeld => ?_)
   clear hK K
   refine norm_ (a' := ?_) ?_ ?_
   rotate_left
   ·show Act.put _ (some 3) _ = _
    simp only [Act.put, sA, sB, sC, i64_w, i32_w]
    rfl
   exact norm_ (by simp only [putAll, Act.put, List.setIfInBounds_toArray, List.set_cons_zero, List.set_cons_succ]) (hCont (.slice Ao8 y242.length co8, gb245) _ ⟨hHeld, (rk HO244), (bk BK240), (bk BK241), (bk BK245), GW245.out, GE245.out, NB240_245.out, NB245_240.out, NB241_245.out, NB245_241.out, (bl3 HB GE240 GE241 GE245)⟩)
  skip
  refine box_step ?hg (N := 3) ?hd (cs := #[.int .i64 0, .slice none 0 0]) (t := 30) ?hr ?_; (case hd => rfl); (case hg => rfl); (case hr => first | (go_simp; done) | (go_simp; rfl))
  intro gb245 hg w6 hbox hb
  have BK245 := Aside0.mk (hbox)
  have GW245 := Aside0.mk ((by rw [hg]; exact (below_size (bl2 HB GE240 GE241)) : w.heap.size ≤ gb245))
  have GE245 := Aside0.mk ((by rw [hg]; exact (below_size (bl2 HB GE240 GE241)) : w.heap.size ≤ gb245))
  replace HB := Aside0.mk (below_step (bl2 HB GE240 GE241) hb)
  have NB240_245 := Aside0.mk ((by rw [hg]; exact Nat.ne_of_lt (blk_lt (bk BK240)) : gb240 ≠ gb245))
  have NB245_240 := Aside0.mk ((by rw [hg]; exact Nat.ne_of_gt (blk_lt (bk BK240)) : gb245 ≠ gb240))
  replace BK240 := Aside0.mk (blk_below (bk BK240) hb)
  have NB241_245 := Aside0.mk ((by rw [hg]; exact Nat.ne_of_lt (blk_lt (bk BK241)) : gb241 ≠ gb245))
  have NB245_241 := Aside0.mk ((by rw [hg]; exact Nat.ne_of_gt (blk_lt (bk BK241)) : gb245 ≠ gb241))
  replace BK241 := Aside0.mk (blk_below (bk BK241) hb)
  clear hb hbox hg
  refine hK.out _ _ ⟨(blk_cell BK240.out 0).trans rfl, (blk_cell BK240.out 1).trans rfl⟩ (fun hHeld => ?_)
  clear hK K
  refine norm_ (a' := ?_) ?_ ?_
  rotate_left
  ·show Act.put _ (some 3) _ = _
   simp only [Act.put, sA, sB, sC, i64_w, i32_w]
   rfl
  refine one_ (i := 5) (N := some 11) (ms 9 191) rfl rfl (one_of HT_.out (by kernel_rfl)) (by decide) (fun K hK => ?_)
  refine Kd.R_make0_step k100 _ 100 (by rfl) (N := 11) rfl 28 _ _ rfl (l0_1.length : Int) rfl rfl Try.underlying28 (.agg #[(.int .i64 0), (.int .i64 0), (.int .i64 0), (.int .i64 0), (.int .i64 0)]) 40 info100 (by decide) (ok := fun _ => True) trivial (by omega) (Nat.le_trans (Nat.mul_le_mul_right _ (oT (by first | (with_reducible assumption) | assumption) : (l0_1.length : Int).toNat ≤ 7036874417766)) (by omega)) (Below.refl _ _) (Nat.le_refl _) ?_
  intro v243 w7 ho8 hb hg_ hnew_
  clear hg_ hnew_
  (first | rw [← Ny242.out] at ho8 | (simp only [Int.reduceToNat] at ho8; rw [← Ny242.out] at ho8))
  have HO244 := Aside0.mk (Kd.R_lower ho8 (below_size (bl3 HB GE240 GE241 GE245)))
  replace BK240 := Aside0.mk (blk_below (bk BK240) hb)
  replace BK241 := Aside0.mk (blk_below (bk BK241) hb)
  replace BK245 := Aside0.mk (blk_below (bk BK245) hb)
  replace HB := Aside0.mk (below_step (bl3 HB GE240 GE241 GE245) hb)
  clear hb ho8
  obtain ⟨Ao9, co9, eo9⟩ := Kd.R_slice HO244.out
  (first | subst eo9 | (injection eo9 with f1_ f2_ f3_; have f4_ := f1_.symm; have f5_ := f3_.symm; clear f1_ f2_ f3_; subst f4_; subst f5_))
  refine hK.out _ _ ⟨(blk_cell BK240.out 0).trans rfl, (blk_cell BK240.out 1).trans rfl⟩ (fun hHeld => ?_)
  clear hK K
  refine norm_ (a' := ?_) ?_ ?_
  rotate_left
  ·show Act.put _ (some 11) _ = _
   simp only [Act.put, sA, sB, sC, i64_w, i32_w]
   rfl
  refine pure_ (i := 6) (N := some 12) (v := ?_) (a' := ?_) (ms 9 255) rfl rfl (any_of HT_.out (by kernel_rfl)) (fun _ _ _ h => h) (Or.inl ⟨by rfl, ?_⟩) ?_ ?_
  rotate_left
  ·intro w'
   go_simp
   with_reducible rfl
  rotate_left
  ·simp only [Act.put, sA, sB, sC, i64_w, i32_w]
   rfl
  exact norm_ (by simp only [putAll, Act.put, List.setIfInBounds_toArray, List.set_cons_zero, List.set_cons_succ]) (hCont (.slice Ao9 y242.length co9, gb245) _ ⟨hHeld, (rk HO244), (bk BK240), (bk BK241), (bk BK245), GW245.out, GE245.out, NB240_245.out, NB245_240.out, NB241_245.out, NB245_241.out, (bl3 HB GE240 GE241 GE245)⟩)
 rintro ⟨v243, gb245⟩ w10 ⟨hS_, h0_, h1_, h2_, h3_, h4_, h5_, h6_, h7_, h8_, h9_, h10_⟩
 have HO244 : Aside0 (Kd.R k100 100 w10 w.heap.size (fun _ => True) v243 y242) := ⟨h0_⟩
 replace BK240 : Aside0 (w10.heap[gb240]? = some (.cells #[.int .i64 a0_0, .slice A0_1 l0_1.length c0_1] 30 (0, 0))) := ⟨h1_⟩
 replace BK241 : Aside0 (w10.heap[gb241]? = some (.cells #[.int .i64 0, .slice none 0 0] 30 (0, 0))) := ⟨h2_⟩
 have BK245 : Aside0 (w10.heap[gb245]? = some (.cells #[.int .i64 0, .slice none 0 0] 30 (0, 0))) := ⟨h3_⟩
 have GW245 : Aside0 (w.heap.size ≤ gb245) := ⟨h4_⟩
 have GE245 : Aside0 (w.heap.size ≤ gb245) := ⟨h5_⟩
 have NB240_245 : Aside0 (gb240 ≠ gb245) := ⟨h6_⟩
 have NB245_240 : Aside0 (gb245 ≠ gb240) := ⟨h7_⟩
 have NB241_245 : Aside0 (gb241 ≠ gb245) := ⟨h8_⟩
 have NB245_241 : Aside0 (gb245 ≠ gb241) := ⟨h9_⟩
 replace HB : Aside0 (Below w.heap.size w w10) := ⟨h10_⟩
 clear h0_ h1_ h2_ h3_ h4_ h5_ h6_ h7_ h8_ h9_ h10_
 have hHeld : w10.cell? ⟨gb240, 0, none⟩ = some (.int .i64 a0_0) ∧ w10.cell? ⟨gb240, 1, none⟩ = some (.slice A0_1 l0_1.length c0_1) := hS_
 obtain ⟨Ao11, co11, eo11⟩ := Kd.R_slice HO244.out
 (first | subst eo11 | (injection eo11 with f1_ f2_ f3_; have f4_ := f1_.symm; have f5_ := f3_.symm; clear f1_ f2_ f3_; subst f4_; subst f5_))
 refine norm_ (a' := ?_) ?_ ?_
 rotate_left
 ·simp only [putAll, Act.put, List.setIfInBounds_toArray, List.set_cons_zero, List.set_cons_succ]
  rfl
 refine one_ (i := 8) (N := none) (ms 9 511) rfl rfl (one_of HT_.out (by kernel_rfl)) (by decide) (fun K hK => ?_)
 have hs12 : w10.cell? ⟨gb245, 0, none⟩ = some (.int .i64 0) := (blk_cell BK245.out 0).trans rfl
 have hfs12 := blk_frozen BK245.out 0
 have hns12_0 := NB240_245.out
 have hns12_1 := NB241_245.out
 have hms12_0 := NB245_240.out
 have hms12_1 := NB245_241.out
 have hs13 : w10.cell? ⟨gb245, 1, none⟩ = some (.slice none 0 0) := (blk_cell BK245.out 1).trans rfl
 have hfs13 := blk_frozen BK245.out 1
 have hns13_0 := NB240_245.out
 have hns13_1 := NB241_245.out
 have hms13_0 := NB245_240.out
 have hms13_1 := NB245_241.out
 refine skip_ (w1 := ?_) (by rfl) rfl ?_ ?_
 rotate_left
 ·go_simp
  rfl
 refine hK.out _ _ ⟨((cell_far (p := ⟨gb245, _, none⟩) NB240_245.out _).trans (((cell_far (p := ⟨gb245, _, none⟩) NB240_245.out _).trans (hHeld.1)))), ((cell_far (p := ⟨gb245, _, none⟩) NB240_245.out _).trans (((cell_far (p := ⟨gb245, _, none⟩) NB240_245.out _).trans (hHeld.2))))⟩ (fun hHeld => ?_)
 clear hK K
 refine done_ (done_of HT_.out (by kernel_rfl)) ?_
 have hnb14 := NB240_241.out
 have hnc14 := NB241_240.out
 have hnb15 := NB240_245.out
 have hnc15 := NB245_240.out
 have hcz16_0 : w10.cell? ⟨gb240, 0, none⟩ = some (.int .i64 a0_0) := (blk_cell BK240.out 0).trans rfl
 have hcz16_1 : w10.cell? ⟨gb240, 1, none⟩ = some (.slice A0_1 l0_1.length c0_1) := (blk_cell BK240.out 1).trans rfl
 have hfz16_0 := blk_frozen BK240.out 0
 have hfz16_1 := blk_frozen BK240.out 1
 try go_wp2
 go_loopg [16] k (fun kq v16 w' => ∃ (x16_1 : Int) (x246001_1 : List (S100)) (u246001 : Value), v16 = .int .i64 x16_1 ∧ Aside0 (impl_Net_back.l0 kq l0_1 (l0_1.length : Int) x16_1 a0_0 x246001_1 = some (r1, r2)) ∧ Aside0 (kq ≤ k) ∧ Aside0 (Kd.R k100 100 w' w.heap.size (fun _ => True) u246001 x246001_1) ∧ Aside0 (w'.heap[gb240]? = some (.cells #[.int .i64 a0_0, (.slice A0_1 l0_1.length c0_1)] 30 (0, 0))) ∧ Aside0 (w'.heap[gb241]? = some (.cells #[.int .i64 0, (.slice none 0 0)] 30 (0, 0))) ∧ Aside0 (w'.heap[gb245]? = some (.cells #[.int .i64 a0_0, u246001] 30 (0, 0))) ∧ Aside0 (Below w.heap.size w w'))
 case atStart => exact ⟨(0), (y242), (.slice Ao11 y242.length co11), (by first | rfl | (simp; done) | (simp [*]; done)), H', ⟨Nat.le_refl _⟩, ⟨by (with_reducible repeat (first | apply Kd.R_alloc | apply Kd.R_drewN | apply Kd.R_drew)); exact Kd.R_mono (Kd.R_far (p := ⟨gb245, 1, none⟩) (Kd.R_far (p := ⟨gb245, 0, none⟩) (Kd.R_types HO244.out BK245.out (by decide)) (fun _ hk => hk.2) (.int .i64 a0_0)) (fun _ hk => hk.2) (.slice Ao11 y242.length co11)) (fun _ hk => trivial)⟩, ⟨by (with_reducible repeat (first | refine blk_drewN ?_ _ | refine blk_drew ?_ | refine blk_alloc ?_ _)); refine blk_far ?_ NB240_245.out _; refine blk_far ?_ NB240_245.out _; (with_reducible repeat (first | refine blk_drewN ?_ _ | refine blk_drew ?_ | refine blk_alloc ?_ _)); exact BK240.out⟩, ⟨by (with_reducible repeat (first | refine blk_drewN ?_ _ | refine blk_drew ?_ | refine blk_alloc ?_ _)); refine blk_far ?_ NB241_245.out _; refine blk_far ?_ NB241_245.out _; (with_reducible repeat (first | refine blk_drewN ?_ _ | refine blk_drew ?_ | refine blk_alloc ?_ _)); exact BK241.out⟩, ⟨by (with_reducible repeat (first | refine blk_drewN ?_ _ | refine blk_drew ?_ | refine blk_alloc ?_ _)); refine blk_put (cs := #[.int .i64 a0_0, .slice none 0 0]) ?_ 1 _ rfl; refine blk_put (cs := #[.int .i64 0, .slice none 0 0]) ?_ 0 _ rfl; (with_reducible repeat (first | refine blk_drewN ?_ _ | refine blk_drew ?_ | refine blk_alloc ?_ _)); exact BK245.out⟩, ⟨bl3 HB GE240 GE241 GE245⟩⟩
 clear H'
 try clear c1
 try clear c2
 try clear c2b0
 try clear c2b1
 try clear p2
 try clear c12
 try clear c14
 try clear c15
 try clear hcz16_0
 try clear hcz16_1
 try clear hfz16_0
 try clear hfz16_1
 obtain ⟨x16_1, x246001_1, u246001, rfl, HA, HK1, HO_246001, BK240, BK241, BK245, HB⟩ := hrel
 cases gk with
 | zero => exact absurd HA.out (by simp [impl_Net_back.l0])
 | succ k1 =>
  have H := HA.out
  clear HA
  simp only [impl_Net_back.l0] at H
  by_cases c17 : x16_1 < (l0_1.length : Int)
  rotate_left
  ·rw [if_neg c17] at H
   have c17b0 : decide (x16_1 < (l0_1.length : Int)) = false := decide_eq_false c17
   clear c17
   simp only [Option.some.injEq, Prod.mk.injEq] at H
   obtain ⟨rfl, rfl⟩ := H
   have hnb32 := NB245_240.out
   have hnc32 := NB240_245.out
   have hnb33 := NB245_241.out
   have hnc33 := NB241_245.out
   have hcz34_0 : wr.cell? ⟨gb245, 0, none⟩ = some (.int .i64 a0_0) := (blk_cell BK245.out 0).trans rfl
   have hcz34_1 : wr.cell? ⟨gb245, 1, none⟩ = some (u246001) := (blk_cell BK245.out 1).trans rfl
   have hfz34_0 := blk_frozen BK245.out 0
   have hfz34_1 := blk_frozen BK245.out 1
   have hnb35 := NB241_240.out
   have hnc35 := NB240_241.out
   have hcz36_0 : wr.cell? ⟨gb241, 0, none⟩ = some (.int .i64 0) := (blk_cell BK241.out 0).trans rfl
   have hcz36_1 : wr.cell? ⟨gb241, 1, none⟩ = some (.slice none 0 0) := (blk_cell BK241.out 1).trans rfl
   have hfz36_0 := blk_frozen BK241.out 0
   have hfz36_1 := blk_frozen BK241.out 1
   obtain ⟨Ao37, co37, eo37⟩ := Kd.R_slice HO_246001.out
   subst eo37
   go_wp2
   refine bodyPost_ret (results_cell_row rfl _ _ gb241 30 #[.int .i64 a0_0, .slice Ao37 x246001_1.length co37] (0, 0) _ rfl (by (with_reducible repeat (first | refine blk_drewN ?_ _ | refine blk_drew ?_ | refine blk_alloc ?_ _)); refine blk_put (cs := #[.int .i64 a0_0, .slice none 0 0]) ?_ 1 _ rfl; refine blk_put (cs := #[.int .i64 0, .slice none 0 0]) ?_ 0 _ rfl; (with_reducible repeat (first | refine blk_drewN ?_ _ | refine blk_drew ?_ | refine blk_alloc ?_ _)); exact BK241.out) Try.underlying30 rfl (by kernel_rfl)) rfl ?_
   exact ⟨_, by first | rfl | (simp [errW_none, errW_some] <;> rfl) | (simp [*, errW_none, errW_some] <;> rfl), by (with_reducible repeat (first | apply Kd.R_alloc | apply Kd.R_drewN | apply Kd.R_drew)); exact Kd.R_mono (Kd.R_far (p := ⟨gb241, 1, none⟩) (Kd.R_far (p := ⟨gb241, 0, none⟩) (Kd.R_types HO_246001.out BK241.out (by decide)) (fun _ hk => hk.2) (.int .i64 a0_0)) (fun _ hk => hk.2) (.slice Ao37 x246001_1.length co37)) (fun _ hk => trivial), bl3 HB GE240 GE241 GE245⟩
  rw [if_pos c17] at H
  have c17b0 : decide (x16_1 < (l0_1.length : Int)) = true := decide_eq_true c17
  clear c17
  by_cases c18 : 0 ≤ x16_1
  rotate_left
  ·rw [if_neg c18] at H
   exact absurd H (by simp)
  rw [if_pos c18] at H
  have c18b0 : decide (0 ≤ x16_1) = true := decide_eq_true c18
  clear c18
  by_cases c19 : x16_1 < (l0_1.length : Int)
  rotate_left
  ·rw [if_neg c19] at H
   exact absurd H (by simp)
  rw [if_pos c19] at H
  have c19b0 : decide (x16_1 < (l0_1.length : Int)) = true := decide_eq_true c19
  clear c19
  by_cases c20 : x246001_1.length < 3518437208883
  rotate_left
  ·rw [if_neg c20] at H
   exact absurd H (by simp)
  rw [if_pos c20] at H
  have LMc20 := Aside0.mk c20
  clear c20
  obtain ⟨y248, hy248⟩ : ∃ y_ : List (S100), y_ = (x246001_1 ++ [(⟨(rd_T100 l0_1 x16_1).f1, (rd_T100 l0_1 x16_1).f0, (rd_T100 l0_1 x16_1).f2, (rd_T100 l0_1 x16_1).f3, (rd_T100 l0_1 x16_1).f4⟩ : S100)]) := ⟨_, rfl⟩
  replace H : (impl_Net_back.l0 k1 l0_1 (l0_1.length : Int) (wrap64 (x16_1 + 1)) a0_0 y248) = some (r1, r2) := by first | (rw [hy248]; with_reducible exact H) | (have H2_ := (Option.bind_some _ _).symm.trans H; rw [hy248]; with_reducible exact H2_) | (have H2_ := (Option.bind_some _ _).symm.trans H; with_reducible exact H2_) | with_reducible exact H | (rw [hy248]; exact H) | exact H
  have Ny248 := Aside0.mk hy248
  clear hy248
  have H' := Aside0.mk H
  clear H
  have p246 : 0 ≤ (x16_1 : Int) := oT (by first | (with_reducible assumption) | assumption)
  have q246 : x16_1 < (l0_1.length : Int) := oT (by first | (with_reducible assumption) | assumption)
  obtain ⟨ad246, e246, hx246_0, hx246_1, hx246_2, hx246_3, hx246_4⟩ := at_T100 HR0_1.out x16_1 p246 q246
  cases e246
  replace hx246_0 := hcb HB.out hx246_0
  replace hx246_1 := hcb HB.out hx246_1
  replace hx246_2 := hcb HB.out hx246_2
  replace hx246_3 := hcb HB.out hx246_3
  replace hx246_4 := hcb HB.out hx246_4
  replace p246 := eq_true p246
  replace q246 := eq_true q246
  go_wp2_with (first | ((with_reducible refine gate_dst (N := 5) rfl ?_); refine box_event ?hg (N := 5) ?hd (cs := #[.int .i64 0, .int .i64 0, .int .i64 0, .int .i64 0, .int .i64 0]) (t := 100) ?hr ?_; (case hd => rfl); (case hg => rfl); (case hr => first | (go_simp; done) | (go_simp; rfl)); intro gb247 hg w21 hbox hb; replace HO_246001 := Aside0.mk (Kd.R_below (Kd.R_elderB (rk HO_246001) gb247 (Nat.le_of_eq hg.symm)) hb); have BK247 := Aside0.mk (hbox); have GW247 := Aside0.mk ((by rw [hg]; exact (below_size (bl3 HB GE240 GE241 GE245)) : w.heap.size ≤ gb247)); have GE247 := Aside0.mk ((by rw [hg]; exact (below_size (bl3 HB GE240 GE241 GE245)) : w.heap.size ≤ gb247)); replace HB := Aside0.mk (below_step (bl3 HB GE240 GE241 GE245) hb); have NB240_247 := Aside0.mk ((by rw [hg]; exact Nat.ne_of_lt (blk_lt (bk BK240)) : gb240 ≠ gb247)); have NB247_240 := Aside0.mk ((by rw [hg]; exact Nat.ne_of_gt (blk_lt (bk BK240)) : gb247 ≠ gb240)); replace BK240 := Aside0.mk (blk_below (bk BK240) hb); have NB241_247 := Aside0.mk ((by rw [hg]; exact Nat.ne_of_lt (blk_lt (bk BK241)) : gb241 ≠ gb247)); have NB247_241 := Aside0.mk ((by rw [hg]; exact Nat.ne_of_gt (blk_lt (bk BK241)) : gb247 ≠ gb241)); replace BK241 := Aside0.mk (blk_below (bk BK241) hb); have NB245_247 := Aside0.mk ((by rw [hg]; exact Nat.ne_of_lt (blk_lt (bk BK245)) : gb245 ≠ gb247)); have NB247_245 := Aside0.mk ((by rw [hg]; exact Nat.ne_of_gt (blk_lt (bk BK245)) : gb247 ≠ gb245)); replace BK245 := Aside0.mk (blk_below (bk BK245) hb); clear hb hbox hg; have hnb22 := NB247_240.out; have hnc22 := NB240_247.out; have hnb23 := NB247_241.out; have hnc23 := NB241_247.out; have hnb24 := NB247_245.out; have hnc24 := NB245_247.out; have hcz25_0 : w21.cell? ⟨gb247, 0, none⟩ = some (.int .i64 0) := (blk_cell BK247.out 0).trans rfl; have hcz25_1 : w21.cell? ⟨gb247, 1, none⟩ = some (.int .i64 0) := (blk_cell BK247.out 1).trans rfl; have hcz25_2 : w21.cell? ⟨gb247, 2, none⟩ = some (.int .i64 0) := (blk_cell BK247.out 2).trans rfl; have hcz25_3 : w21.cell? ⟨gb247, 3, none⟩ = some (.int .i64 0) := (blk_cell BK247.out 3).trans rfl; have hcz25_4 : w21.cell? ⟨gb247, 4, none⟩ = some (.int .i64 0) := (blk_cell BK247.out 4).trans rfl; have hfz25_0 := blk_frozen BK247.out 0; have hfz25_1 := blk_frozen BK247.out 1; have hfz25_2 := blk_frozen BK247.out 2; have hfz25_3 := blk_frozen BK247.out 3; have hfz25_4 := blk_frozen BK247.out 4; have hnb26 := NB245_240.out; have hnc26 := NB240_245.out; have hnb27 := NB245_241.out; have hnc27 := NB241_245.out; have hcz28_0 : w21.cell? ⟨gb245, 0, none⟩ = some (.int .i64 a0_0) := (blk_cell BK245.out 0).trans rfl; have hcz28_1 : w21.cell? ⟨gb245, 1, none⟩ = some (u246001) := (blk_cell BK245.out 1).trans rfl; have hfz28_0 := blk_frozen BK245.out 0; have hfz28_1 := blk_frozen BK245.out 1) | ((with_reducible refine gate_dst (N := 28) rfl ?_); (fail_if_success clear hW_); refine impl_Net_back.fix_world (g := gb247) (o := .cells #[.int .i64 ((rd_T100 l0_1 x16_1).f1), .int .i64 ((rd_T100 l0_1 x16_1).f0), .int .i64 ((rd_T100 l0_1 x16_1).f2), .int .i64 ((rd_T100 l0_1 x16_1).f3), .int .i64 ((rd_T100 l0_1 x16_1).f4)] 100 (0, 0)) (by (with_reducible repeat (first | refine blk_drewN ?_ _ | refine blk_drew ?_ | refine blk_alloc ?_ _)); refine blk_put (cs := #[.int .i64 ((rd_T100 l0_1 x16_1).f1), .int .i64 ((rd_T100 l0_1 x16_1).f1), .int .i64 ((rd_T100 l0_1 x16_1).f2), .int .i64 ((rd_T100 l0_1 x16_1).f3), .int .i64 ((rd_T100 l0_1 x16_1).f4)]) ?_ 1 _ rfl; refine blk_put (cs := #[.int .i64 ((rd_T100 l0_1 x16_1).f0), .int .i64 ((rd_T100 l0_1 x16_1).f1), .int .i64 ((rd_T100 l0_1 x16_1).f2), .int .i64 ((rd_T100 l0_1 x16_1).f3), .int .i64 ((rd_T100 l0_1 x16_1).f4)]) ?_ 0 _ rfl; refine blk_put (cs := #[.int .i64 ((rd_T100 l0_1 x16_1).f0), .int .i64 ((rd_T100 l0_1 x16_1).f1), .int .i64 ((rd_T100 l0_1 x16_1).f2), .int .i64 ((rd_T100 l0_1 x16_1).f3), .int .i64 0]) ?_ 4 _ rfl; refine blk_put (cs := #[.int .i64 ((rd_T100 l0_1 x16_1).f0), .int .i64 ((rd_T100 l0_1 x16_1).f1), .int .i64 ((rd_T100 l0_1 x16_1).f2), .int .i64 0, .int .i64 0]) ?_ 3 _ rfl; refine blk_put (cs := #[.int .i64 ((rd_T100 l0_1 x16_1).f0), .int .i64 ((rd_T100 l0_1 x16_1).f1), .int .i64 0, .int .i64 0, .int .i64 0]) ?_ 2 _ rfl; refine blk_put (cs := #[.int .i64 ((rd_T100 l0_1 x16_1).f0), .int .i64 0, .int .i64 0, .int .i64 0, .int .i64 0]) ?_ 1 _ rfl; refine blk_put (cs := #[.int .i64 0, .int .i64 0, .int .i64 0, .int .i64 0, .int .i64 0]) ?_ 0 _ rfl; (with_reducible repeat (first | refine blk_drewN ?_ _ | refine blk_drew ?_ | refine blk_alloc ?_ _)); exact BK247.out) ?_; intro W_ hW_ hBW_; have hcw_0 : W_.cell? ⟨gb247, 0, none⟩ = some (.int .i64 ((rd_T100 l0_1 x16_1).f1)) := (blk_cell hBW_ 0).trans rfl; have hcw_1 : W_.cell? ⟨gb247, 1, none⟩ = some (.int .i64 ((rd_T100 l0_1 x16_1).f0)) := (blk_cell hBW_ 1).trans rfl; have hcw_2 : W_.cell? ⟨gb247, 2, none⟩ = some (.int .i64 ((rd_T100 l0_1 x16_1).f2)) := (blk_cell hBW_ 2).trans rfl; have hcw_3 : W_.cell? ⟨gb247, 3, none⟩ = some (.int .i64 ((rd_T100 l0_1 x16_1).f3)) := (blk_cell hBW_ 3).trans rfl; have hcw_4 : W_.cell? ⟨gb247, 4, none⟩ = some (.int .i64 ((rd_T100 l0_1 x16_1).f4)) := (blk_cell hBW_ 4).trans rfl) | ((with_reducible refine gate_dst (N := 29) rfl ?_); clear hBW_ hcw_0 hcw_1 hcw_2 hcw_3 hcw_4; subst hW_) | ((with_reducible refine gate_builtin (b := .append) (xs := #[.tmp 27, .tmp 29]) rfl ?_); at_builtin; refine Kd.R_append k100 (w0 := w) w.heap.size rfl (.tmp 27) (.tmp 29) 28 100 (.agg #[(.int .i64 0), (.int .i64 0), (.int .i64 0), (.int .i64 0), (.int .i64 0)]) 40 rfl Try.underlying28 info100 rfl (by decide) (by omega) u246001 x246001_1 (⟨(rd_T100 l0_1 x16_1).f1, (rd_T100 l0_1 x16_1).f0, (rd_T100 l0_1 x16_1).f2, (rd_T100 l0_1 x16_1).f3, (rd_T100 l0_1 x16_1).f4⟩ : S100) [.int .i64 ((rd_T100 l0_1 x16_1).f1), .int .i64 ((rd_T100 l0_1 x16_1).f0), .int .i64 ((rd_T100 l0_1 x16_1).f2), .int .i64 ((rd_T100 l0_1 x16_1).f3), .int .i64 ((rd_T100 l0_1 x16_1).f4)] (fun k_ => k_ ≠ gb247) (fun _ => False) rfl (by first | (go_simp; done) | (go_simp; rfl)) ?aP (fun _ hk => hk.elim) ?aF ?aO ?aB ?aS ?aL ?_; (case aP => exact k100_mkM _ _ _ (⟨(rd_T100 l0_1 x16_1).f1, (rd_T100 l0_1 x16_1).f0, (rd_T100 l0_1 x16_1).f2, (rd_T100 l0_1 x16_1).f3, (rd_T100 l0_1 x16_1).f4⟩ : S100)); (case aB => exact (bl4 HB GE240 GE241 GE245 GE247)); (case aF => exact (fun k_ hk => Kd.freshB (g := gb247) (o := .cells #[.int .i64 ((rd_T100 l0_1 x16_1).f1), .int .i64 ((rd_T100 l0_1 x16_1).f0), .int .i64 ((rd_T100 l0_1 x16_1).f2), .int .i64 ((rd_T100 l0_1 x16_1).f3), .int .i64 ((rd_T100 l0_1 x16_1).f4)] 100 (0, 0)) (by (with_reducible repeat (first | refine blk_drewN ?_ _ | refine blk_drew ?_ | refine blk_alloc ?_ _)); refine blk_put (cs := #[.int .i64 ((rd_T100 l0_1 x16_1).f1), .int .i64 ((rd_T100 l0_1 x16_1).f1), .int .i64 ((rd_T100 l0_1 x16_1).f2), .int .i64 ((rd_T100 l0_1 x16_1).f3), .int .i64 ((rd_T100 l0_1 x16_1).f4)]) ?_ 1 _ rfl; refine blk_put (cs := #[.int .i64 ((rd_T100 l0_1 x16_1).f0), .int .i64 ((rd_T100 l0_1 x16_1).f1), .int .i64 ((rd_T100 l0_1 x16_1).f2), .int .i64 ((rd_T100 l0_1 x16_1).f3), .int .i64 ((rd_T100 l0_1 x16_1).f4)]) ?_ 0 _ rfl; refine blk_put (cs := #[.int .i64 ((rd_T100 l0_1 x16_1).f0), .int .i64 ((rd_T100 l0_1 x16_1).f1), .int .i64 ((rd_T100 l0_1 x16_1).f2), .int .i64 ((rd_T100 l0_1 x16_1).f3), .int .i64 0]) ?_ 4 _ rfl; refine blk_put (cs := #[.int .i64 ((rd_T100 l0_1 x16_1).f0), .int .i64 ((rd_T100 l0_1 x16_1).f1), .int .i64 ((rd_T100 l0_1 x16_1).f2), .int .i64 0, .int .i64 0]) ?_ 3 _ rfl; refine blk_put (cs := #[.int .i64 ((rd_T100 l0_1 x16_1).f0), .int .i64 ((rd_T100 l0_1 x16_1).f1), .int .i64 0, .int .i64 0, .int .i64 0]) ?_ 2 _ rfl; refine blk_put (cs := #[.int .i64 ((rd_T100 l0_1 x16_1).f0), .int .i64 0, .int .i64 0, .int .i64 0, .int .i64 0]) ?_ 1 _ rfl; refine blk_put (cs := #[.int .i64 0, .int .i64 0, .int .i64 0, .int .i64 0, .int .i64 0]) ?_ 0 _ rfl; (with_reducible repeat (first | refine blk_drewN ?_ _ | refine blk_drew ?_ | refine blk_alloc ?_ _)); exact BK247.out) k_ hk)); (case aO => exact (by (with_reducible repeat (first | apply Kd.R_alloc | apply Kd.R_drewN | apply Kd.R_drew)); exact Kd.R_mono (Kd.R_far (p := ⟨gb247, 1, none⟩) (Kd.R_far (p := ⟨gb247, 0, none⟩) (Kd.R_far (p := ⟨gb247, 4, none⟩) (Kd.R_far (p := ⟨gb247, 3, none⟩) (Kd.R_far (p := ⟨gb247, 2, none⟩) (Kd.R_far (p := ⟨gb247, 1, none⟩) (Kd.R_far (p := ⟨gb247, 0, none⟩) (Kd.R_mono HO_246001.out (fun k_ hk => (⟨hk, hk.2⟩ : _ ∧ k_ ≠ gb247))) (fun _ hk => hk.2) (.int .i64 ((rd_T100 l0_1 x16_1).f0))) (fun _ hk => hk.2) (.int .i64 ((rd_T100 l0_1 x16_1).f1))) (fun _ hk => hk.2) (.int .i64 ((rd_T100 l0_1 x16_1).f2))) (fun _ hk => hk.2) (.int .i64 ((rd_T100 l0_1 x16_1).f3))) (fun _ hk => hk.2) (.int .i64 ((rd_T100 l0_1 x16_1).f4))) (fun _ hk => hk.2) (.int .i64 ((rd_T100 l0_1 x16_1).f1))) (fun _ hk => hk.2) (.int .i64 ((rd_T100 l0_1 x16_1).f0))) (fun _ hk => hk.1.2))); (case aS => exact (below_size (bl4 HB GE240 GE241 GE245 GE247))); (case aL => have := LMc20.out; omega); intro v249 w29 ho hb hg hat; rw [← Ny248.out] at ho; have n0_ := Aside0.mk (blk_grown (g := gb240) (o := .cells #[.int .i64 a0_0, .slice (some ad246) l0_1.length c0_1] 30 (0, 0)) (by (with_reducible repeat (first | refine blk_drewN ?_ _ | refine blk_drew ?_ | refine blk_alloc ?_ _)); refine blk_far ?_ NB240_247.out _; refine blk_far ?_ NB240_247.out _; refine blk_far ?_ NB240_247.out _; refine blk_far ?_ NB240_247.out _; refine blk_far ?_ NB240_247.out _; refine blk_far ?_ NB240_247.out _; refine blk_far ?_ NB240_247.out _; (with_reducible repeat (first | refine blk_drewN ?_ _ | refine blk_drew ?_ | refine blk_alloc ?_ _)); exact BK240.out) hg (Kd.R_ne HO_246001.out BK240.out (by decide))); have n1_ := Aside0.mk (blk_grown (g := gb241) (o := .cells #[.int .i64 0, .slice none 0 0] 30 (0, 0)) (by (with_reducible repeat (first | refine blk_drewN ?_ _ | refine blk_drew ?_ | refine blk_alloc ?_ _)); refine blk_far ?_ NB241_247.out _; refine blk_far ?_ NB241_247.out _; refine blk_far ?_ NB241_247.out _; refine blk_far ?_ NB241_247.out _; refine blk_far ?_ NB241_247.out _; refine blk_far ?_ NB241_247.out _; refine blk_far ?_ NB241_247.out _; (with_reducible repeat (first | refine blk_drewN ?_ _ | refine blk_drew ?_ | refine blk_alloc ?_ _)); exact BK241.out) hg (Kd.R_ne HO_246001.out BK241.out (by decide))); have n2_ := Aside0.mk (blk_grown (g := gb245) (o := .cells #[.int .i64 a0_0, u246001] 30 (0, 0)) (by (with_reducible repeat (first | refine blk_drewN ?_ _ | refine blk_drew ?_ | refine blk_alloc ?_ _)); refine blk_far ?_ NB245_247.out _; refine blk_far ?_ NB245_247.out _; refine blk_far ?_ NB245_247.out _; refine blk_far ?_ NB245_247.out _; refine blk_far ?_ NB245_247.out _; refine blk_far ?_ NB245_247.out _; refine blk_far ?_ NB245_247.out _; (with_reducible repeat (first | refine blk_drewN ?_ _ | refine blk_drew ?_ | refine blk_alloc ?_ _)); exact BK245.out) hg (Kd.R_ne HO_246001.out BK245.out (by decide))); have n3_ := Aside0.mk (blk_grown (g := gb247) (o := .cells #[.int .i64 ((rd_T100 l0_1 x16_1).f1), .int .i64 ((rd_T100 l0_1 x16_1).f0), .int .i64 ((rd_T100 l0_1 x16_1).f2), .int .i64 ((rd_T100 l0_1 x16_1).f3), .int .i64 ((rd_T100 l0_1 x16_1).f4)] 100 (0, 0)) (by (with_reducible repeat (first | refine blk_drewN ?_ _ | refine blk_drew ?_ | refine blk_alloc ?_ _)); refine blk_put (cs := #[.int .i64 ((rd_T100 l0_1 x16_1).f1), .int .i64 ((rd_T100 l0_1 x16_1).f1), .int .i64 ((rd_T100 l0_1 x16_1).f2), .int .i64 ((rd_T100 l0_1 x16_1).f3), .int .i64 ((rd_T100 l0_1 x16_1).f4)]) ?_ 1 _ rfl; refine blk_put (cs := #[.int .i64 ((rd_T100 l0_1 x16_1).f0), .int .i64 ((rd_T100 l0_1 x16_1).f1), .int .i64 ((rd_T100 l0_1 x16_1).f2), .int .i64 ((rd_T100 l0_1 x16_1).f3), .int .i64 ((rd_T100 l0_1 x16_1).f4)]) ?_ 0 _ rfl; refine blk_put (cs := #[.int .i64 ((rd_T100 l0_1 x16_1).f0), .int .i64 ((rd_T100 l0_1 x16_1).f1), .int .i64 ((rd_T100 l0_1 x16_1).f2), .int .i64 ((rd_T100 l0_1 x16_1).f3), .int .i64 0]) ?_ 4 _ rfl; refine blk_put (cs := #[.int .i64 ((rd_T100 l0_1 x16_1).f0), .int .i64 ((rd_T100 l0_1 x16_1).f1), .int .i64 ((rd_T100 l0_1 x16_1).f2), .int .i64 0, .int .i64 0]) ?_ 3 _ rfl; refine blk_put (cs := #[.int .i64 ((rd_T100 l0_1 x16_1).f0), .int .i64 ((rd_T100 l0_1 x16_1).f1), .int .i64 0, .int .i64 0, .int .i64 0]) ?_ 2 _ rfl; refine blk_put (cs := #[.int .i64 ((rd_T100 l0_1 x16_1).f0), .int .i64 0, .int .i64 0, .int .i64 0, .int .i64 0]) ?_ 1 _ rfl; refine blk_put (cs := #[.int .i64 0, .int .i64 0, .int .i64 0, .int .i64 0, .int .i64 0]) ?_ 0 _ rfl; (with_reducible repeat (first | refine blk_drewN ?_ _ | refine blk_drew ?_ | refine blk_alloc ?_ _)); exact BK247.out) hg (Kd.R_away HO_246001.out (fun _ hk => hk.2))); have n4_ := Aside0.mk (hb); have n5_ := Aside0.mk (ho); clear BK240; clear BK241; clear BK245; clear BK247; clear HB; clear HO_246001; have BK240 := n0_; have BK241 := n1_; have BK245 := n2_; have BK247 := n3_; have HB := n4_; have HO250 := n5_; clear n0_ n1_ n2_ n3_ n4_ n5_; clear ho hb hg hat; obtain ⟨Ao30, co30, eo30⟩ := Kd.R_slice HO250.out; subst eo30; have hcz31_0 : w29.cell? ⟨gb245, 0, none⟩ = some (.int .i64 a0_0) := (blk_cell BK245.out 0).trans rfl; have hcz31_1 : w29.cell? ⟨gb245, 1, none⟩ = some (u246001) := (blk_cell BK245.out 1).trans rfl; have hfz31_0 := blk_frozen BK245.out 0; have hfz31_1 := blk_frozen BK245.out 1))
  go_roundg k1
  case measure => have := HK1.out; omega
  case rel => exact ⟨(wrap64 (x16_1 + 1)), (y248), (.slice Ao30 y248.length co30), (by first | rfl | (simp; done) | (simp [*]; done)), H', ⟨by have := HK1.out; omega⟩, ⟨by (with_reducible repeat (first | apply Kd.R_alloc | apply Kd.R_drewN | apply Kd.R_drew)); exact Kd.R_mono (Kd.R_far (p := ⟨gb245, 1, none⟩) (Kd.R_types HO250.out BK245.out (by decide)) (fun _ hk => hk.2) (.slice Ao30 y248.length co30)) (fun _ hk => trivial)⟩, ⟨by (with_reducible repeat (first | refine blk_drewN ?_ _ | refine blk_drew ?_ | refine blk_alloc ?_ _)); refine blk_far ?_ NB240_245.out _; (with_reducible repeat (first | refine blk_drewN ?_ _ | refine blk_drew ?_ | refine blk_alloc ?_ _)); exact BK240.out⟩, ⟨by (with_reducible repeat (first | refine blk_drewN ?_ _ | refine blk_drew ?_ | refine blk_alloc ?_ _)); refine blk_far ?_ NB241_245.out _; (with_reducible repeat (first | refine blk_drewN ?_ _ | refine blk_drew ?_ | refine blk_alloc ?_ _)); exact BK241.out⟩, ⟨by (with_reducible repeat (first | refine blk_drewN ?_ _ | refine blk_drew ?_ | refine blk_alloc ?_ _)); refine blk_put (cs := #[.int .i64 a0_0, u246001]) ?_ 1 _ rfl; (with_reducible repeat (first | refine blk_drewN ?_ _ | refine blk_drew ?_ | refine blk_alloc ?_ _)); exact BK245.out⟩, ⟨bl4 HB GE240 GE241 GE245 GE247⟩⟩

end Go.Proofs.Ytbappbbljncdeaa.F
