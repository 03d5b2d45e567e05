-- Printed by wip/px/px.py of this claim's repository (the kit's printer, extended there). Lean checks it.
import Derived.Test.YtlgolgfcolnddaaFKinds
namespace Go.Proofs.Ytlgolgfcolnddaa.F
open Go.RowKit Go.Proofs.YtlgolgfcolnddaaW.PrintWords Go.Proofs.YtlgolgfcolnddaaW.PrintLast Go.Proofs.YtlgolgfcolnddaaW.PrintMore
attribute [local go_sem] max2_int min2_int max_two min_two max_three min_three max_four min_four   -- for this text's walks alone
set_option linter.unusedVariables false
set_option linter.unusedSimpArgs false

/-! ### impl_Net_back: function 124 -/
def impl_Net_back.l0 : Nat → List (S58) → Int → Int → Int → List (S58) → Option (Int × (List (S58)))
 | 0, _, _, _, _, _ => none
 | k + 1, x14, x15, x16, x290000, x290001 => if x16 < x15 then (if 0 ≤ x16 then (if x16 < (x14.length : Int) then (if x290001.length < 3518437208883 then (impl_Net_back.l0 k x14 x15 (wrap64 (x16 + 1)) x290000 (x290001 ++ [(⟨(rd_T58 x14 x16).f1, (rd_T58 x14 x16).f0, (rd_T58 x14 x16).f2, (rd_T58 x14 x16).f3, (rd_T58 x14 x16).f4⟩ : S58)])) else (none)) else (none)) else (none)) else (some (x290000, x290001))
def impl_Net_back.f (k : Nat) (a0_0 : Int) (l0_1 : List (S58)) : Option (Int × (List (S58))) := if ((l0_1.length : Int) : Int).toNat ≤ 7036874417766 then (impl_Net_back.l0 k l0_1 (l0_1.length : Int) 0 a0_0 (([] : List (S58)))) else (none)
theorem impl_Net_back.mono_l : ∀ k, (∀ y0 y1 y2 y3 y4, LeO (impl_Net_back.l0 k y0 y1 y2 y3 y4) (impl_Net_back.l0 (k + 1) y0 y1 y2 y3 y4))
 | 0 => fun _ _ _ _ _ r h => by simp [impl_Net_back.l0] at h
 | k + 1 => by
  have ih0 := impl_Net_back.mono_l k
  ·intro y0 y1 y2 y3 y4
   unfold impl_Net_back.l0
   repeat' first
   | (with_reducible exact ih0 _ _ _ _ _)
   | (with_reducible exact LeO.refl _)
   | (with_reducible exact LeO.none _)
   | (with_reducible refine LeO.ite ?_ ?_)
   | (with_reducible refine LeO.bind ?_ (fun _ => ?_))
   | exact ih0 _ _ _ _ _
   | exact LeO.none _
   | refine LeO.ite ?_ ?_
   | refine LeO.bind ?_ (fun _ => ?_)
theorem impl_Net_back.mono : ∀ a0 a1 k, LeO (impl_Net_back.f k a0 a1) (impl_Net_back.f (k + 1) a0 a1) := by
 intro a0 a1 k
 have ih0 := impl_Net_back.mono_l k
 unfold impl_Net_back.f
 repeat' first
   | (with_reducible exact ih0 _ _ _ _ _)
   | (with_reducible exact LeO.refl _)
   | (with_reducible exact LeO.none _)
   | (with_reducible refine LeO.ite ?_ ?_)
   | (with_reducible refine LeO.bind ?_ (fun _ => ?_))
   | exact ih0 _ _ _ _ _
   | exact LeO.none _
   | refine LeO.ite ?_ ?_
   | refine LeO.bind ?_ (fun _ => ?_)
def impl_Net_back.T1 : Bool × List (List Nat × List Nat) := (true, [([], []), ([0], [0]), ([], []), ([2], [2]), ([3], [3]), ([4], [4]), ([1, 5], [1, 5]), ([], []), ([7, 6, 0, 1, 2, 3, 4, 5, 6, 7], [6, 7])])
def impl_Net_back.B1 : List Nat := [0, 1, 0, 4, 12, 28, 63, 0, 255]
theorem impl_Net_back.tab1 : rtab .any (opsOf Try.f124 1) = impl_Net_back.T1 := by kernel_rfl
theorem impl_Net_back.bits1 : waitsOk impl_Net_back.T1.2 impl_Net_back.B1 = true := by kernel_rfl
theorem impl_Net_back.fix_world {P : Program} {ops : Array Oper} {Q : Exit → Act → World → Prop} {l : List Oper} {a : Act} {W : World} {g : Nat} {o : Obj} (hb : W.heap[g]? = some o) (h : ∀ W', W = W' → W'.heap[g]? = some o → wpList P ops Q l a W') : wpList P ops Q l a W := h W rfl hb
set_option maxHeartbeats 8000000 in
set_option maxRecDepth 100000 in
theorem impl_Net_back.calls (k : Nat) (a0_0 : Int) (A0_1 : Option Addr) (c0_1 : Nat) (l0_1 : List (S58)) (r1 : Int) (r2 : List (S58)) (w : World) (hr0_1 : Kd.C k58 w A0_1 l0_1.length l0_1) (hc0_1 : l0_1.length ≤ c0_1) (h : impl_Net_back.f k a0_0 l0_1 = some (r1, r2)) :
  Calls Try.prog 124 #[.agg #[.int .i64 a0_0, .slice A0_1 l0_1.length c0_1]] w fun e w' => ∃ v1_ : Value, e = .returned (.agg #[.int .i64 r1, v1_]) ∧ Kd.R k58 58 w' w.heap.size (fun _ => True) v1_ r2 ∧ Below w.heap.size w w' := by
 have hu25 := Try.underlying25
 have hu58 := Try.underlying58
 have HR0_1 := ak hr0_1
 have HC0_1 := ak hc0_1
 clear hr0_1 hc0_1
 have HB := ak (Below.refl w.heap.size w)
 have H : (if ((l0_1.length : Int) : Int).toNat ≤ 7036874417766 then (impl_Net_back.l0 k l0_1 (l0_1.length : Int) 0 a0_0 (([] : List (S58)))) else (none)) = some (r1, r2) := h
 clear h
 by_cases c2 : ((l0_1.length : Int) : Int).toNat ≤ 7036874417766
 rotate_left
 ·rw [if_neg c2] at H
  exact absurd H (by simp)
 rw [if_pos c2] at H
 have c2b0 := eq_true c2
 have c2b1 : decide (((l0_1.length : Int) : Int).toNat ≤ 7036874417766) = true := decide_eq_true c2
 clear c2
 obtain ⟨y286, hy286⟩ : ∃ y_ : List (S58), y_ = (([] : List (S58))) := ⟨_, rfl⟩
 replace H : (impl_Net_back.l0 k l0_1 (l0_1.length : Int) 0 a0_0 y286) = some (r1, r2) := by first | (rw [hy286]; with_reducible exact H) | (have H2_ := (Option.bind_some _ _).symm.trans H; rw [hy286]; with_reducible exact H2_) | (have H2_ := (Option.bind_some _ _).symm.trans H; with_reducible exact H2_) | with_reducible exact H | (rw [hy286]; exact H) | exact H
 have Ny286 := ak hy286
 clear hy286
 have H' := ak H
 clear H
 go_enter Try.func124, Try.ntmps124
 try go_wp2_with (first | ((with_reducible refine gate_dst (N := 1) rfl ?_); refine box_event ?hg (N := 1) ?hd (cs := #[.int .i64 a0_0, .slice A0_1 l0_1.length c0_1]) (t := 25) ?hr ?_; (case hd => rfl); (case hg => rfl); (case hr => first | (go_simp; done) | (go_simp; rfl)); intro gb284 hg w3 hbox hb; have BK284 := ak (hbox); have GW284 := ak ((by rw [hg]; exact (below_size (bl HB)) : w.heap.size ≤ gb284)); have GE284 := ak ((by rw [hg]; exact (below_size (bl HB)) : w.heap.size ≤ gb284)); replace HB := ak (below_step (bl HB) hb); clear hb hbox hg) | ((with_reducible refine gate_dst (N := 2) rfl ?_); refine box_event ?hg (N := 2) ?hd (cs := #[.int .i64 0, .slice none 0 0]) (t := 25) ?hr ?_; (case hd => rfl); (case hg => rfl); (case hr => first | (go_simp; done) | (go_simp; rfl)); intro gb285 hg w4 hbox hb; have BK285 := ak (hbox); have GW285 := ak ((by rw [hg]; exact (below_size (bl1 HB GE284)) : w.heap.size ≤ gb285)); have GE285 := ak ((by rw [hg]; exact (below_size (bl1 HB GE284)) : w.heap.size ≤ gb285)); replace HB := ak (below_step (bl1 HB GE284) hb); have NB284_285 := ak ((by rw [hg]; exact Nat.ne_of_lt (blk_lt (bk BK284)) : gb284 ≠ gb285)); have NB285_284 := ak ((by rw [hg]; exact Nat.ne_of_gt (blk_lt (bk BK284)) : gb285 ≠ gb284)); replace BK284 := ak (blk_below (bk BK284) hb); clear hb hbox hg))
 replace BK284 := ak (blk_drew BK284.out)
 replace BK285 := ak (blk_drew BK285.out)
 replace HB := ak (below_drew1 HB.out)
 refine start_ (n := 9) (S := fun w' => w'.cell? ⟨gb284, 0, none⟩ = some (.int .i64 a0_0) ∧ w'.cell? ⟨gb284, 1, none⟩ = some (.slice A0_1 l0_1.length c0_1)) (ds := []) (ms 9 0) (by kernel_rfl) rfl (by kernel_rfl) ⟨(blk_cell BK284.out 0).trans rfl, (blk_cell BK284.out 1).trans rfl⟩ (fun hHeld => ?_); refine with_tabW impl_Net_back.tab1 impl_Net_back.bits1 (fun HT_ HW_ => ?_)
 generalize w4.drew = w5 at BK284 BK285 HB hHeld ⊢
 refine pu 0 6 ?_ (ms 9 1) rfl rfl HT_ (by kernel_rfl) (fun _ _ _ h => h) (by rfl) ?_ ?_ ?_ ?_
 rotate_left
 ·intro w'
  go_simp
  with_reducible rfl
 rotate_left
 ·simp only [SX]
  rfl
 refine pu 2 8 ?_ (ms 9 5) rfl rfl HT_ (by kernel_rfl) (fun _ _ _ h => h) (by rfl) ?_ ?_ ?_ ?_
 rotate_left
 ·intro w'
  go_simp
  with_reducible rfl
 rotate_left
 ·simp only [SX]
  rfl
 refine tk 1 7 ?_ (ms 9 7) rfl rfl HT_ HW_ (by kernel_rfl) (fun _ _ _ h => h) (by rfl) ?_ hHeld ?_ ?_ ?_
 rotate_left
 ·rintro w' ⟨s0, s1⟩
  go_simp
  with_reducible rfl
 rotate_left
 ·simp only [SX]
  rfl
 refine tk 3 9 ?_ (ms 9 15) rfl rfl HT_ HW_ (by kernel_rfl) (fun _ _ _ h => h) (by rfl) ?_ hHeld ?_ ?_ ?_
 rotate_left
 ·rintro w' ⟨s0, s1⟩
  go_simp
  with_reducible rfl
 rotate_left
 ·simp only [SX]
  rfl
 refine pu 4 10 ?_ (ms 9 31) rfl rfl HT_ (by kernel_rfl) (fun _ _ _ h => h) (by rfl) ?_ ?_ ?_ ?_
 rotate_left
 ·intro w'
  go_simp
  with_reducible rfl
 rotate_left
 ·simp only [SX]
  rfl
 refine join_ (σ := Value × Nat) 1 (ms 9 255) (fun s_ => [(11, s_.1), (3, .pointer (some ⟨s_.2, 0, none⟩)), (12, .agg #[.int .i64 a0_0, s_.1])]) (fun s_ w' => (w'.cell? ⟨gb284, 0, none⟩ = some (.int .i64 a0_0) ∧ w'.cell? ⟨gb284, 1, none⟩ = some (.slice A0_1 l0_1.length c0_1)) ∧ (Kd.R k58 58 w' w.heap.size (fun _ => True) s_.1 y286) ∧ (w'.heap[gb284]? = some (.cells #[.int .i64 a0_0, .slice A0_1 l0_1.length c0_1] 25 (0, 0))) ∧ (w'.heap[gb285]? = some (.cells #[.int .i64 0, .slice none 0 0] 25 (0, 0))) ∧ (w'.heap[s_.2]? = some (.cells #[.int .i64 0, .slice none 0 0] 25 (0, 0))) ∧ (w.heap.size ≤ s_.2) ∧ (w.heap.size ≤ s_.2) ∧ (gb284 ≠ s_.2) ∧ (s_.2 ≠ gb284) ∧ (gb285 ≠ s_.2) ∧ (s_.2 ≠ gb285) ∧ (Below w.heap.size w w')) ?_ ?_
 rotate_left
 ·intro hCont
  refine two_ (i := 5) (j := 7) (Ni := some 11) (Nj := some 3) (ms 9 63) (ms 9 159) rfl rfl rfl rfl (two_of HT_.out (by kernel_rfl)) (by decide) (by decide) (fun K hK => ?_) (fun K hK => ?_)
  ·skip
   refine Kd.R_make0_step k58 _ 58 (by rfl) (N := 11) rfl 23 _ _ rfl (l0_1.length : Int) rfl rfl Try.underlying23 (.agg #[(.int .i64 0), (.int .i64 0), (.int .i64 0), (.int .i64 0), (.int .i64 0)]) 40 info58 (by decide) (ok := fun _ => True) trivial (by omega) (Nat.le_trans (Nat.mul_le_mul_right _ (oT (by first | (with_reducible assumption) | assumption) : (l0_1.length : Int).toNat ≤ 7036874417766)) (by omega)) (Below.refl _ _) (Nat.le_refl _) ?_
   intro v287 w6 ho7 hb hg_ hnew_
   clear hg_ hnew_
   (first | rw [← Ny286.out] at ho7 | (simp only [Int.reduceToNat] at ho7; rw [← Ny286.out] at ho7))
   have HO288 := ak (Kd.R_lower ho7 (below_size (bl2 HB GE284 GE285)))
   replace BK284 := ak (blk_below (bk BK284) hb)
   replace BK285 := ak (blk_below (bk BK285) hb)
   replace HB := ak (below_step (bl2 HB GE284 GE285) hb)
   clear hb ho7
   obtain ⟨Ao8, co8, eo8⟩ := Kd.R_slice HO288.out
   (first | subst eo8 | (injection eo8 with f1_ f2_ f3_; have f4_ := f1_.symm; have f5_ := f3_.symm; clear f1_ f2_ f3_; subst f4_; subst f5_))
   refine hK.out _ _ ⟨(blk_cell BK284.out 0).trans rfl, (blk_cell BK284.out 1).trans rfl⟩ (fun hHeld => ?_)
   clear hK K
   refine norm_ (a' := ?_) ?_ ?_
   rotate_left
   ·show Act.put _ (some 11) _ = _
    simp only [SX]
    rfl
   refine pu 6 12 ?_ (ms 9 127) rfl rfl HT_ (by kernel_rfl) (fun _ _ _ h => h) (by rfl) ?_ ?_ ?_ ?_
   rotate_left
   ·intro w'
    go_simp
    with_reducible rfl
   rotate_left
   ·simp only [SX]
    rfl
   refine one_ (i := 7) (N := some 3) (ms 9 255) rfl rfl (one_of HT_.out (by kernel_rfl)) (by decide) (fun K hK => ?_)
   refine box_step ?hg (N := 3) ?hd (cs := #[.int .i64 0, .slice none 0 0]) (t := 25) ?hr ?_; (case hd => rfl); (case hg => rfl); (case hr => first | (go_simp; done) | (go_simp; rfl))
   intro gb289 hg w9 hbox hb
   replace HO288 := ak (Kd.R_below (rk HO288) hb)
   have BK289 := ak (hbox)
   have GW289 := ak ((by rw [hg]; exact (below_size (bl2 HB GE284 GE285)) : w.heap.size ≤ gb289))
   have GE289 := ak ((by rw [hg]; exact (below_size (bl2 HB GE284 GE285)) : w.heap.size ≤ gb289))
   replace HB := ak (below_step (bl2 HB GE284 GE285) hb)
   have NB284_289 := ak ((by rw [hg]; exact Nat.ne_of_lt (blk_lt (bk BK284)) : gb284 ≠ gb289))
   have NB289_284 := ak ((by rw [hg]; exact Nat.ne_of_gt (blk_lt (bk BK284)) : gb289 ≠ gb284))
   replace BK284 := ak (blk_below (bk BK284) hb)
   have NB285_289 := ak ((by rw [hg]; exact Nat.ne_of_lt (blk_lt (bk BK285)) : gb285 ≠ gb289))
   have NB289_285 := ak ((by rw [hg]; exact Nat.ne_of_gt (blk_lt (bk BK285)) : gb289 ≠ gb285))
   replace BK285 := ak (blk_below (bk BK285) hb)
   clear hb hbox hg
   refine hK.out _ _ ⟨(blk_cell BK284.out 0).trans rfl, (blk_cell BK284.out 1).trans rfl⟩ (fun hHeld => ?_)
   clear hK K
   refine norm_ (a' := ?_) ?_ ?_
   rotate_left
   ·show Act.put _ (some 3) _ = _
    simp only [SX]
    rfl
   exact norm_ (by simp only [putAll, Act.put, List.setIfInBounds_toArray, List.set_cons_zero, List.set_cons_succ]) (hCont (.slice Ao8 y286.length co8, gb289) _ ⟨hHeld, (rk HO288), (bk BK284), (bk BK285), (bk BK289), GW289.out, GE289.out, NB284_289.out, NB289_284.out, NB285_289.out, NB289_285.out, (bl3 HB GE284 GE285 GE289)⟩)
  skip
  refine box_step ?hg (N := 3) ?hd (cs := #[.int .i64 0, .slice none 0 0]) (t := 25) ?hr ?_; (case hd => rfl); (case hg => rfl); (case hr => first | (go_simp; done) | (go_simp; rfl))
  intro gb289 hg w6 hbox hb
  have BK289 := ak (hbox)
  have GW289 := ak ((by rw [hg]; exact (below_size (bl2 HB GE284 GE285)) : w.heap.size ≤ gb289))
  have GE289 := ak ((by rw [hg]; exact (below_size (bl2 HB GE284 GE285)) : w.heap.size ≤ gb289))
  replace HB := ak (below_step (bl2 HB GE284 GE285) hb)
  have NB284_289 := ak ((by rw [hg]; exact Nat.ne_of_lt (blk_lt (bk BK284)) : gb284 ≠ gb289))
  have NB289_284 := ak ((by rw [hg]; exact Nat.ne_of_gt (blk_lt (bk BK284)) : gb289 ≠ gb284))
  replace BK284 := ak (blk_below (bk BK284) hb)
  have NB285_289 := ak ((by rw [hg]; exact Nat.ne_of_lt (blk_lt (bk BK285)) : gb285 ≠ gb289))
  have NB289_285 := ak ((by rw [hg]; exact Nat.ne_of_gt (blk_lt (bk BK285)) : gb289 ≠ gb285))
  replace BK285 := ak (blk_below (bk BK285) hb)
  clear hb hbox hg
  refine hK.out _ _ ⟨(blk_cell BK284.out 0).trans rfl, (blk_cell BK284.out 1).trans rfl⟩ (fun hHeld => ?_)
  clear hK K
  refine norm_ (a' := ?_) ?_ ?_
  rotate_left
  ·show Act.put _ (some 3) _ = _
   simp only [SX]
   rfl
  refine one_ (i := 5) (N := some 11) (ms 9 191) rfl rfl (one_of HT_.out (by kernel_rfl)) (by decide) (fun K hK => ?_)
  refine Kd.R_make0_step k58 _ 58 (by rfl) (N := 11) rfl 23 _ _ rfl (l0_1.length : Int) rfl rfl Try.underlying23 (.agg #[(.int .i64 0), (.int .i64 0), (.int .i64 0), (.int .i64 0), (.int .i64 0)]) 40 info58 (by decide) (ok := fun _ => True) trivial (by omega) (Nat.le_trans (Nat.mul_le_mul_right _ (oT (by first | (with_reducible assumption) | assumption) : (l0_1.length : Int).toNat ≤ 7036874417766)) (by omega)) (Below.refl _ _) (Nat.le_refl _) ?_
  intro v287 w7 ho8 hb hg_ hnew_
  clear hg_ hnew_
  (first | rw [← Ny286.out] at ho8 | (simp only [Int.reduceToNat] at ho8; rw [← Ny286.out] at ho8))
  have HO288 := ak (Kd.R_lower ho8 (below_size (bl3 HB GE284 GE285 GE289)))
  replace BK284 := ak (blk_below (bk BK284) hb)
  replace BK285 := ak (blk_below (bk BK285) hb)
  replace BK289 := ak (blk_below (bk BK289) hb)
  replace HB := ak (below_step (bl3 HB GE284 GE285 GE289) hb)
  clear hb ho8
  obtain ⟨Ao9, co9, eo9⟩ := Kd.R_slice HO288.out
  (first | subst eo9 | (injection eo9 with f1_ f2_ f3_; have f4_ := f1_.symm; have f5_ := f3_.symm; clear f1_ f2_ f3_; subst f4_; subst f5_))
  refine hK.out _ _ ⟨(blk_cell BK284.out 0).trans rfl, (blk_cell BK284.out 1).trans rfl⟩ (fun hHeld => ?_)
  clear hK K
  refine norm_ (a' := ?_) ?_ ?_
  rotate_left
  ·show Act.put _ (some 11) _ = _
   simp only [SX]
   rfl
  refine pu 6 12 ?_ (ms 9 255) rfl rfl HT_ (by kernel_rfl) (fun _ _ _ h => h) (by rfl) ?_ ?_ ?_ ?_
  rotate_left
  ·intro w'
   go_simp
   with_reducible rfl
  rotate_left
  ·simp only [SX]
   rfl
  exact norm_ (by simp only [putAll, Act.put, List.setIfInBounds_toArray, List.set_cons_zero, List.set_cons_succ]) (hCont (.slice Ao9 y286.length co9, gb289) _ ⟨hHeld, (rk HO288), (bk BK284), (bk BK285), (bk BK289), GW289.out, GE289.out, NB284_289.out, NB289_284.out, NB285_289.out, NB289_285.out, (bl3 HB GE284 GE285 GE289)⟩)
 rintro ⟨v287, gb289⟩ w10 ⟨hS_, h0_, h1_, h2_, h3_, h4_, h5_, h6_, h7_, h8_, h9_, h10_⟩
 have HO288 : Aside0 (Kd.R k58 58 w10 w.heap.size (fun _ => True) v287 y286) := ⟨h0_⟩
 replace BK284 : Aside0 (w10.heap[gb284]? = some (.cells #[.int .i64 a0_0, .slice A0_1 l0_1.length c0_1] 25 (0, 0))) := ⟨h1_⟩
 replace BK285 : Aside0 (w10.heap[gb285]? = some (.cells #[.int .i64 0, .slice none 0 0] 25 (0, 0))) := ⟨h2_⟩
 have BK289 : Aside0 (w10.heap[gb289]? = some (.cells #[.int .i64 0, .slice none 0 0] 25 (0, 0))) := ⟨h3_⟩
 have GW289 : Aside0 (w.heap.size ≤ gb289) := ⟨h4_⟩
 have GE289 : Aside0 (w.heap.size ≤ gb289) := ⟨h5_⟩
 have NB284_289 : Aside0 (gb284 ≠ gb289) := ⟨h6_⟩
 have NB289_284 : Aside0 (gb289 ≠ gb284) := ⟨h7_⟩
 have NB285_289 : Aside0 (gb285 ≠ gb289) := ⟨h8_⟩
 have NB289_285 : Aside0 (gb289 ≠ gb285) := ⟨h9_⟩
 replace HB : Aside0 (Below w.heap.size w w10) := ⟨h10_⟩
 clear h0_ h1_ h2_ h3_ h4_ h5_ h6_ h7_ h8_ h9_ h10_
 have hHeld : w10.cell? ⟨gb284, 0, none⟩ = some (.int .i64 a0_0) ∧ w10.cell? ⟨gb284, 1, none⟩ = some (.slice A0_1 l0_1.length c0_1) := hS_
 obtain ⟨Ao11, co11, eo11⟩ := Kd.R_slice HO288.out
 (first | subst eo11 | (injection eo11 with f1_ f2_ f3_; have f4_ := f1_.symm; have f5_ := f3_.symm; clear f1_ f2_ f3_; subst f4_; subst f5_))
 refine norm_ (a' := ?_) ?_ ?_
 rotate_left
 ·simp only [putAll, Act.put, List.setIfInBounds_toArray, List.set_cons_zero, List.set_cons_succ]
  rfl
 refine one_ (i := 8) (N := none) (ms 9 511) rfl rfl (one_of HT_.out (by kernel_rfl)) (by decide) (fun K hK => ?_)
 have hs12 : w10.cell? ⟨gb289, 0, none⟩ = some (.int .i64 0) := (blk_cell BK289.out 0).trans rfl
 have hfs12 := blk_frozen BK289.out 0
 have hns12_0 := NB284_289.out
 have hns12_1 := NB285_289.out
 have hms12_0 := NB289_284.out
 have hms12_1 := NB289_285.out
 have hs13 : w10.cell? ⟨gb289, 1, none⟩ = some (.slice none 0 0) := (blk_cell BK289.out 1).trans rfl
 have hfs13 := blk_frozen BK289.out 1
 have hns13_0 := NB284_289.out
 have hns13_1 := NB285_289.out
 have hms13_0 := NB289_284.out
 have hms13_1 := NB289_285.out
 refine skip_ (w1 := ?_) (by rfl) rfl ?_ ?_
 rotate_left
 ·go_simp
  rfl
 refine hK.out _ _ ⟨((cell_far (p := ⟨gb289, _, none⟩) NB284_289.out _).trans (((cell_far (p := ⟨gb289, _, none⟩) NB284_289.out _).trans (hHeld.1)))), ((cell_far (p := ⟨gb289, _, none⟩) NB284_289.out _).trans (((cell_far (p := ⟨gb289, _, none⟩) NB284_289.out _).trans (hHeld.2))))⟩ (fun hHeld => ?_)
 clear hK K
 refine done_ (done_of HT_.out (by kernel_rfl)) ?_
 have hnb14 := NB284_285.out
 have hnc14 := NB285_284.out
 have hnb15 := NB284_289.out
 have hnc15 := NB289_284.out
 have hcz16_0 := bc w10 BK284 0 (.int .i64 a0_0) rfl
 have hcz16_1 := bc w10 BK284 1 (.slice A0_1 l0_1.length c0_1) rfl
 have hfz16_0 := fz BK284 0
 have hfz16_1 := fz BK284 1
 try go_wp2
 go_loopg [16] k (fun kq v16 w' => ∃ (x16_1 : Int) (x290001_1 : List (S58)) (u290001 : Value), v16 = .int .i64 x16_1 ∧ Aside0 (impl_Net_back.l0 kq l0_1 (l0_1.length : Int) x16_1 a0_0 x290001_1 = some (r1, r2)) ∧ Aside0 (kq ≤ k) ∧ Aside0 (Kd.R k58 58 w' w.heap.size (fun _ => True) u290001 x290001_1) ∧ Aside0 (w'.heap[gb284]? = some (.cells #[.int .i64 a0_0, (.slice A0_1 l0_1.length c0_1)] 25 (0, 0))) ∧ Aside0 (w'.heap[gb285]? = some (.cells #[.int .i64 0, (.slice none 0 0)] 25 (0, 0))) ∧ Aside0 (w'.heap[gb289]? = some (.cells #[.int .i64 a0_0, u290001] 25 (0, 0))) ∧ Aside0 (Below w.heap.size w w'))
 case atStart => exact ⟨(0), (y286), (.slice Ao11 y286.length co11), (by first | rfl | (simp; done) | (simp [*]; done)), H', ⟨Nat.le_refl _⟩, ⟨by (with_reducible repeat (first | apply Kd.R_alloc | apply Kd.R_drewN | apply Kd.R_drew)); exact Kd.R_mono (Kd.R_far (p := ⟨gb289, 1, none⟩) (Kd.R_far (p := ⟨gb289, 0, none⟩) (Kd.R_types HO288.out BK289.out (by decide)) (fun _ hk => hk.2) (.int .i64 a0_0)) (fun _ hk => hk.2) (.slice Ao11 y286.length co11)) (fun _ hk => trivial)⟩, ⟨by (with_reducible repeat (first | refine blk_drewN ?_ _ | refine blk_drew ?_ | refine blk_alloc ?_ _)); refine blk_far ?_ NB284_289.out _; refine blk_far ?_ NB284_289.out _; (with_reducible repeat (first | refine blk_drewN ?_ _ | refine blk_drew ?_ | refine blk_alloc ?_ _)); exact BK284.out⟩, ⟨by (with_reducible repeat (first | refine blk_drewN ?_ _ | refine blk_drew ?_ | refine blk_alloc ?_ _)); refine blk_far ?_ NB285_289.out _; refine blk_far ?_ NB285_289.out _; (with_reducible repeat (first | refine blk_drewN ?_ _ | refine blk_drew ?_ | refine blk_alloc ?_ _)); exact BK285.out⟩, ⟨by (with_reducible repeat (first | refine blk_drewN ?_ _ | refine blk_drew ?_ | refine blk_alloc ?_ _)); refine blk_put (cs := #[.int .i64 a0_0, .slice none 0 0]) ?_ 1 _ rfl; refine blk_put (cs := #[.int .i64 0, .slice none 0 0]) ?_ 0 _ rfl; (with_reducible repeat (first | refine blk_drewN ?_ _ | refine blk_drew ?_ | refine blk_alloc ?_ _)); exact BK289.out⟩, ⟨bl3 HB GE284 GE285 GE289⟩⟩
 clear H'
 try clear c1
 try clear c2
 try clear c2b0
 try clear c2b1
 try clear p2
 try clear c12
 try clear c14
 try clear c15
 try clear hcz16_0
 try clear hcz16_1
 try clear hfz16_0
 try clear hfz16_1
 obtain ⟨x16_1, x290001_1, u290001, rfl, HA, HK1, HO_290001, BK284, BK285, BK289, HB⟩ := hrel
 cases gk with
 | zero => exact absurd HA.out (by simp [impl_Net_back.l0])
 | succ k1 =>
  have H := HA.out
  clear HA
  simp only [impl_Net_back.l0] at H
  by_cases c17 : x16_1 < (l0_1.length : Int)
  rotate_left
  ·rw [if_neg c17] at H
   have c17b0 : decide (x16_1 < (l0_1.length : Int)) = false := decide_eq_false c17
   clear c17
   simp only [Option.some.injEq, Prod.mk.injEq] at H
   obtain ⟨rfl, rfl⟩ := H
   have hnb32 := NB289_284.out
   have hnc32 := NB284_289.out
   have hnb33 := NB289_285.out
   have hnc33 := NB285_289.out
   have hcz34_0 := bc wr BK289 0 (.int .i64 a0_0) rfl
   have hcz34_1 := bc wr BK289 1 (u290001) rfl
   have hfz34_0 := fz BK289 0
   have hfz34_1 := fz BK289 1
   have hnb35 := NB285_284.out
   have hnc35 := NB284_285.out
   have hcz36_0 := bc wr BK285 0 (.int .i64 0) rfl
   have hcz36_1 := bc wr BK285 1 (.slice none 0 0) rfl
   have hfz36_0 := fz BK285 0
   have hfz36_1 := fz BK285 1
   obtain ⟨Ao37, co37, eo37⟩ := Kd.R_slice HO_290001.out
   subst eo37
   go_wp2
   refine bodyPost_ret (results_cell_row rfl _ _ gb285 25 #[.int .i64 a0_0, .slice Ao37 x290001_1.length co37] (0, 0) _ rfl (by (with_reducible repeat (first | refine blk_drewN ?_ _ | refine blk_drew ?_ | refine blk_alloc ?_ _)); refine blk_put (cs := #[.int .i64 a0_0, .slice none 0 0]) ?_ 1 _ rfl; refine blk_put (cs := #[.int .i64 0, .slice none 0 0]) ?_ 0 _ rfl; (with_reducible repeat (first | refine blk_drewN ?_ _ | refine blk_drew ?_ | refine blk_alloc ?_ _)); exact BK285.out) Try.underlying25 rfl (by kernel_rfl)) rfl ?_
   exact ⟨_, by first | rfl | (simp [errW_none, errW_some] <;> rfl) | (simp [*, errW_none, errW_some] <;> rfl), by (with_reducible repeat (first | apply Kd.R_alloc | apply Kd.R_drewN | apply Kd.R_drew)); exact Kd.R_mono (Kd.R_far (p := ⟨gb285, 1, none⟩) (Kd.R_far (p := ⟨gb285, 0, none⟩) (Kd.R_types HO_290001.out BK285.out (by decide)) (fun _ hk => hk.2) (.int .i64 a0_0)) (fun _ hk => hk.2) (.slice Ao37 x290001_1.length co37)) (fun _ hk => trivial), bl3 HB GE284 GE285 GE289⟩
  rw [if_pos c17] at H
  have c17b0 : decide (x16_1 < (l0_1.length : Int)) = true := decide_eq_true c17
  clear c17
  by_cases c18 : 0 ≤ x16_1
  rotate_left
  ·rw [if_neg c18] at H
   exact absurd H (by simp)
  rw [if_pos c18] at H
  have c18b0 : decide (0 ≤ x16_1) = true := decide_eq_true c18
  clear c18
  by_cases c19 : x16_1 < (l0_1.length : Int)
  rotate_left
  ·rw [if_neg c19] at H
   exact absurd H (by simp)
  rw [if_pos c19] at H
  have c19b0 : decide (x16_1 < (l0_1.length : Int)) = true := decide_eq_true c19
  clear c19
  by_cases c20 : x290001_1.length < 3518437208883
  rotate_left
  ·rw [if_neg c20] at H
   exact absurd H (by simp)
  rw [if_pos c20] at H
  have LMc20 := ak c20
  clear c20
  obtain ⟨y292, hy292⟩ : ∃ y_ : List (S58), y_ = (x290001_1 ++ [(⟨(rd_T58 l0_1 x16_1).f1, (rd_T58 l0_1 x16_1).f0, (rd_T58 l0_1 x16_1).f2, (rd_T58 l0_1 x16_1).f3, (rd_T58 l0_1 x16_1).f4⟩ : S58)]) := ⟨_, rfl⟩
  replace H : (impl_Net_back.l0 k1 l0_1 (l0_1.length : Int) (wrap64 (x16_1 + 1)) a0_0 y292) = some (r1, r2) := by first | (rw [hy292]; with_reducible exact H) | (have H2_ := (Option.bind_some _ _).symm.trans H; rw [hy292]; with_reducible exact H2_) | (have H2_ := (Option.bind_some _ _).symm.trans H; with_reducible exact H2_) | with_reducible exact H | (rw [hy292]; exact H) | exact H
  have Ny292 := ak hy292
  clear hy292
  have H' := ak H
  clear H
  have p290 : 0 ≤ (x16_1 : Int) := oT (by first | (with_reducible assumption) | assumption)
  have q290 : x16_1 < (l0_1.length : Int) := oT (by first | (with_reducible assumption) | assumption)
  obtain ⟨ad290, e290, hx290_0, hx290_1, hx290_2, hx290_3, hx290_4⟩ := at_T58 HR0_1.out x16_1 p290 q290
  cases e290
  replace hx290_0 := hcb HB.out hx290_0
  replace hx290_1 := hcb HB.out hx290_1
  replace hx290_2 := hcb HB.out hx290_2
  replace hx290_3 := hcb HB.out hx290_3
  replace hx290_4 := hcb HB.out hx290_4
  replace p290 := eq_true p290
  replace q290 := eq_true q290
  go_wp2_with (first | ((with_reducible refine gate_dst (N := 5) rfl ?_); refine box_event ?hg (N := 5) ?hd (cs := #[.int .i64 0, .int .i64 0, .int .i64 0, .int .i64 0, .int .i64 0]) (t := 58) ?hr ?_; (case hd => rfl); (case hg => rfl); (case hr => first | (go_simp; done) | (go_simp; rfl)); intro gb291 hg w21 hbox hb; replace HO_290001 := ak (Kd.R_below (Kd.R_elderB (rk HO_290001) gb291 (Nat.le_of_eq hg.symm)) hb); have BK291 := ak (hbox); have GW291 := ak ((by rw [hg]; exact (below_size (bl3 HB GE284 GE285 GE289)) : w.heap.size ≤ gb291)); have GE291 := ak ((by rw [hg]; exact (below_size (bl3 HB GE284 GE285 GE289)) : w.heap.size ≤ gb291)); replace HB := ak (below_step (bl3 HB GE284 GE285 GE289) hb); have NB284_291 := ak ((by rw [hg]; exact Nat.ne_of_lt (blk_lt (bk BK284)) : gb284 ≠ gb291)); have NB291_284 := ak ((by rw [hg]; exact Nat.ne_of_gt (blk_lt (bk BK284)) : gb291 ≠ gb284)); replace BK284 := ak (blk_below (bk BK284) hb); have NB285_291 := ak ((by rw [hg]; exact Nat.ne_of_lt (blk_lt (bk BK285)) : gb285 ≠ gb291)); have NB291_285 := ak ((by rw [hg]; exact Nat.ne_of_gt (blk_lt (bk BK285)) : gb291 ≠ gb285)); replace BK285 := ak (blk_below (bk BK285) hb); have NB289_291 := ak ((by rw [hg]; exact Nat.ne_of_lt (blk_lt (bk BK289)) : gb289 ≠ gb291)); have NB291_289 := ak ((by rw [hg]; exact Nat.ne_of_gt (blk_lt (bk BK289)) : gb291 ≠ gb289)); replace BK289 := ak (blk_below (bk BK289) hb); clear hb hbox hg; have hnb22 := NB291_284.out; have hnc22 := NB284_291.out; have hnb23 := NB291_285.out; have hnc23 := NB285_291.out; have hnb24 := NB291_289.out; have hnc24 := NB289_291.out; have hcz25_0 := bc w21 BK291 0 (.int .i64 0) rfl; have hcz25_1 := bc w21 BK291 1 (.int .i64 0) rfl; have hcz25_2 := bc w21 BK291 2 (.int .i64 0) rfl; have hcz25_3 := bc w21 BK291 3 (.int .i64 0) rfl; have hcz25_4 := bc w21 BK291 4 (.int .i64 0) rfl; have hfz25_0 := fz BK291 0; have hfz25_1 := fz BK291 1; have hfz25_2 := fz BK291 2; have hfz25_3 := fz BK291 3; have hfz25_4 := fz BK291 4; have hnb26 := NB289_284.out; have hnc26 := NB284_289.out; have hnb27 := NB289_285.out; have hnc27 := NB285_289.out; have hcz28_0 := bc w21 BK289 0 (.int .i64 a0_0) rfl; have hcz28_1 := bc w21 BK289 1 (u290001) rfl; have hfz28_0 := fz BK289 0; have hfz28_1 := fz BK289 1) | ((with_reducible refine gate_dst (N := 28) rfl ?_); (fail_if_success clear hW_); refine impl_Net_back.fix_world (g := gb291) (o := .cells #[.int .i64 ((rd_T58 l0_1 x16_1).f1), .int .i64 ((rd_T58 l0_1 x16_1).f0), .int .i64 ((rd_T58 l0_1 x16_1).f2), .int .i64 ((rd_T58 l0_1 x16_1).f3), .int .i64 ((rd_T58 l0_1 x16_1).f4)] 58 (0, 0)) (by (with_reducible repeat (first | refine blk_drewN ?_ _ | refine blk_drew ?_ | refine blk_alloc ?_ _)); refine blk_put (cs := #[.int .i64 ((rd_T58 l0_1 x16_1).f1), .int .i64 ((rd_T58 l0_1 x16_1).f1), .int .i64 ((rd_T58 l0_1 x16_1).f2), .int .i64 ((rd_T58 l0_1 x16_1).f3), .int .i64 ((rd_T58 l0_1 x16_1).f4)]) ?_ 1 _ rfl; refine blk_put (cs := #[.int .i64 ((rd_T58 l0_1 x16_1).f0), .int .i64 ((rd_T58 l0_1 x16_1).f1), .int .i64 ((rd_T58 l0_1 x16_1).f2), .int .i64 ((rd_T58 l0_1 x16_1).f3), .int .i64 ((rd_T58 l0_1 x16_1).f4)]) ?_ 0 _ rfl; refine blk_put (cs := #[.int .i64 ((rd_T58 l0_1 x16_1).f0), .int .i64 ((rd_T58 l0_1 x16_1).f1), .int .i64 ((rd_T58 l0_1 x16_1).f2), .int .i64 ((rd_T58 l0_1 x16_1).f3), .int .i64 0]) ?_ 4 _ rfl; refine blk_put (cs := #[.int .i64 ((rd_T58 l0_1 x16_1).f0), .int .i64 ((rd_T58 l0_1 x16_1).f1), .int .i64 ((rd_T58 l0_1 x16_1).f2), .int .i64 0, .int .i64 0]) ?_ 3 _ rfl; refine blk_put (cs := #[.int .i64 ((rd_T58 l0_1 x16_1).f0), .int .i64 ((rd_T58 l0_1 x16_1).f1), .int .i64 0, .int .i64 0, .int .i64 0]) ?_ 2 _ rfl; refine blk_put (cs := #[.int .i64 ((rd_T58 l0_1 x16_1).f0), .int .i64 0, .int .i64 0, .int .i64 0, .int .i64 0]) ?_ 1 _ rfl; refine blk_put (cs := #[.int .i64 0, .int .i64 0, .int .i64 0, .int .i64 0, .int .i64 0]) ?_ 0 _ rfl; (with_reducible repeat (first | refine blk_drewN ?_ _ | refine blk_drew ?_ | refine blk_alloc ?_ _)); exact BK291.out) ?_; intro W_ hW_ hBW_; have hcw_0 : W_.cell? ⟨gb291, 0, none⟩ = some (.int .i64 ((rd_T58 l0_1 x16_1).f1)) := (blk_cell hBW_ 0).trans rfl; have hcw_1 : W_.cell? ⟨gb291, 1, none⟩ = some (.int .i64 ((rd_T58 l0_1 x16_1).f0)) := (blk_cell hBW_ 1).trans rfl; have hcw_2 : W_.cell? ⟨gb291, 2, none⟩ = some (.int .i64 ((rd_T58 l0_1 x16_1).f2)) := (blk_cell hBW_ 2).trans rfl; have hcw_3 : W_.cell? ⟨gb291, 3, none⟩ = some (.int .i64 ((rd_T58 l0_1 x16_1).f3)) := (blk_cell hBW_ 3).trans rfl; have hcw_4 : W_.cell? ⟨gb291, 4, none⟩ = some (.int .i64 ((rd_T58 l0_1 x16_1).f4)) := (blk_cell hBW_ 4).trans rfl) | ((with_reducible refine gate_dst (N := 29) rfl ?_); clear hBW_ hcw_0 hcw_1 hcw_2 hcw_3 hcw_4; subst hW_) | ((with_reducible refine gate_builtin (b := .append) (xs := #[.tmp 27, .tmp 29]) rfl ?_); at_builtin; refine Kd.R_append k58 (w0 := w) w.heap.size rfl (.tmp 27) (.tmp 29) 23 58 (.agg #[(.int .i64 0), (.int .i64 0), (.int .i64 0), (.int .i64 0), (.int .i64 0)]) 40 rfl Try.underlying23 info58 rfl (by decide) (by omega) u290001 x290001_1 (⟨(rd_T58 l0_1 x16_1).f1, (rd_T58 l0_1 x16_1).f0, (rd_T58 l0_1 x16_1).f2, (rd_T58 l0_1 x16_1).f3, (rd_T58 l0_1 x16_1).f4⟩ : S58) [.int .i64 ((rd_T58 l0_1 x16_1).f1), .int .i64 ((rd_T58 l0_1 x16_1).f0), .int .i64 ((rd_T58 l0_1 x16_1).f2), .int .i64 ((rd_T58 l0_1 x16_1).f3), .int .i64 ((rd_T58 l0_1 x16_1).f4)] (fun k_ => k_ ≠ gb291) (fun _ => False) rfl (by first | (go_simp; done) | (go_simp; rfl)) ?aP (fun _ hk => hk.elim) ?aF ?aO ?aB ?aS ?aL ?_; (case aP => exact k58_mkM _ _ _ (⟨(rd_T58 l0_1 x16_1).f1, (rd_T58 l0_1 x16_1).f0, (rd_T58 l0_1 x16_1).f2, (rd_T58 l0_1 x16_1).f3, (rd_T58 l0_1 x16_1).f4⟩ : S58)); (case aB => exact (bl4 HB GE284 GE285 GE289 GE291)); (case aF => exact (fun k_ hk => Kd.freshB (g := gb291) (o := .cells #[.int .i64 ((rd_T58 l0_1 x16_1).f1), .int .i64 ((rd_T58 l0_1 x16_1).f0), .int .i64 ((rd_T58 l0_1 x16_1).f2), .int .i64 ((rd_T58 l0_1 x16_1).f3), .int .i64 ((rd_T58 l0_1 x16_1).f4)] 58 (0, 0)) (by (with_reducible repeat (first | refine blk_drewN ?_ _ | refine blk_drew ?_ | refine blk_alloc ?_ _)); refine blk_put (cs := #[.int .i64 ((rd_T58 l0_1 x16_1).f1), .int .i64 ((rd_T58 l0_1 x16_1).f1), .int .i64 ((rd_T58 l0_1 x16_1).f2), .int .i64 ((rd_T58 l0_1 x16_1).f3), .int .i64 ((rd_T58 l0_1 x16_1).f4)]) ?_ 1 _ rfl; refine blk_put (cs := #[.int .i64 ((rd_T58 l0_1 x16_1).f0), .int .i64 ((rd_T58 l0_1 x16_1).f1), .int .i64 ((rd_T58 l0_1 x16_1).f2), .int .i64 ((rd_T58 l0_1 x16_1).f3), .int .i64 ((rd_T58 l0_1 x16_1).f4)]) ?_ 0 _ rfl; refine blk_put (cs := #[.int .i64 ((rd_T58 l0_1 x16_1).f0), .int .i64 ((rd_T58 l0_1 x16_1).f1), .int .i64 ((rd_T58 l0_1 x16_1).f2), .int .i64 ((rd_T58 l0_1 x16_1).f3), .int .i64 0]) ?_ 4 _ rfl; refine blk_put (cs := #[.int .i64 ((rd_T58 l0_1 x16_1).f0), .int .i64 ((rd_T58 l0_1 x16_1).f1), .int .i64 ((rd_T58 l0_1 x16_1).f2), .int .i64 0, .int .i64 0]) ?_ 3 _ rfl; refine blk_put (cs := #[.int .i64 ((rd_T58 l0_1 x16_1).f0), .int .i64 ((rd_T58 l0_1 x16_1).f1), .int .i64 0, .int .i64 0, .int .i64 0]) ?_ 2 _ rfl; refine blk_put (cs := #[.int .i64 ((rd_T58 l0_1 x16_1).f0), .int .i64 0, .int .i64 0, .int .i64 0, .int .i64 0]) ?_ 1 _ rfl; refine blk_put (cs := #[.int .i64 0, .int .i64 0, .int .i64 0, .int .i64 0, .int .i64 0]) ?_ 0 _ rfl; (with_reducible repeat (first | refine blk_drewN ?_ _ | refine blk_drew ?_ | refine blk_alloc ?_ _)); exact BK291.out) k_ hk)); (case aO => exact (by (with_reducible repeat (first | apply Kd.R_alloc | apply Kd.R_drewN | apply Kd.R_drew)); exact Kd.R_mono (Kd.R_far (p := ⟨gb291, 1, none⟩) (Kd.R_far (p := ⟨gb291, 0, none⟩) (Kd.R_far (p := ⟨gb291, 4, none⟩) (Kd.R_far (p := ⟨gb291, 3, none⟩) (Kd.R_far (p := ⟨gb291, 2, none⟩) (Kd.R_far (p := ⟨gb291, 1, none⟩) (Kd.R_far (p := ⟨gb291, 0, none⟩) (Kd.R_mono HO_290001.out (fun k_ hk => (⟨hk, hk.2⟩ : _ ∧ k_ ≠ gb291))) (fun _ hk => hk.2) (.int .i64 ((rd_T58 l0_1 x16_1).f0))) (fun _ hk => hk.2) (.int .i64 ((rd_T58 l0_1 x16_1).f1))) (fun _ hk => hk.2) (.int .i64 ((rd_T58 l0_1 x16_1).f2))) (fun _ hk => hk.2) (.int .i64 ((rd_T58 l0_1 x16_1).f3))) (fun _ hk => hk.2) (.int .i64 ((rd_T58 l0_1 x16_1).f4))) (fun _ hk => hk.2) (.int .i64 ((rd_T58 l0_1 x16_1).f1))) (fun _ hk => hk.2) (.int .i64 ((rd_T58 l0_1 x16_1).f0))) (fun _ hk => hk.1.2))); (case aS => exact (below_size (bl4 HB GE284 GE285 GE289 GE291))); (case aL => have := LMc20.out; omega); intro v293 w29 ho hb hg hat; rw [← Ny292.out] at ho; have n0_ := ak (blk_grown (g := gb284) (o := .cells #[.int .i64 a0_0, .slice (some ad290) l0_1.length c0_1] 25 (0, 0)) (by (with_reducible repeat (first | refine blk_drewN ?_ _ | refine blk_drew ?_ | refine blk_alloc ?_ _)); refine blk_far ?_ NB284_291.out _; refine blk_far ?_ NB284_291.out _; refine blk_far ?_ NB284_291.out _; refine blk_far ?_ NB284_291.out _; refine blk_far ?_ NB284_291.out _; refine blk_far ?_ NB284_291.out _; refine blk_far ?_ NB284_291.out _; (with_reducible repeat (first | refine blk_drewN ?_ _ | refine blk_drew ?_ | refine blk_alloc ?_ _)); exact BK284.out) hg (Kd.R_ne HO_290001.out BK284.out (by decide))); have n1_ := ak (blk_grown (g := gb285) (o := .cells #[.int .i64 0, .slice none 0 0] 25 (0, 0)) (by (with_reducible repeat (first | refine blk_drewN ?_ _ | refine blk_drew ?_ | refine blk_alloc ?_ _)); refine blk_far ?_ NB285_291.out _; refine blk_far ?_ NB285_291.out _; refine blk_far ?_ NB285_291.out _; refine blk_far ?_ NB285_291.out _; refine blk_far ?_ NB285_291.out _; refine blk_far ?_ NB285_291.out _; refine blk_far ?_ NB285_291.out _; (with_reducible repeat (first | refine blk_drewN ?_ _ | refine blk_drew ?_ | refine blk_alloc ?_ _)); exact BK285.out) hg (Kd.R_ne HO_290001.out BK285.out (by decide))); have n2_ := ak (blk_grown (g := gb289) (o := .cells #[.int .i64 a0_0, u290001] 25 (0, 0)) (by (with_reducible repeat (first | refine blk_drewN ?_ _ | refine blk_drew ?_ | refine blk_alloc ?_ _)); refine blk_far ?_ NB289_291.out _; refine blk_far ?_ NB289_291.out _; refine blk_far ?_ NB289_291.out _; refine blk_far ?_ NB289_291.out _; refine blk_far ?_ NB289_291.out _; refine blk_far ?_ NB289_291.out _; refine blk_far ?_ NB289_291.out _; (with_reducible repeat (first | refine blk_drewN ?_ _ | refine blk_drew ?_ | refine blk_alloc ?_ _)); exact BK289.out) hg (Kd.R_ne HO_290001.out BK289.out (by decide))); have n3_ := ak (blk_grown (g := gb291) (o := .cells #[.int .i64 ((rd_T58 l0_1 x16_1).f1), .int .i64 ((rd_T58 l0_1 x16_1).f0), .int .i64 ((rd_T58 l0_1 x16_1).f2), .int .i64 ((rd_T58 l0_1 x16_1).f3), .int .i64 ((rd_T58 l0_1 x16_1).f4)] 58 (0, 0)) (by (with_reducible repeat (first | refine blk_drewN ?_ _ | refine blk_drew ?_ | refine blk_alloc ?_ _)); refine blk_put (cs := #[.int .i64 ((rd_T58 l0_1 x16_1).f1), .int .i64 ((rd_T58 l0_1 x16_1).f1), .int .i64 ((rd_T58 l0_1 x16_1).f2), .int .i64 ((rd_T58 l0_1 x16_1).f3), .int .i64 ((rd_T58 l0_1 x16_1).f4)]) ?_ 1 _ rfl; refine blk_put (cs := #[.int .i64 ((rd_T58 l0_1 x16_1).f0), .int .i64 ((rd_T58 l0_1 x16_1).f1), .int .i64 ((rd_T58 l0_1 x16_1).f2), .int .i64 ((rd_T58 l0_1 x16_1).f3), .int .i64 ((rd_T58 l0_1 x16_1).f4)]) ?_ 0 _ rfl; refine blk_put (cs := #[.int .i64 ((rd_T58 l0_1 x16_1).f0), .int .i64 ((rd_T58 l0_1 x16_1).f1), .int .i64 ((rd_T58 l0_1 x16_1).f2), .int .i64 ((rd_T58 l0_1 x16_1).f3), .int .i64 0]) ?_ 4 _ rfl; refine blk_put (cs := #[.int .i64 ((rd_T58 l0_1 x16_1).f0), .int .i64 ((rd_T58 l0_1 x16_1).f1), .int .i64 ((rd_T58 l0_1 x16_1).f2), .int .i64 0, .int .i64 0]) ?_ 3 _ rfl; refine blk_put (cs := #[.int .i64 ((rd_T58 l0_1 x16_1).f0), .int .i64 ((rd_T58 l0_1 x16_1).f1), .int .i64 0, .int .i64 0, .int .i64 0]) ?_ 2 _ rfl; refine blk_put (cs := #[.int .i64 ((rd_T58 l0_1 x16_1).f0), .int .i64 0, .int .i64 0, .int .i64 0, .int .i64 0]) ?_ 1 _ rfl; refine blk_put (cs := #[.int .i64 0, .int .i64 0, .int .i64 0, .int .i64 0, .int .i64 0]) ?_ 0 _ rfl; (with_reducible repeat (first | refine blk_drewN ?_ _ | refine blk_drew ?_ | refine blk_alloc ?_ _)); exact BK291.out) hg (Kd.R_away HO_290001.out (fun _ hk => hk.2))); have n4_ := ak (hb); have n5_ := ak (ho); clear BK284; clear BK285; clear BK289; clear BK291; clear HB; clear HO_290001; have BK284 := n0_; have BK285 := n1_; have BK289 := n2_; have BK291 := n3_; have HB := n4_; have HO294 := n5_; clear n0_ n1_ n2_ n3_ n4_ n5_; clear ho hb hg hat; obtain ⟨Ao30, co30, eo30⟩ := Kd.R_slice HO294.out; subst eo30; have hcz31_0 := bc w29 BK289 0 (.int .i64 a0_0) rfl; have hcz31_1 := bc w29 BK289 1 (u290001) rfl; have hfz31_0 := fz BK289 0; have hfz31_1 := fz BK289 1))
  go_roundg k1
  case measure => have := HK1.out; omega
  case rel => exact ⟨(wrap64 (x16_1 + 1)), (y292), (.slice Ao30 y292.length co30), (by first | rfl | (simp; done) | (simp [*]; done)), H', ⟨by have := HK1.out; omega⟩, ⟨by (with_reducible repeat (first | apply Kd.R_alloc | apply Kd.R_drewN | apply Kd.R_drew)); exact Kd.R_mono (Kd.R_far (p := ⟨gb289, 1, none⟩) (Kd.R_types HO294.out BK289.out (by decide)) (fun _ hk => hk.2) (.slice Ao30 y292.length co30)) (fun _ hk => trivial)⟩, ⟨by (with_reducible repeat (first | refine blk_drewN ?_ _ | refine blk_drew ?_ | refine blk_alloc ?_ _)); refine blk_far ?_ NB284_289.out _; (with_reducible repeat (first | refine blk_drewN ?_ _ | refine blk_drew ?_ | refine blk_alloc ?_ _)); exact BK284.out⟩, ⟨by (with_reducible repeat (first | refine blk_drewN ?_ _ | refine blk_drew ?_ | refine blk_alloc ?_ _)); refine blk_far ?_ NB285_289.out _; (with_reducible repeat (first | refine blk_drewN ?_ _ | refine blk_drew ?_ | refine blk_alloc ?_ _)); exact BK285.out⟩, ⟨by (with_reducible repeat (first | refine blk_drewN ?_ _ | refine blk_drew ?_ | refine blk_alloc ?_ _)); refine blk_put (cs := #[.int .i64 a0_0, u290001]) ?_ 1 _ rfl; (with_reducible repeat (first | refine blk_drewN ?_ _ | refine blk_drew ?_ | refine blk_alloc ?_ _)); exact BK289.out⟩, ⟨bl4 HB GE284 GE285 GE289 GE291⟩⟩

end Go.Proofs.Ytlgolgfcolnddaa.F
