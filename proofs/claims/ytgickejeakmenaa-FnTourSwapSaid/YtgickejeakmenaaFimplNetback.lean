-- Printed by wip/px/px.py of this claim's repository (the kit's printer, extended there). Lean checks it.
import Derived.Test.YtgickejeakmenaaFKinds
namespace Go.Proofs.Ytgickejeakmenaa.F
open Go.RowKit Go.Proofs.YtgickejeakmenaaW.PrintWords Go.Proofs.YtgickejeakmenaaW.PrintLast Go.Proofs.YtgickejeakmenaaW.PrintMore
attribute [local go_sem] max2_int min2_int max_two min_two max_three min_three max_four min_four   -- for this text's walks alone
set_option linter.unusedVariables false
set_option linter.unusedSimpArgs false

/-! ### impl_Net_back: function 105 -/
def impl_Net_back.l0 : Nat → List (S41) → Int → Int → Int → List (S41) → Option (Int × (List (S41)))
 | 0, _, _, _, _, _ => none
 | k + 1, x14, x15, x16, x232000, x232001 => if x16 < x15 then (if 0 ≤ x16 then (if x16 < (x14.length : Int) then (if x232001.length < 3518437208883 then (impl_Net_back.l0 k x14 x15 (wrap64 (x16 + 1)) x232000 (x232001 ++ [(⟨(rd_T41 x14 x16).f1, (rd_T41 x14 x16).f0, (rd_T41 x14 x16).f2, (rd_T41 x14 x16).f3, (rd_T41 x14 x16).f4⟩ : S41)])) else (none)) else (none)) else (none)) else (some (x232000, x232001))
def impl_Net_back.f (k : Nat) (a0_0 : Int) (l0_1 : List (S41)) : Option (Int × (List (S41))) := if ((l0_1.length : Int) : Int).toNat ≤ 7036874417766 then (impl_Net_back.l0 k l0_1 (l0_1.length : Int) 0 a0_0 (([] : List (S41)))) else (none)
theorem impl_Net_back.mono_l : ∀ k, (∀ y0 y1 y2 y3 y4, LeO (impl_Net_back.l0 k y0 y1 y2 y3 y4) (impl_Net_back.l0 (k + 1) y0 y1 y2 y3 y4))
 | 0 => fun _ _ _ _ _ r h => by simp [impl_Net_back.l0] at h
 | k + 1 => by
  have ih0 := impl_Net_back.mono_l k
  ·intro y0 y1 y2 y3 y4
   unfold impl_Net_back.l0
   repeat' first | (with_reducible exact ih0 _ _ _ _ _) | (with_reducible exact LeO.refl _) | (with_reducible refine LeO.ite ?_ ?_)
theorem impl_Net_back.mono : ∀ a0 a1 k, LeO (impl_Net_back.f k a0 a1) (impl_Net_back.f (k + 1) a0 a1) := by
 intro a0 a1 k
 have ih0 := impl_Net_back.mono_l k
 unfold impl_Net_back.f
 repeat' first | (with_reducible exact ih0 _ _ _ _ _) | (with_reducible exact LeO.refl _) | (with_reducible refine LeO.ite ?_ ?_)
def impl_Net_back.T1 : Bool × List (List Nat × List Nat) := (true, [([], []), ([0], [0]), ([], []), ([2], [2]), ([3], [3]), ([4], [4]), ([1, 5], [1, 5]), ([], []), ([7, 6, 0, 1, 2, 3, 4, 5, 6, 7], [6, 7])])
def impl_Net_back.B1 : List Nat := [0, 1, 0, 4, 12, 28, 63, 0, 255]
theorem impl_Net_back.tab1 : rtab .any (opsOf Try.f105 1) = impl_Net_back.T1 := by kernel_rfl
theorem impl_Net_back.bits1 : waitsOk impl_Net_back.T1.2 impl_Net_back.B1 = true := by kernel_rfl
theorem impl_Net_back.fix_world {P : Program} {ops : Array Oper} {Q : Exit → Act → World → Prop} {l : List Oper} {a : Act} {W : World} {g : Nat} {o : Obj} (hb : W.heap[g]? = some o) (h : ∀ W', W = W' → W'.heap[g]? = some o → wpList P ops Q l a W') : wpList P ops Q l a W := h W rfl hb
set_option maxHeartbeats 8000000 in
set_option maxRecDepth 100000 in
theorem impl_Net_back.calls (k : Nat) (a0_0 : Int) (A0_1 : Option Addr) (c0_1 : Nat) (l0_1 : List (S41)) (r1 : Int) (r2 : List (S41)) (w : World) (hr0_1 : Kd.C k41 w A0_1 l0_1.length l0_1) (hc0_1 : l0_1.length ≤ c0_1) (h : impl_Net_back.f k a0_0 l0_1 = some (r1, r2)) :
  Calls Try.prog 105 #[.agg #[.int .i64 a0_0, .slice A0_1 l0_1.length c0_1]] w fun e w' => ∃ v1_ : Value, e = .returned (.agg #[.int .i64 r1, v1_]) ∧ Kd.R k41 41 w' w.heap.size (fun _ => True) v1_ r2 ∧ Below w.heap.size w w' := by
 have hu25 := Try.underlying25
 have hu41 := Try.underlying41
 have HR0_1 := ak hr0_1
 have HC0_1 := ak hc0_1
 clear hr0_1 hc0_1
 have HB := ak (Below.refl w.heap.size w)
 have H : (if ((l0_1.length : Int) : Int).toNat ≤ 7036874417766 then (impl_Net_back.l0 k l0_1 (l0_1.length : Int) 0 a0_0 (([] : List (S41)))) else (none)) = some (r1, r2) := h
 clear h
 by_cases c2 : ((l0_1.length : Int) : Int).toNat ≤ 7036874417766
 rotate_left
 ·rw [if_neg c2] at H
  exact absurd H (by simp)
 rw [if_pos c2] at H
 have c2b0 := eq_true c2
 have c2b1 : decide (((l0_1.length : Int) : Int).toNat ≤ 7036874417766) = true := decide_eq_true c2
 clear c2
 obtain ⟨y228, hy228⟩ : ∃ y_ : List (S41), y_ = (([] : List (S41))) := ⟨_, rfl⟩
 replace H : (impl_Net_back.l0 k l0_1 (l0_1.length : Int) 0 a0_0 y228) = some (r1, r2) := by (rw [hy228]; with_reducible exact H)
 have Ny228 := ak hy228
 clear hy228
 have H' := ak H
 clear H
 go_enter Try.func105, Try.ntmps105
 try go_wp2_with (first | ((with_reducible refine gate_dst (N := 1) rfl ?_); refine box_event ?hg (N := 1) ?hd (cs := #[.int .i64 a0_0, .slice A0_1 l0_1.length c0_1]) (t := 25) ?hr ?_; (case hd => rfl); (case hg => rfl); (case hr => (go_simp; done)); intro gb226 hg w3 hbox hb; have BK226 := ak (hbox); have GW226 := ak ((by rw [hg]; exact (below_size (bl HB)) : w.heap.size ≤ gb226)); have GE226 := ak ((by rw [hg]; exact (below_size (bl HB)) : w.heap.size ≤ gb226)); replace HB := ak (below_step (bl HB) hb); clear hb hbox hg) | ((with_reducible refine gate_dst (N := 2) rfl ?_); refine box_event ?hg (N := 2) ?hd (cs := #[.int .i64 0, .slice none 0 0]) (t := 25) ?hr ?_; (case hd => rfl); (case hg => rfl); (case hr => (go_simp; done)); intro gb227 hg w4 hbox hb; have BK227 := ak (hbox); have GW227 := ak ((by rw [hg]; exact (below_size (bl1 HB GE226)) : w.heap.size ≤ gb227)); have GE227 := ak ((by rw [hg]; exact (below_size (bl1 HB GE226)) : w.heap.size ≤ gb227)); replace HB := ak (below_step (bl1 HB GE226) hb); have NB226_227 := ak ((by rw [hg]; exact Nat.ne_of_lt (blk_lt (bk BK226)) : gb226 ≠ gb227)); have NB227_226 := ak ((by rw [hg]; exact Nat.ne_of_gt (blk_lt (bk BK226)) : gb227 ≠ gb226)); replace BK226 := ak (blk_below (bk BK226) hb); clear hb hbox hg))
 replace BK226 := ak (blk_drew BK226.out)
 replace BK227 := ak (blk_drew BK227.out)
 replace HB := ak (below_drew1 HB.out)
 refine start_ (n := 9) (S := fun w' => w'.cell? ⟨gb226, 0, none⟩ = some (.int .i64 a0_0) ∧ w'.cell? ⟨gb226, 1, none⟩ = some (.slice A0_1 l0_1.length c0_1)) (ds := []) (ms 9 0) (by kernel_rfl) rfl (by kernel_rfl) ⟨(blk_cell BK226.out 0).trans rfl, (blk_cell BK226.out 1).trans rfl⟩ (fun hHeld => ?_); refine with_tabW impl_Net_back.tab1 impl_Net_back.bits1 (fun HT_ HW_ => ?_)
 generalize w4.drew = w5 at BK226 BK227 HB hHeld ⊢
 refine pu 0 6 ?_ (ms 9 1) rfl rfl HT_ (by kernel_rfl) (fun _ _ _ h => h) (by rfl) ?_ ?_ ?_ ?_
 rotate_left
 ·intro w'
  go_simp
  with_reducible rfl
 rotate_left
 ·simp only [SX]
  rfl
 refine pu 2 8 ?_ (ms 9 5) rfl rfl HT_ (by kernel_rfl) (fun _ _ _ h => h) (by rfl) ?_ ?_ ?_ ?_
 rotate_left
 ·intro w'
  go_simp
  with_reducible rfl
 rotate_left
 ·simp only [SX]
  rfl
 refine tk 1 7 ?_ (ms 9 7) rfl rfl HT_ HW_ (by kernel_rfl) (fun _ _ _ h => h) (by rfl) ?_ hHeld ?_ ?_ ?_
 rotate_left
 ·rintro w' ⟨s0, s1⟩
  go_simp
  with_reducible rfl
 rotate_left
 ·simp only [SX]
  rfl
 refine tk 3 9 ?_ (ms 9 15) rfl rfl HT_ HW_ (by kernel_rfl) (fun _ _ _ h => h) (by rfl) ?_ hHeld ?_ ?_ ?_
 rotate_left
 ·rintro w' ⟨s0, s1⟩
  go_simp
  with_reducible rfl
 rotate_left
 ·simp only [SX]
  rfl
 refine pu 4 10 ?_ (ms 9 31) rfl rfl HT_ (by kernel_rfl) (fun _ _ _ h => h) (by rfl) ?_ ?_ ?_ ?_
 rotate_left
 ·intro w'
  go_simp
  with_reducible rfl
 rotate_left
 ·simp only [SX]
  rfl
 refine join_ (σ := Value × Nat) 1 (ms 9 255) (fun s_ => [(11, s_.1), (3, .pointer (some ⟨s_.2, 0, none⟩)), (12, .agg #[.int .i64 a0_0, s_.1])]) (fun s_ w' => (w'.cell? ⟨gb226, 0, none⟩ = some (.int .i64 a0_0) ∧ w'.cell? ⟨gb226, 1, none⟩ = some (.slice A0_1 l0_1.length c0_1)) ∧ (Kd.R k41 41 w' w.heap.size (fun _ => True) s_.1 y228) ∧ (w'.heap[gb226]? = some (.cells #[.int .i64 a0_0, .slice A0_1 l0_1.length c0_1] 25 (0, 0))) ∧ (w'.heap[gb227]? = some (.cells #[.int .i64 0, .slice none 0 0] 25 (0, 0))) ∧ (w'.heap[s_.2]? = some (.cells #[.int .i64 0, .slice none 0 0] 25 (0, 0))) ∧ (w.heap.size ≤ s_.2) ∧ (w.heap.size ≤ s_.2) ∧ (gb226 ≠ s_.2) ∧ (s_.2 ≠ gb226) ∧ (gb227 ≠ s_.2) ∧ (s_.2 ≠ gb227) ∧ (Below w.heap.size w w')) ?_ ?_
 rotate_left
 ·intro hCont
  refine two_ (i := 5) (j := 7) (Ni := some 11) (Nj := some 3) (ms 9 63) (ms 9 159) rfl rfl rfl rfl (two_of HT_.out (by kernel_rfl)) (by decide) (by decide) (fun K hK => ?_) (fun K hK => ?_)
  ·skip
   refine Kd.R_make0_step k41 _ 41 (by rfl) (N := 11) rfl 23 _ _ rfl (l0_1.length : Int) rfl rfl Try.underlying23 (.agg #[(.int .i64 0), (.int .i64 0), (.int .i64 0), (.int .i64 0), (.int .i64 0)]) 40 info41 (by decide) (ok := fun _ => True) trivial (by omega) (Nat.le_trans (Nat.mul_le_mul_right _ (oT (by (with_reducible assumption)) : (l0_1.length : Int).toNat ≤ 7036874417766)) (by omega)) (Below.refl _ _) (Nat.le_refl _) ?_
   intro v229 w6 ho7 hb hg_ hnew_
   clear hg_ hnew_
   (rw [← Ny228.out] at ho7)
   have HO230 := ak (Kd.R_lower ho7 (below_size (bl2 HB GE226 GE227)))
   replace BK226 := ak (blk_below (bk BK226) hb)
   replace BK227 := ak (blk_below (bk BK227) hb)
   replace HB := ak (below_step (bl2 HB GE226 GE227) hb)
   clear hb ho7
   obtain ⟨Ao8, co8, eo8⟩ := Kd.R_slice HO230.out
   (subst eo8)
   refine hK.out _ _ ⟨(blk_cell BK226.out 0).trans rfl, (blk_cell BK226.out 1).trans rfl⟩ (fun hHeld => ?_)
   clear hK K
   refine norm_ (a' := ?_) ?_ ?_
   rotate_left
   ·show Act.put _ (some 11) _ = _
    simp only [SX]
    rfl
   refine pu 6 12 ?_ (ms 9 127) rfl rfl HT_ (by kernel_rfl) (fun _ _ _ h => h) (by rfl) ?_ ?_ ?_ ?_
   rotate_left
   ·intro w'
    go_simp
    with_reducible rfl
   rotate_left
   ·simp only [SX]
    rfl
   refine one_ (i := 7) (N := some 3) (ms 9 255) rfl rfl (one_of HT_.out (by kernel_rfl)) (by decide) (fun K hK => ?_)
   refine box_step ?hg (N := 3) ?hd (cs := #[.int .i64 0, .slice none 0 0]) (t := 25) ?hr ?_; (case hd => rfl); (case hg => rfl); (case hr => (go_simp; done))
   intro gb231 hg w9 hbox hb
   replace HO230 := ak (Kd.R_below (rk HO230) hb)
   have BK231 := ak (hbox)
   have GW231 := ak ((by rw [hg]; exact (below_size (bl2 HB GE226 GE227)) : w.heap.size ≤ gb231))
   have GE231 := ak ((by rw [hg]; exact (below_size (bl2 HB GE226 GE227)) : w.heap.size ≤ gb231))
   replace HB := ak (below_step (bl2 HB GE226 GE227) hb)
   have NB226_231 := ak ((by rw [hg]; exact Nat.ne_of_lt (blk_lt (bk BK226)) : gb226 ≠ gb231))
   have NB231_226 := ak ((by rw [hg]; exact Nat.ne_of_gt (blk_lt (bk BK226)) : gb231 ≠ gb226))
   replace BK226 := ak (blk_below (bk BK226) hb)
   have NB227_231 := ak ((by rw [hg]; exact Nat.ne_of_lt (blk_lt (bk BK227)) : gb227 ≠ gb231))
   have NB231_227 := ak ((by rw [hg]; exact Nat.ne_of_gt (blk_lt (bk BK227)) : gb231 ≠ gb227))
   replace BK227 := ak (blk_below (bk BK227) hb)
   clear hb hbox hg
   refine hK.out _ _ ⟨(blk_cell BK226.out 0).trans rfl, (blk_cell BK226.out 1).trans rfl⟩ (fun hHeld => ?_)
   clear hK K
   refine norm_ (a' := ?_) ?_ ?_
   rotate_left
   ·show Act.put _ (some 3) _ = _
    simp only [SX]
    rfl
   exact norm_ (by simp only [putAll, Act.put, List.setIfInBounds_toArray, List.set_cons_zero, List.set_cons_succ]) (hCont (.slice Ao8 y228.length co8, gb231) _ ⟨hHeld, (rk HO230), (bk BK226), (bk BK227), (bk BK231), GW231.out, GE231.out, NB226_231.out, NB231_226.out, NB227_231.out, NB231_227.out, (bl3 HB GE226 GE227 GE231)⟩)
  skip
  refine box_step ?hg (N := 3) ?hd (cs := #[.int .i64 0, .slice none 0 0]) (t := 25) ?hr ?_; (case hd => rfl); (case hg => rfl); (case hr => (go_simp; done))
  intro gb231 hg w6 hbox hb
  have BK231 := ak (hbox)
  have GW231 := ak ((by rw [hg]; exact (below_size (bl2 HB GE226 GE227)) : w.heap.size ≤ gb231))
  have GE231 := ak ((by rw [hg]; exact (below_size (bl2 HB GE226 GE227)) : w.heap.size ≤ gb231))
  replace HB := ak (below_step (bl2 HB GE226 GE227) hb)
  have NB226_231 := ak ((by rw [hg]; exact Nat.ne_of_lt (blk_lt (bk BK226)) : gb226 ≠ gb231))
  have NB231_226 := ak ((by rw [hg]; exact Nat.ne_of_gt (blk_lt (bk BK226)) : gb231 ≠ gb226))
  replace BK226 := ak (blk_below (bk BK226) hb)
  have NB227_231 := ak ((by rw [hg]; exact Nat.ne_of_lt (blk_lt (bk BK227)) : gb227 ≠ gb231))
  have NB231_227 := ak ((by rw [hg]; exact Nat.ne_of_gt (blk_lt (bk BK227)) : gb231 ≠ gb227))
  replace BK227 := ak (blk_below (bk BK227) hb)
  clear hb hbox hg
  refine hK.out _ _ ⟨(blk_cell BK226.out 0).trans rfl, (blk_cell BK226.out 1).trans rfl⟩ (fun hHeld => ?_)
  clear hK K
  refine norm_ (a' := ?_) ?_ ?_
  rotate_left
  ·show Act.put _ (some 3) _ = _
   simp only [SX]
   rfl
  refine one_ (i := 5) (N := some 11) (ms 9 191) rfl rfl (one_of HT_.out (by kernel_rfl)) (by decide) (fun K hK => ?_)
  refine Kd.R_make0_step k41 _ 41 (by rfl) (N := 11) rfl 23 _ _ rfl (l0_1.length : Int) rfl rfl Try.underlying23 (.agg #[(.int .i64 0), (.int .i64 0), (.int .i64 0), (.int .i64 0), (.int .i64 0)]) 40 info41 (by decide) (ok := fun _ => True) trivial (by omega) (Nat.le_trans (Nat.mul_le_mul_right _ (oT (by (with_reducible assumption)) : (l0_1.length : Int).toNat ≤ 7036874417766)) (by omega)) (Below.refl _ _) (Nat.le_refl _) ?_
  intro v229 w7 ho8 hb hg_ hnew_
  clear hg_ hnew_
  (rw [← Ny228.out] at ho8)
  have HO230 := ak (Kd.R_lower ho8 (below_size (bl3 HB GE226 GE227 GE231)))
  replace BK226 := ak (blk_below (bk BK226) hb)
  replace BK227 := ak (blk_below (bk BK227) hb)
  replace BK231 := ak (blk_below (bk BK231) hb)
  replace HB := ak (below_step (bl3 HB GE226 GE227 GE231) hb)
  clear hb ho8
  obtain ⟨Ao9, co9, eo9⟩ := Kd.R_slice HO230.out
  (subst eo9)
  refine hK.out _ _ ⟨(blk_cell BK226.out 0).trans rfl, (blk_cell BK226.out 1).trans rfl⟩ (fun hHeld => ?_)
  clear hK K
  refine norm_ (a' := ?_) ?_ ?_
  rotate_left
  ·show Act.put _ (some 11) _ = _
   simp only [SX]
   rfl
  refine pu 6 12 ?_ (ms 9 255) rfl rfl HT_ (by kernel_rfl) (fun _ _ _ h => h) (by rfl) ?_ ?_ ?_ ?_
  rotate_left
  ·intro w'
   go_simp
   with_reducible rfl
  rotate_left
  ·simp only [SX]
   rfl
  exact norm_ (by simp only [putAll, Act.put, List.setIfInBounds_toArray, List.set_cons_zero, List.set_cons_succ]) (hCont (.slice Ao9 y228.length co9, gb231) _ ⟨hHeld, (rk HO230), (bk BK226), (bk BK227), (bk BK231), GW231.out, GE231.out, NB226_231.out, NB231_226.out, NB227_231.out, NB231_227.out, (bl3 HB GE226 GE227 GE231)⟩)
 rintro ⟨v229, gb231⟩ w10 ⟨hS_, h0_, h1_, h2_, h3_, h4_, h5_, h6_, h7_, h8_, h9_, h10_⟩
 have HO230 : Aside0 (Kd.R k41 41 w10 w.heap.size (fun _ => True) v229 y228) := ⟨h0_⟩
 replace BK226 : Aside0 (w10.heap[gb226]? = some (.cells #[.int .i64 a0_0, .slice A0_1 l0_1.length c0_1] 25 (0, 0))) := ⟨h1_⟩
 replace BK227 : Aside0 (w10.heap[gb227]? = some (.cells #[.int .i64 0, .slice none 0 0] 25 (0, 0))) := ⟨h2_⟩
 have BK231 : Aside0 (w10.heap[gb231]? = some (.cells #[.int .i64 0, .slice none 0 0] 25 (0, 0))) := ⟨h3_⟩
 have GW231 : Aside0 (w.heap.size ≤ gb231) := ⟨h4_⟩
 have GE231 : Aside0 (w.heap.size ≤ gb231) := ⟨h5_⟩
 have NB226_231 : Aside0 (gb226 ≠ gb231) := ⟨h6_⟩
 have NB231_226 : Aside0 (gb231 ≠ gb226) := ⟨h7_⟩
 have NB227_231 : Aside0 (gb227 ≠ gb231) := ⟨h8_⟩
 have NB231_227 : Aside0 (gb231 ≠ gb227) := ⟨h9_⟩
 replace HB : Aside0 (Below w.heap.size w w10) := ⟨h10_⟩
 clear h0_ h1_ h2_ h3_ h4_ h5_ h6_ h7_ h8_ h9_ h10_
 have hHeld : w10.cell? ⟨gb226, 0, none⟩ = some (.int .i64 a0_0) ∧ w10.cell? ⟨gb226, 1, none⟩ = some (.slice A0_1 l0_1.length c0_1) := hS_
 obtain ⟨Ao11, co11, eo11⟩ := Kd.R_slice HO230.out
 (subst eo11)
 refine norm_ (a' := ?_) ?_ ?_
 rotate_left
 ·simp only [putAll, Act.put, List.setIfInBounds_toArray, List.set_cons_zero, List.set_cons_succ]
  rfl
 refine one_ (i := 8) (N := none) (ms 9 511) rfl rfl (one_of HT_.out (by kernel_rfl)) (by decide) (fun K hK => ?_)
 have hs12 : w10.cell? ⟨gb231, 0, none⟩ = some (.int .i64 0) := (blk_cell BK231.out 0).trans rfl
 have hfs12 := blk_frozen BK231.out 0
 have hns12_0 := NB226_231.out
 have hns12_1 := NB227_231.out
 have hms12_0 := NB231_226.out
 have hms12_1 := NB231_227.out
 have hs13 : w10.cell? ⟨gb231, 1, none⟩ = some (.slice none 0 0) := (blk_cell BK231.out 1).trans rfl
 have hfs13 := blk_frozen BK231.out 1
 have hns13_0 := NB226_231.out
 have hns13_1 := NB227_231.out
 have hms13_0 := NB231_226.out
 have hms13_1 := NB231_227.out
 refine skip_ (w1 := ?_) (by rfl) rfl ?_ ?_
 rotate_left
 ·go_simp
  rfl
 refine hK.out _ _ ⟨((cell_far (p := ⟨gb231, _, none⟩) NB226_231.out _).trans (((cell_far (p := ⟨gb231, _, none⟩) NB226_231.out _).trans (hHeld.1)))), ((cell_far (p := ⟨gb231, _, none⟩) NB226_231.out _).trans (((cell_far (p := ⟨gb231, _, none⟩) NB226_231.out _).trans (hHeld.2))))⟩ (fun hHeld => ?_)
 clear hK K
 refine done_ (done_of HT_.out (by kernel_rfl)) ?_
 have hnb14 := NB226_227.out
 have hnc14 := NB227_226.out
 have hnb15 := NB226_231.out
 have hnc15 := NB231_226.out
 have hcz16_0 := bc w10 BK226 0 (.int .i64 a0_0) rfl
 have hcz16_1 := bc w10 BK226 1 (.slice A0_1 l0_1.length c0_1) rfl
 have hfz16_0 := fz BK226 0
 have hfz16_1 := fz BK226 1
 try go_wp2
 go_loopg [16] k (fun kq v16 w' => ∃ (x16_1 : Int) (x232001_1 : List (S41)) (u232001 : Value), v16 = .int .i64 x16_1 ∧ Aside0 (impl_Net_back.l0 kq l0_1 (l0_1.length : Int) x16_1 a0_0 x232001_1 = some (r1, r2)) ∧ Aside0 (kq ≤ k) ∧ Aside0 (Kd.R k41 41 w' w.heap.size (fun _ => True) u232001 x232001_1) ∧ Aside0 (w'.heap[gb226]? = some (.cells #[.int .i64 a0_0, (.slice A0_1 l0_1.length c0_1)] 25 (0, 0))) ∧ Aside0 (w'.heap[gb227]? = some (.cells #[.int .i64 0, (.slice none 0 0)] 25 (0, 0))) ∧ Aside0 (w'.heap[gb231]? = some (.cells #[.int .i64 a0_0, u232001] 25 (0, 0))) ∧ Aside0 (Below w.heap.size w w'))
 case atStart => exact ⟨(0), (y228), (.slice Ao11 y228.length co11), (by rfl), H', ⟨Nat.le_refl _⟩, ⟨by exact Kd.R_mono (Kd.R_far (p := ⟨gb231, 1, none⟩) (Kd.R_far (p := ⟨gb231, 0, none⟩) (Kd.R_types HO230.out BK231.out (by decide)) (fun _ hk => hk.2) (.int .i64 a0_0)) (fun _ hk => hk.2) (.slice Ao11 y228.length co11)) (fun _ hk => trivial)⟩, ⟨by refine blk_far ?_ NB226_231.out _; refine blk_far ?_ NB226_231.out _; exact BK226.out⟩, ⟨by refine blk_far ?_ NB227_231.out _; refine blk_far ?_ NB227_231.out _; exact BK227.out⟩, ⟨by refine blk_put (cs := #[.int .i64 a0_0, .slice none 0 0]) ?_ 1 _ rfl; refine blk_put (cs := #[.int .i64 0, .slice none 0 0]) ?_ 0 _ rfl; exact BK231.out⟩, ⟨bl3 HB GE226 GE227 GE231⟩⟩
 clear H'
 try clear c1
 try clear c2
 try clear c2b0
 try clear c2b1
 try clear p2
 try clear c10
 try clear c14
 try clear c15
 try clear hcz16_0
 try clear hcz16_1
 try clear hfz16_0
 try clear hfz16_1
 obtain ⟨x16_1, x232001_1, u232001, rfl, HA, HK1, HO_232001, BK226, BK227, BK231, HB⟩ := hrel
 cases gk with
 | zero => exact absurd HA.out (by simp [impl_Net_back.l0])
 | succ k1 =>
  have H := HA.out
  clear HA
  simp only [impl_Net_back.l0] at H
  by_cases c17 : x16_1 < (l0_1.length : Int)
  rotate_left
  ·rw [if_neg c17] at H
   have c17b0 : decide (x16_1 < (l0_1.length : Int)) = false := decide_eq_false c17
   clear c17
   simp only [Option.some.injEq, Prod.mk.injEq] at H
   obtain ⟨rfl, rfl⟩ := H
   have hnb32 := NB231_226.out
   have hnc32 := NB226_231.out
   have hnb33 := NB231_227.out
   have hnc33 := NB227_231.out
   have hcz34_0 := bc wr BK231 0 (.int .i64 a0_0) rfl
   have hcz34_1 := bc wr BK231 1 (u232001) rfl
   have hfz34_0 := fz BK231 0
   have hfz34_1 := fz BK231 1
   have hnb35 := NB227_226.out
   have hnc35 := NB226_227.out
   have hcz36_0 := bc wr BK227 0 (.int .i64 0) rfl
   have hcz36_1 := bc wr BK227 1 (.slice none 0 0) rfl
   have hfz36_0 := fz BK227 0
   have hfz36_1 := fz BK227 1
   obtain ⟨Ao37, co37, eo37⟩ := Kd.R_slice HO_232001.out
   subst eo37
   go_wp2
   refine bodyPost_ret (results_cell_row rfl _ _ gb227 25 #[.int .i64 a0_0, .slice Ao37 x232001_1.length co37] (0, 0) _ rfl (by refine blk_put (cs := #[.int .i64 a0_0, .slice none 0 0]) ?_ 1 _ rfl; refine blk_put (cs := #[.int .i64 0, .slice none 0 0]) ?_ 0 _ rfl; exact BK227.out) Try.underlying25 rfl (by kernel_rfl)) rfl ?_
   exact ⟨_, by rfl, by exact Kd.R_mono (Kd.R_far (p := ⟨gb227, 1, none⟩) (Kd.R_far (p := ⟨gb227, 0, none⟩) (Kd.R_types HO_232001.out BK227.out (by decide)) (fun _ hk => hk.2) (.int .i64 a0_0)) (fun _ hk => hk.2) (.slice Ao37 x232001_1.length co37)) (fun _ hk => trivial), bl3 HB GE226 GE227 GE231⟩
  rw [if_pos c17] at H
  have c17b0 : decide (x16_1 < (l0_1.length : Int)) = true := decide_eq_true c17
  clear c17
  by_cases c18 : 0 ≤ x16_1
  rotate_left
  ·rw [if_neg c18] at H
   exact absurd H (by simp)
  rw [if_pos c18] at H
  have c18b0 : decide (0 ≤ x16_1) = true := decide_eq_true c18
  clear c18
  by_cases c19 : x16_1 < (l0_1.length : Int)
  rotate_left
  ·rw [if_neg c19] at H
   exact absurd H (by simp)
  rw [if_pos c19] at H
  have c19b0 : decide (x16_1 < (l0_1.length : Int)) = true := decide_eq_true c19
  clear c19
  by_cases c20 : x232001_1.length < 3518437208883
  rotate_left
  ·rw [if_neg c20] at H
   exact absurd H (by simp)
  rw [if_pos c20] at H
  have LMc20 := ak c20
  clear c20
  obtain ⟨y234, hy234⟩ : ∃ y_ : List (S41), y_ = (x232001_1 ++ [(⟨(rd_T41 l0_1 x16_1).f1, (rd_T41 l0_1 x16_1).f0, (rd_T41 l0_1 x16_1).f2, (rd_T41 l0_1 x16_1).f3, (rd_T41 l0_1 x16_1).f4⟩ : S41)]) := ⟨_, rfl⟩
  replace H : (impl_Net_back.l0 k1 l0_1 (l0_1.length : Int) (wrap64 (x16_1 + 1)) a0_0 y234) = some (r1, r2) := by (rw [hy234]; with_reducible exact H)
  have Ny234 := ak hy234
  clear hy234
  have H' := ak H
  clear H
  have p232 : 0 ≤ (x16_1 : Int) := oT (by (with_reducible assumption))
  have q232 : x16_1 < (l0_1.length : Int) := oT (by (with_reducible assumption))
  obtain ⟨ad232, e232, hx232_0, hx232_1, hx232_2, hx232_3, hx232_4⟩ := at_T41 HR0_1.out x16_1 p232 q232
  cases e232
  replace hx232_0 := hcb HB.out hx232_0
  replace hx232_1 := hcb HB.out hx232_1
  replace hx232_2 := hcb HB.out hx232_2
  replace hx232_3 := hcb HB.out hx232_3
  replace hx232_4 := hcb HB.out hx232_4
  replace p232 := eq_true p232
  replace q232 := eq_true q232
  go_wp2_with (first | ((with_reducible refine gate_dst (N := 5) rfl ?_); refine box_event ?hg (N := 5) ?hd (cs := #[.int .i64 0, .int .i64 0, .int .i64 0, .int .i64 0, .int .i64 0]) (t := 41) ?hr ?_; (case hd => rfl); (case hg => rfl); (case hr => (go_simp; done)); intro gb233 hg w21 hbox hb; replace HO_232001 := ak (Kd.R_below (Kd.R_elderB (rk HO_232001) gb233 (Nat.le_of_eq hg.symm)) hb); have BK233 := ak (hbox); have GW233 := ak ((by rw [hg]; exact (below_size (bl3 HB GE226 GE227 GE231)) : w.heap.size ≤ gb233)); have GE233 := ak ((by rw [hg]; exact (below_size (bl3 HB GE226 GE227 GE231)) : w.heap.size ≤ gb233)); replace HB := ak (below_step (bl3 HB GE226 GE227 GE231) hb); have NB226_233 := ak ((by rw [hg]; exact Nat.ne_of_lt (blk_lt (bk BK226)) : gb226 ≠ gb233)); have NB233_226 := ak ((by rw [hg]; exact Nat.ne_of_gt (blk_lt (bk BK226)) : gb233 ≠ gb226)); replace BK226 := ak (blk_below (bk BK226) hb); have NB227_233 := ak ((by rw [hg]; exact Nat.ne_of_lt (blk_lt (bk BK227)) : gb227 ≠ gb233)); have NB233_227 := ak ((by rw [hg]; exact Nat.ne_of_gt (blk_lt (bk BK227)) : gb233 ≠ gb227)); replace BK227 := ak (blk_below (bk BK227) hb); have NB231_233 := ak ((by rw [hg]; exact Nat.ne_of_lt (blk_lt (bk BK231)) : gb231 ≠ gb233)); have NB233_231 := ak ((by rw [hg]; exact Nat.ne_of_gt (blk_lt (bk BK231)) : gb233 ≠ gb231)); replace BK231 := ak (blk_below (bk BK231) hb); clear hb hbox hg; have hnb22 := NB233_226.out; have hnc22 := NB226_233.out; have hnb23 := NB233_227.out; have hnc23 := NB227_233.out; have hnb24 := NB233_231.out; have hnc24 := NB231_233.out; have hcz25_0 := bc w21 BK233 0 (.int .i64 0) rfl; have hcz25_1 := bc w21 BK233 1 (.int .i64 0) rfl; have hcz25_2 := bc w21 BK233 2 (.int .i64 0) rfl; have hcz25_3 := bc w21 BK233 3 (.int .i64 0) rfl; have hcz25_4 := bc w21 BK233 4 (.int .i64 0) rfl; have hfz25_0 := fz BK233 0; have hfz25_1 := fz BK233 1; have hfz25_2 := fz BK233 2; have hfz25_3 := fz BK233 3; have hfz25_4 := fz BK233 4; have hnb26 := NB231_226.out; have hnc26 := NB226_231.out; have hnb27 := NB231_227.out; have hnc27 := NB227_231.out; have hcz28_0 := bc w21 BK231 0 (.int .i64 a0_0) rfl; have hcz28_1 := bc w21 BK231 1 (u232001) rfl; have hfz28_0 := fz BK231 0; have hfz28_1 := fz BK231 1) | ((with_reducible refine gate_dst (N := 28) rfl ?_); (fail_if_success clear hW_); refine impl_Net_back.fix_world (g := gb233) (o := .cells #[.int .i64 ((rd_T41 l0_1 x16_1).f1), .int .i64 ((rd_T41 l0_1 x16_1).f0), .int .i64 ((rd_T41 l0_1 x16_1).f2), .int .i64 ((rd_T41 l0_1 x16_1).f3), .int .i64 ((rd_T41 l0_1 x16_1).f4)] 41 (0, 0)) (by refine blk_put (cs := #[.int .i64 ((rd_T41 l0_1 x16_1).f1), .int .i64 ((rd_T41 l0_1 x16_1).f1), .int .i64 ((rd_T41 l0_1 x16_1).f2), .int .i64 ((rd_T41 l0_1 x16_1).f3), .int .i64 ((rd_T41 l0_1 x16_1).f4)]) ?_ 1 _ rfl; refine blk_put (cs := #[.int .i64 ((rd_T41 l0_1 x16_1).f0), .int .i64 ((rd_T41 l0_1 x16_1).f1), .int .i64 ((rd_T41 l0_1 x16_1).f2), .int .i64 ((rd_T41 l0_1 x16_1).f3), .int .i64 ((rd_T41 l0_1 x16_1).f4)]) ?_ 0 _ rfl; refine blk_put (cs := #[.int .i64 ((rd_T41 l0_1 x16_1).f0), .int .i64 ((rd_T41 l0_1 x16_1).f1), .int .i64 ((rd_T41 l0_1 x16_1).f2), .int .i64 ((rd_T41 l0_1 x16_1).f3), .int .i64 0]) ?_ 4 _ rfl; refine blk_put (cs := #[.int .i64 ((rd_T41 l0_1 x16_1).f0), .int .i64 ((rd_T41 l0_1 x16_1).f1), .int .i64 ((rd_T41 l0_1 x16_1).f2), .int .i64 0, .int .i64 0]) ?_ 3 _ rfl; refine blk_put (cs := #[.int .i64 ((rd_T41 l0_1 x16_1).f0), .int .i64 ((rd_T41 l0_1 x16_1).f1), .int .i64 0, .int .i64 0, .int .i64 0]) ?_ 2 _ rfl; refine blk_put (cs := #[.int .i64 ((rd_T41 l0_1 x16_1).f0), .int .i64 0, .int .i64 0, .int .i64 0, .int .i64 0]) ?_ 1 _ rfl; refine blk_put (cs := #[.int .i64 0, .int .i64 0, .int .i64 0, .int .i64 0, .int .i64 0]) ?_ 0 _ rfl; exact BK233.out) ?_; intro W_ hW_ hBW_; have hcw_0 : W_.cell? ⟨gb233, 0, none⟩ = some (.int .i64 ((rd_T41 l0_1 x16_1).f1)) := (blk_cell hBW_ 0).trans rfl; have hcw_1 : W_.cell? ⟨gb233, 1, none⟩ = some (.int .i64 ((rd_T41 l0_1 x16_1).f0)) := (blk_cell hBW_ 1).trans rfl; have hcw_2 : W_.cell? ⟨gb233, 2, none⟩ = some (.int .i64 ((rd_T41 l0_1 x16_1).f2)) := (blk_cell hBW_ 2).trans rfl; have hcw_3 : W_.cell? ⟨gb233, 3, none⟩ = some (.int .i64 ((rd_T41 l0_1 x16_1).f3)) := (blk_cell hBW_ 3).trans rfl; have hcw_4 : W_.cell? ⟨gb233, 4, none⟩ = some (.int .i64 ((rd_T41 l0_1 x16_1).f4)) := (blk_cell hBW_ 4).trans rfl) | ((with_reducible refine gate_dst (N := 29) rfl ?_); clear hBW_ hcw_0 hcw_1 hcw_2 hcw_3 hcw_4; subst hW_) | ((with_reducible refine gate_builtin (b := .append) (xs := #[.tmp 27, .tmp 29]) rfl ?_); at_builtin; refine Kd.R_append k41 (w0 := w) w.heap.size rfl (.tmp 27) (.tmp 29) 23 41 (.agg #[(.int .i64 0), (.int .i64 0), (.int .i64 0), (.int .i64 0), (.int .i64 0)]) 40 rfl Try.underlying23 info41 rfl (by decide) (by omega) u232001 x232001_1 (⟨(rd_T41 l0_1 x16_1).f1, (rd_T41 l0_1 x16_1).f0, (rd_T41 l0_1 x16_1).f2, (rd_T41 l0_1 x16_1).f3, (rd_T41 l0_1 x16_1).f4⟩ : S41) [.int .i64 ((rd_T41 l0_1 x16_1).f1), .int .i64 ((rd_T41 l0_1 x16_1).f0), .int .i64 ((rd_T41 l0_1 x16_1).f2), .int .i64 ((rd_T41 l0_1 x16_1).f3), .int .i64 ((rd_T41 l0_1 x16_1).f4)] (fun k_ => k_ ≠ gb233) (fun _ => False) rfl (by (go_simp; done)) ?aP (fun _ hk => hk.elim) ?aF ?aO ?aB ?aS ?aL ?_; (case aP => exact k41_mkM _ _ _ (⟨(rd_T41 l0_1 x16_1).f1, (rd_T41 l0_1 x16_1).f0, (rd_T41 l0_1 x16_1).f2, (rd_T41 l0_1 x16_1).f3, (rd_T41 l0_1 x16_1).f4⟩ : S41)); (case aB => exact (bl4 HB GE226 GE227 GE231 GE233)); (case aF => exact (fun k_ hk => Kd.freshB (g := gb233) (o := .cells #[.int .i64 ((rd_T41 l0_1 x16_1).f1), .int .i64 ((rd_T41 l0_1 x16_1).f0), .int .i64 ((rd_T41 l0_1 x16_1).f2), .int .i64 ((rd_T41 l0_1 x16_1).f3), .int .i64 ((rd_T41 l0_1 x16_1).f4)] 41 (0, 0)) (by refine blk_put (cs := #[.int .i64 ((rd_T41 l0_1 x16_1).f1), .int .i64 ((rd_T41 l0_1 x16_1).f1), .int .i64 ((rd_T41 l0_1 x16_1).f2), .int .i64 ((rd_T41 l0_1 x16_1).f3), .int .i64 ((rd_T41 l0_1 x16_1).f4)]) ?_ 1 _ rfl; refine blk_put (cs := #[.int .i64 ((rd_T41 l0_1 x16_1).f0), .int .i64 ((rd_T41 l0_1 x16_1).f1), .int .i64 ((rd_T41 l0_1 x16_1).f2), .int .i64 ((rd_T41 l0_1 x16_1).f3), .int .i64 ((rd_T41 l0_1 x16_1).f4)]) ?_ 0 _ rfl; refine blk_put (cs := #[.int .i64 ((rd_T41 l0_1 x16_1).f0), .int .i64 ((rd_T41 l0_1 x16_1).f1), .int .i64 ((rd_T41 l0_1 x16_1).f2), .int .i64 ((rd_T41 l0_1 x16_1).f3), .int .i64 0]) ?_ 4 _ rfl; refine blk_put (cs := #[.int .i64 ((rd_T41 l0_1 x16_1).f0), .int .i64 ((rd_T41 l0_1 x16_1).f1), .int .i64 ((rd_T41 l0_1 x16_1).f2), .int .i64 0, .int .i64 0]) ?_ 3 _ rfl; refine blk_put (cs := #[.int .i64 ((rd_T41 l0_1 x16_1).f0), .int .i64 ((rd_T41 l0_1 x16_1).f1), .int .i64 0, .int .i64 0, .int .i64 0]) ?_ 2 _ rfl; refine blk_put (cs := #[.int .i64 ((rd_T41 l0_1 x16_1).f0), .int .i64 0, .int .i64 0, .int .i64 0, .int .i64 0]) ?_ 1 _ rfl; refine blk_put (cs := #[.int .i64 0, .int .i64 0, .int .i64 0, .int .i64 0, .int .i64 0]) ?_ 0 _ rfl; exact BK233.out) k_ hk)); (case aO => exact (by exact Kd.R_mono (Kd.R_far (p := ⟨gb233, 1, none⟩) (Kd.R_far (p := ⟨gb233, 0, none⟩) (Kd.R_far (p := ⟨gb233, 4, none⟩) (Kd.R_far (p := ⟨gb233, 3, none⟩) (Kd.R_far (p := ⟨gb233, 2, none⟩) (Kd.R_far (p := ⟨gb233, 1, none⟩) (Kd.R_far (p := ⟨gb233, 0, none⟩) (Kd.R_mono HO_232001.out (fun k_ hk => (⟨hk, hk.2⟩ : _ ∧ k_ ≠ gb233))) (fun _ hk => hk.2) (.int .i64 ((rd_T41 l0_1 x16_1).f0))) (fun _ hk => hk.2) (.int .i64 ((rd_T41 l0_1 x16_1).f1))) (fun _ hk => hk.2) (.int .i64 ((rd_T41 l0_1 x16_1).f2))) (fun _ hk => hk.2) (.int .i64 ((rd_T41 l0_1 x16_1).f3))) (fun _ hk => hk.2) (.int .i64 ((rd_T41 l0_1 x16_1).f4))) (fun _ hk => hk.2) (.int .i64 ((rd_T41 l0_1 x16_1).f1))) (fun _ hk => hk.2) (.int .i64 ((rd_T41 l0_1 x16_1).f0))) (fun _ hk => hk.1.2))); (case aS => exact (below_size (bl4 HB GE226 GE227 GE231 GE233))); (case aL => have := LMc20.out; omega); intro v235 w29 ho hb hg hat; rw [← Ny234.out] at ho; have n0_ := ak (blk_grown (g := gb226) (o := .cells #[.int .i64 a0_0, .slice (some ad232) l0_1.length c0_1] 25 (0, 0)) (by refine blk_far ?_ NB226_233.out _; refine blk_far ?_ NB226_233.out _; refine blk_far ?_ NB226_233.out _; refine blk_far ?_ NB226_233.out _; refine blk_far ?_ NB226_233.out _; refine blk_far ?_ NB226_233.out _; refine blk_far ?_ NB226_233.out _; exact BK226.out) hg (Kd.R_ne HO_232001.out BK226.out (by decide))); have n1_ := ak (blk_grown (g := gb227) (o := .cells #[.int .i64 0, .slice none 0 0] 25 (0, 0)) (by refine blk_far ?_ NB227_233.out _; refine blk_far ?_ NB227_233.out _; refine blk_far ?_ NB227_233.out _; refine blk_far ?_ NB227_233.out _; refine blk_far ?_ NB227_233.out _; refine blk_far ?_ NB227_233.out _; refine blk_far ?_ NB227_233.out _; exact BK227.out) hg (Kd.R_ne HO_232001.out BK227.out (by decide))); have n2_ := ak (blk_grown (g := gb231) (o := .cells #[.int .i64 a0_0, u232001] 25 (0, 0)) (by refine blk_far ?_ NB231_233.out _; refine blk_far ?_ NB231_233.out _; refine blk_far ?_ NB231_233.out _; refine blk_far ?_ NB231_233.out _; refine blk_far ?_ NB231_233.out _; refine blk_far ?_ NB231_233.out _; refine blk_far ?_ NB231_233.out _; exact BK231.out) hg (Kd.R_ne HO_232001.out BK231.out (by decide))); have n3_ := ak (blk_grown (g := gb233) (o := .cells #[.int .i64 ((rd_T41 l0_1 x16_1).f1), .int .i64 ((rd_T41 l0_1 x16_1).f0), .int .i64 ((rd_T41 l0_1 x16_1).f2), .int .i64 ((rd_T41 l0_1 x16_1).f3), .int .i64 ((rd_T41 l0_1 x16_1).f4)] 41 (0, 0)) (by refine blk_put (cs := #[.int .i64 ((rd_T41 l0_1 x16_1).f1), .int .i64 ((rd_T41 l0_1 x16_1).f1), .int .i64 ((rd_T41 l0_1 x16_1).f2), .int .i64 ((rd_T41 l0_1 x16_1).f3), .int .i64 ((rd_T41 l0_1 x16_1).f4)]) ?_ 1 _ rfl; refine blk_put (cs := #[.int .i64 ((rd_T41 l0_1 x16_1).f0), .int .i64 ((rd_T41 l0_1 x16_1).f1), .int .i64 ((rd_T41 l0_1 x16_1).f2), .int .i64 ((rd_T41 l0_1 x16_1).f3), .int .i64 ((rd_T41 l0_1 x16_1).f4)]) ?_ 0 _ rfl; refine blk_put (cs := #[.int .i64 ((rd_T41 l0_1 x16_1).f0), .int .i64 ((rd_T41 l0_1 x16_1).f1), .int .i64 ((rd_T41 l0_1 x16_1).f2), .int .i64 ((rd_T41 l0_1 x16_1).f3), .int .i64 0]) ?_ 4 _ rfl; refine blk_put (cs := #[.int .i64 ((rd_T41 l0_1 x16_1).f0), .int .i64 ((rd_T41 l0_1 x16_1).f1), .int .i64 ((rd_T41 l0_1 x16_1).f2), .int .i64 0, .int .i64 0]) ?_ 3 _ rfl; refine blk_put (cs := #[.int .i64 ((rd_T41 l0_1 x16_1).f0), .int .i64 ((rd_T41 l0_1 x16_1).f1), .int .i64 0, .int .i64 0, .int .i64 0]) ?_ 2 _ rfl; refine blk_put (cs := #[.int .i64 ((rd_T41 l0_1 x16_1).f0), .int .i64 0, .int .i64 0, .int .i64 0, .int .i64 0]) ?_ 1 _ rfl; refine blk_put (cs := #[.int .i64 0, .int .i64 0, .int .i64 0, .int .i64 0, .int .i64 0]) ?_ 0 _ rfl; exact BK233.out) hg (Kd.R_away HO_232001.out (fun _ hk => hk.2))); have n4_ := ak (hb); have n5_ := ak (ho); clear BK226; clear BK227; clear BK231; clear BK233; clear HB; clear HO_232001; have BK226 := n0_; have BK227 := n1_; have BK231 := n2_; have BK233 := n3_; have HB := n4_; have HO236 := n5_; clear n0_ n1_ n2_ n3_ n4_ n5_; clear ho hb hg hat; obtain ⟨Ao30, co30, eo30⟩ := Kd.R_slice HO236.out; subst eo30; have hcz31_0 := bc w29 BK231 0 (.int .i64 a0_0) rfl; have hcz31_1 := bc w29 BK231 1 (u232001) rfl; have hfz31_0 := fz BK231 0; have hfz31_1 := fz BK231 1))
  go_roundg k1
  case measure => have := HK1.out; omega
  case rel => exact ⟨(wrap64 (x16_1 + 1)), (y234), (.slice Ao30 y234.length co30), (by rfl), H', ⟨by have := HK1.out; omega⟩, ⟨by exact Kd.R_mono (Kd.R_far (p := ⟨gb231, 1, none⟩) (Kd.R_types HO236.out BK231.out (by decide)) (fun _ hk => hk.2) (.slice Ao30 y234.length co30)) (fun _ hk => trivial)⟩, ⟨by refine blk_far ?_ NB226_231.out _; exact BK226.out⟩, ⟨by refine blk_far ?_ NB227_231.out _; exact BK227.out⟩, ⟨by refine blk_put (cs := #[.int .i64 a0_0, u232001]) ?_ 1 _ rfl; exact BK231.out⟩, ⟨bl4 HB GE226 GE227 GE231 GE233⟩⟩

end Go.Proofs.Ytgickejeakmenaa.F
