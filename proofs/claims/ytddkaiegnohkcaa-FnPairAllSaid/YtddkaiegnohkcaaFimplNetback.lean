-- Printed by wip/px/px.py of this claim's repository (the kit's printer, extended there). Lean checks it.
import Derived.Test.YtddkaiegnohkcaaFKinds
namespace Go.Proofs.Ytddkaiegnohkcaa.F
open Go.RowKit Go.Proofs.YtddkaiegnohkcaaW.PrintWords Go.Proofs.YtddkaiegnohkcaaW.PrintLast Go.Proofs.YtddkaiegnohkcaaW.PrintMore
attribute [local go_sem] max2_int min2_int max_two min_two max_three min_three max_four min_four   -- for this text's walks alone
set_option linter.unusedVariables false
set_option linter.unusedSimpArgs false

/-! ### impl_Net_back: function 84 -/
def impl_Net_back.l0 : Nat → List (S33) → Int → Int → Int → List (S33) → Option (Int × (List (S33)))
 | 0, _, _, _, _, _ => none
 | k + 1, x14, x15, x16, x133000, x133001 => if x16 < x15 then (if 0 ≤ x16 then (if x16 < (x14.length : Int) then (if x133001.length < 3518437208883 then (impl_Net_back.l0 k x14 x15 (wrap64 (x16 + 1)) x133000 (x133001 ++ [(⟨(rd_T33 x14 x16).f1, (rd_T33 x14 x16).f0, (rd_T33 x14 x16).f2, (rd_T33 x14 x16).f3, (rd_T33 x14 x16).f4⟩ : S33)])) else (none)) else (none)) else (none)) else (some (x133000, x133001))
def impl_Net_back.f (k : Nat) (a0_0 : Int) (l0_1 : List (S33)) : Option (Int × (List (S33))) := if ((l0_1.length : Int) : Int).toNat ≤ 7036874417766 then (impl_Net_back.l0 k l0_1 (l0_1.length : Int) 0 a0_0 (([] : List (S33)))) else (none)
theorem impl_Net_back.mono_l : ∀ k, (∀ y0 y1 y2 y3 y4, LeO (impl_Net_back.l0 k y0 y1 y2 y3 y4) (impl_Net_back.l0 (k + 1) y0 y1 y2 y3 y4))
 | 0 => fun _ _ _ _ _ r h => by simp [impl_Net_back.l0] at h
 | k + 1 => by
  have ih0 := impl_Net_back.mono_l k
  ·intro y0 y1 y2 y3 y4
   unfold impl_Net_back.l0
   repeat' first | (with_reducible exact ih0 _ _ _ _ _) | (with_reducible exact LeO.refl _) | (with_reducible refine LeO.ite ?_ ?_)
theorem impl_Net_back.mono : ∀ a0 a1 k, LeO (impl_Net_back.f k a0 a1) (impl_Net_back.f (k + 1) a0 a1) := by
 intro a0 a1 k
 have ih0 := impl_Net_back.mono_l k
 unfold impl_Net_back.f
 repeat' first | (with_reducible exact ih0 _ _ _ _ _) | (with_reducible exact LeO.refl _) | (with_reducible refine LeO.ite ?_ ?_)
def impl_Net_back.T1 : Bool × List (List Nat × List Nat) := (true, [([], []), ([0], [0]), ([], []), ([2], [2]), ([3], [3]), ([4], [4]), ([1, 5], [1, 5]), ([], []), ([7, 6, 0, 1, 2, 3, 4, 5, 6, 7], [6, 7])])
def impl_Net_back.B1 : List Nat := [0, 1, 0, 4, 12, 28, 63, 0, 255]
theorem impl_Net_back.tab1 : rtab .any (opsOf Try.f84 1) = impl_Net_back.T1 := by kernel_rfl
theorem impl_Net_back.bits1 : waitsOk impl_Net_back.T1.2 impl_Net_back.B1 = true := by kernel_rfl
theorem impl_Net_back.fix_world {P : Program} {ops : Array Oper} {Q : Exit → Act → World → Prop} {l : List Oper} {a : Act} {W : World} {g : Nat} {o : Obj} (hb : W.heap[g]? = some o) (h : ∀ W', W = W' → W'.heap[g]? = some o → wpList P ops Q l a W') : wpList P ops Q l a W := h W rfl hb
set_option maxHeartbeats 8000000 in
set_option maxRecDepth 100000 in
theorem impl_Net_back.calls (k : Nat) (a0_0 : Int) (A0_1 : Option Addr) (c0_1 : Nat) (l0_1 : List (S33)) (r1 : Int) (r2 : List (S33)) (w : World) (hr0_1 : Kd.C k33 w A0_1 l0_1.length l0_1) (hc0_1 : l0_1.length ≤ c0_1) (h : impl_Net_back.f k a0_0 l0_1 = some (r1, r2)) :
  Calls Try.prog 84 #[.agg #[.int .i64 a0_0, .slice A0_1 l0_1.length c0_1]] w fun e w' => ∃ v1_ : Value, e = .returned (.agg #[.int .i64 r1, v1_]) ∧ Kd.R k33 33 w' w.heap.size (fun _ => True) v1_ r2 ∧ Below w.heap.size w w' := by
 have hu25 := Try.underlying25
 have hu33 := Try.underlying33
 have HR0_1 := ak hr0_1
 have HC0_1 := ak hc0_1
 clear hr0_1 hc0_1
 have HB := ak (Below.refl w.heap.size w)
 have H : (if ((l0_1.length : Int) : Int).toNat ≤ 7036874417766 then (impl_Net_back.l0 k l0_1 (l0_1.length : Int) 0 a0_0 (([] : List (S33)))) else (none)) = some (r1, r2) := h
 clear h
 by_cases c2 : ((l0_1.length : Int) : Int).toNat ≤ 7036874417766
 rotate_left
 ·rw [if_neg c2] at H
  exact absurd H (by simp)
 rw [if_pos c2] at H
 have c2b0 := eq_true c2
 have c2b1 : decide (((l0_1.length : Int) : Int).toNat ≤ 7036874417766) = true := decide_eq_true c2
 clear c2
 obtain ⟨y129, hy129⟩ : ∃ y_ : List (S33), y_ = (([] : List (S33))) := ⟨_, rfl⟩
 replace H : (impl_Net_back.l0 k l0_1 (l0_1.length : Int) 0 a0_0 y129) = some (r1, r2) := by (rw [hy129]; with_reducible exact H)
 have Ny129 := ak hy129
 clear hy129
 have H' := ak H
 clear H
 go_enter Try.func84, Try.ntmps84
 try go_wp2_with (first | ((with_reducible refine gate_dst (N := 1) rfl ?_); refine box_event ?hg (N := 1) ?hd (cs := #[.int .i64 a0_0, .slice A0_1 l0_1.length c0_1]) (t := 25) ?hr ?_; (case hd => rfl); (case hg => rfl); (case hr => (go_simp; done)); intro gb127 hg w3 hbox hb; have BK127 := ak (hbox); have GW127 := ak ((by rw [hg]; exact (below_size (bl HB)) : w.heap.size ≤ gb127)); have GE127 := ak ((by rw [hg]; exact (below_size (bl HB)) : w.heap.size ≤ gb127)); replace HB := ak (below_step (bl HB) hb); clear hb hbox hg) | ((with_reducible refine gate_dst (N := 2) rfl ?_); refine box_event ?hg (N := 2) ?hd (cs := #[.int .i64 0, .slice none 0 0]) (t := 25) ?hr ?_; (case hd => rfl); (case hg => rfl); (case hr => (go_simp; done)); intro gb128 hg w4 hbox hb; have BK128 := ak (hbox); have GW128 := ak ((by rw [hg]; exact (below_size (bl1 HB GE127)) : w.heap.size ≤ gb128)); have GE128 := ak ((by rw [hg]; exact (below_size (bl1 HB GE127)) : w.heap.size ≤ gb128)); replace HB := ak (below_step (bl1 HB GE127) hb); have NB127_128 := ak ((by rw [hg]; exact Nat.ne_of_lt (blk_lt (bk BK127)) : gb127 ≠ gb128)); have NB128_127 := ak ((by rw [hg]; exact Nat.ne_of_gt (blk_lt (bk BK127)) : gb128 ≠ gb127)); replace BK127 := ak (blk_below (bk BK127) hb); clear hb hbox hg))
 replace BK127 := ak (blk_drew BK127.out)
 replace BK128 := ak (blk_drew BK128.out)
 replace HB := ak (below_drew1 HB.out)
 refine start_ (n := 9) (S := fun w' => w'.cell? ⟨gb127, 0, none⟩ = some (.int .i64 a0_0) ∧ w'.cell? ⟨gb127, 1, none⟩ = some (.slice A0_1 l0_1.length c0_1)) (ds := []) (ms 9 0) (by kernel_rfl) rfl (by kernel_rfl) ⟨(blk_cell BK127.out 0).trans rfl, (blk_cell BK127.out 1).trans rfl⟩ (fun hHeld => ?_); refine with_tabW impl_Net_back.tab1 impl_Net_back.bits1 (fun HT_ HW_ => ?_)
 generalize w4.drew = w5 at BK127 BK128 HB hHeld ⊢
 refine pu 0 6 ?_ (ms 9 1) rfl rfl HT_ (by kernel_rfl) (fun _ _ _ h => h) (by rfl) ?_ ?_ ?_ ?_
 rotate_left
 ·intro w'
  go_simp
  with_reducible rfl
 rotate_left
 ·simp only [SX]
  rfl
 refine pu 2 8 ?_ (ms 9 5) rfl rfl HT_ (by kernel_rfl) (fun _ _ _ h => h) (by rfl) ?_ ?_ ?_ ?_
 rotate_left
 ·intro w'
  go_simp
  with_reducible rfl
 rotate_left
 ·simp only [SX]
  rfl
 refine tk 1 7 ?_ (ms 9 7) rfl rfl HT_ HW_ (by kernel_rfl) (fun _ _ _ h => h) (by rfl) ?_ hHeld ?_ ?_ ?_
 rotate_left
 ·rintro w' ⟨s0, s1⟩
  go_simp
  with_reducible rfl
 rotate_left
 ·simp only [SX]
  rfl
 refine tk 3 9 ?_ (ms 9 15) rfl rfl HT_ HW_ (by kernel_rfl) (fun _ _ _ h => h) (by rfl) ?_ hHeld ?_ ?_ ?_
 rotate_left
 ·rintro w' ⟨s0, s1⟩
  go_simp
  with_reducible rfl
 rotate_left
 ·simp only [SX]
  rfl
 refine pu 4 10 ?_ (ms 9 31) rfl rfl HT_ (by kernel_rfl) (fun _ _ _ h => h) (by rfl) ?_ ?_ ?_ ?_
 rotate_left
 ·intro w'
  go_simp
  with_reducible rfl
 rotate_left
 ·simp only [SX]
  rfl
 refine join_ (σ := Value × Nat) 1 (ms 9 255) (fun s_ => [(11, s_.1), (3, .pointer (some ⟨s_.2, 0, none⟩)), (12, .agg #[.int .i64 a0_0, s_.1])]) (fun s_ w' => (w'.cell? ⟨gb127, 0, none⟩ = some (.int .i64 a0_0) ∧ w'.cell? ⟨gb127, 1, none⟩ = some (.slice A0_1 l0_1.length c0_1)) ∧ (Kd.R k33 33 w' w.heap.size (fun _ => True) s_.1 y129) ∧ (w'.heap[gb127]? = some (.cells #[.int .i64 a0_0, .slice A0_1 l0_1.length c0_1] 25 (0, 0))) ∧ (w'.heap[gb128]? = some (.cells #[.int .i64 0, .slice none 0 0] 25 (0, 0))) ∧ (w'.heap[s_.2]? = some (.cells #[.int .i64 0, .slice none 0 0] 25 (0, 0))) ∧ (w.heap.size ≤ s_.2) ∧ (w.heap.size ≤ s_.2) ∧ (gb127 ≠ s_.2) ∧ (s_.2 ≠ gb127) ∧ (gb128 ≠ s_.2) ∧ (s_.2 ≠ gb128) ∧ (Below w.heap.size w w')) ?_ ?_
 rotate_left
 ·intro hCont
  refine two_ (i := 5) (j := 7) (Ni := some 11) (Nj := some 3) (ms 9 63) (ms 9 159) rfl rfl rfl rfl (two_of HT_.out (by kernel_rfl)) (by decide) (by decide) (fun K hK => ?_) (fun K hK => ?_)
  ·skip
   refine Kd.R_make0_step k33 _ 33 (by rfl) (N := 11) rfl 23 _ _ rfl (l0_1.length : Int) rfl rfl Try.underlying23 (.agg #[(.int .i64 0), (.int .i64 0), (.int .i64 0), (.int .i64 0), (.int .i64 0)]) 40 info33 (by decide) (ok := fun _ => True) trivial (by omega) (Nat.le_trans (Nat.mul_le_mul_right _ (oT (by (with_reducible assumption)) : (l0_1.length : Int).toNat ≤ 7036874417766)) (by omega)) (Below.refl _ _) (Nat.le_refl _) ?_
   intro v130 w6 ho7 hb hg_ hnew_
   clear hg_ hnew_
   (rw [← Ny129.out] at ho7)
   have HO131 := ak (Kd.R_lower ho7 (below_size (bl2 HB GE127 GE128)))
   replace BK127 := ak (blk_below (bk BK127) hb)
   replace BK128 := ak (blk_below (bk BK128) hb)
   replace HB := ak (below_step (bl2 HB GE127 GE128) hb)
   clear hb ho7
   obtain ⟨Ao8, co8, eo8⟩ := Kd.R_slice HO131.out
   (subst eo8)
   refine hK.out _ _ ⟨(blk_cell BK127.out 0).trans rfl, (blk_cell BK127.out 1).trans rfl⟩ (fun hHeld => ?_)
   clear hK K
   refine norm_ (a' := ?_) ?_ ?_
   rotate_left
   ·show Act.put _ (some 11) _ = _
    simp only [SX]
    rfl
   refine pu 6 12 ?_ (ms 9 127) rfl rfl HT_ (by kernel_rfl) (fun _ _ _ h => h) (by rfl) ?_ ?_ ?_ ?_
   rotate_left
   ·intro w'
    go_simp
    with_reducible rfl
   rotate_left
   ·simp only [SX]
    rfl
   refine one_ (i := 7) (N := some 3) (ms 9 255) rfl rfl (one_of HT_.out (by kernel_rfl)) (by decide) (fun K hK => ?_)
   refine box_step ?hg (N := 3) ?hd (cs := #[.int .i64 0, .slice none 0 0]) (t := 25) ?hr ?_; (case hd => rfl); (case hg => rfl); (case hr => (go_simp; done))
   intro gb132 hg w9 hbox hb
   replace HO131 := ak (Kd.R_below (rk HO131) hb)
   have BK132 := ak (hbox)
   have GW132 := ak ((by rw [hg]; exact (below_size (bl2 HB GE127 GE128)) : w.heap.size ≤ gb132))
   have GE132 := ak ((by rw [hg]; exact (below_size (bl2 HB GE127 GE128)) : w.heap.size ≤ gb132))
   replace HB := ak (below_step (bl2 HB GE127 GE128) hb)
   have NB127_132 := ak ((by rw [hg]; exact Nat.ne_of_lt (blk_lt (bk BK127)) : gb127 ≠ gb132))
   have NB132_127 := ak ((by rw [hg]; exact Nat.ne_of_gt (blk_lt (bk BK127)) : gb132 ≠ gb127))
   replace BK127 := ak (blk_below (bk BK127) hb)
   have NB128_132 := ak ((by rw [hg]; exact Nat.ne_of_lt (blk_lt (bk BK128)) : gb128 ≠ gb132))
   have NB132_128 := ak ((by rw [hg]; exact Nat.ne_of_gt (blk_lt (bk BK128)) : gb132 ≠ gb128))
   replace BK128 := ak (blk_below (bk BK128) hb)
   clear hb hbox hg
   refine hK.out _ _ ⟨(blk_cell BK127.out 0).trans rfl, (blk_cell BK127.out 1).trans rfl⟩ (fun hHeld => ?_)
   clear hK K
   refine norm_ (a' := ?_) ?_ ?_
   rotate_left
   ·show Act.put _ (some 3) _ = _
    simp only [SX]
    rfl
   exact norm_ (by simp only [putAll, Act.put, List.setIfInBounds_toArray, List.set_cons_zero, List.set_cons_succ]) (hCont (.slice Ao8 y129.length co8, gb132) _ ⟨hHeld, (rk HO131), (bk BK127), (bk BK128), (bk BK132), GW132.out, GE132.out, NB127_132.out, NB132_127.out, NB128_132.out, NB132_128.out, (bl3 HB GE127 GE128 GE132)⟩)
  skip
  refine box_step ?hg (N := 3) ?hd (cs := #[.int .i64 0, .slice none 0 0]) (t := 25) ?hr ?_; (case hd => rfl); (case hg => rfl); (case hr => (go_simp; done))
  intro gb132 hg w6 hbox hb
  have BK132 := ak (hbox)
  have GW132 := ak ((by rw [hg]; exact (below_size (bl2 HB GE127 GE128)) : w.heap.size ≤ gb132))
  have GE132 := ak ((by rw [hg]; exact (below_size (bl2 HB GE127 GE128)) : w.heap.size ≤ gb132))
  replace HB := ak (below_step (bl2 HB GE127 GE128) hb)
  have NB127_132 := ak ((by rw [hg]; exact Nat.ne_of_lt (blk_lt (bk BK127)) : gb127 ≠ gb132))
  have NB132_127 := ak ((by rw [hg]; exact Nat.ne_of_gt (blk_lt (bk BK127)) : gb132 ≠ gb127))
  replace BK127 := ak (blk_below (bk BK127) hb)
  have NB128_132 := ak ((by rw [hg]; exact Nat.ne_of_lt (blk_lt (bk BK128)) : gb128 ≠ gb132))
  have NB132_128 := ak ((by rw [hg]; exact Nat.ne_of_gt (blk_lt (bk BK128)) : gb132 ≠ gb128))
  replace BK128 := ak (blk_below (bk BK128) hb)
  clear hb hbox hg
  refine hK.out _ _ ⟨(blk_cell BK127.out 0).trans rfl, (blk_cell BK127.out 1).trans rfl⟩ (fun hHeld => ?_)
  clear hK K
  refine norm_ (a' := ?_) ?_ ?_
  rotate_left
  ·show Act.put _ (some 3) _ = _
   simp only [SX]
   rfl
  refine one_ (i := 5) (N := some 11) (ms 9 191) rfl rfl (one_of HT_.out (by kernel_rfl)) (by decide) (fun K hK => ?_)
  refine Kd.R_make0_step k33 _ 33 (by rfl) (N := 11) rfl 23 _ _ rfl (l0_1.length : Int) rfl rfl Try.underlying23 (.agg #[(.int .i64 0), (.int .i64 0), (.int .i64 0), (.int .i64 0), (.int .i64 0)]) 40 info33 (by decide) (ok := fun _ => True) trivial (by omega) (Nat.le_trans (Nat.mul_le_mul_right _ (oT (by (with_reducible assumption)) : (l0_1.length : Int).toNat ≤ 7036874417766)) (by omega)) (Below.refl _ _) (Nat.le_refl _) ?_
  intro v130 w7 ho8 hb hg_ hnew_
  clear hg_ hnew_
  (rw [← Ny129.out] at ho8)
  have HO131 := ak (Kd.R_lower ho8 (below_size (bl3 HB GE127 GE128 GE132)))
  replace BK127 := ak (blk_below (bk BK127) hb)
  replace BK128 := ak (blk_below (bk BK128) hb)
  replace BK132 := ak (blk_below (bk BK132) hb)
  replace HB := ak (below_step (bl3 HB GE127 GE128 GE132) hb)
  clear hb ho8
  obtain ⟨Ao9, co9, eo9⟩ := Kd.R_slice HO131.out
  (subst eo9)
  refine hK.out _ _ ⟨(blk_cell BK127.out 0).trans rfl, (blk_cell BK127.out 1).trans rfl⟩ (fun hHeld => ?_)
  clear hK K
  refine norm_ (a' := ?_) ?_ ?_
  rotate_left
  ·show Act.put _ (some 11) _ = _
   simp only [SX]
   rfl
  refine pu 6 12 ?_ (ms 9 255) rfl rfl HT_ (by kernel_rfl) (fun _ _ _ h => h) (by rfl) ?_ ?_ ?_ ?_
  rotate_left
  ·intro w'
   go_simp
   with_reducible rfl
  rotate_left
  ·simp only [SX]
   rfl
  exact norm_ (by simp only [putAll, Act.put, List.setIfInBounds_toArray, List.set_cons_zero, List.set_cons_succ]) (hCont (.slice Ao9 y129.length co9, gb132) _ ⟨hHeld, (rk HO131), (bk BK127), (bk BK128), (bk BK132), GW132.out, GE132.out, NB127_132.out, NB132_127.out, NB128_132.out, NB132_128.out, (bl3 HB GE127 GE128 GE132)⟩)
 rintro ⟨v130, gb132⟩ w10 ⟨hS_, h0_, h1_, h2_, h3_, h4_, h5_, h6_, h7_, h8_, h9_, h10_⟩
 have HO131 : Aside0 (Kd.R k33 33 w10 w.heap.size (fun _ => True) v130 y129) := ⟨h0_⟩
 replace BK127 : Aside0 (w10.heap[gb127]? = some (.cells #[.int .i64 a0_0, .slice A0_1 l0_1.length c0_1] 25 (0, 0))) := ⟨h1_⟩
 replace BK128 : Aside0 (w10.heap[gb128]? = some (.cells #[.int .i64 0, .slice none 0 0] 25 (0, 0))) := ⟨h2_⟩
 have BK132 : Aside0 (w10.heap[gb132]? = some (.cells #[.int .i64 0, .slice none 0 0] 25 (0, 0))) := ⟨h3_⟩
 have GW132 : Aside0 (w.heap.size ≤ gb132) := ⟨h4_⟩
 have GE132 : Aside0 (w.heap.size ≤ gb132) := ⟨h5_⟩
 have NB127_132 : Aside0 (gb127 ≠ gb132) := ⟨h6_⟩
 have NB132_127 : Aside0 (gb132 ≠ gb127) := ⟨h7_⟩
 have NB128_132 : Aside0 (gb128 ≠ gb132) := ⟨h8_⟩
 have NB132_128 : Aside0 (gb132 ≠ gb128) := ⟨h9_⟩
 replace HB : Aside0 (Below w.heap.size w w10) := ⟨h10_⟩
 clear h0_ h1_ h2_ h3_ h4_ h5_ h6_ h7_ h8_ h9_ h10_
 have hHeld : w10.cell? ⟨gb127, 0, none⟩ = some (.int .i64 a0_0) ∧ w10.cell? ⟨gb127, 1, none⟩ = some (.slice A0_1 l0_1.length c0_1) := hS_
 obtain ⟨Ao11, co11, eo11⟩ := Kd.R_slice HO131.out
 (subst eo11)
 refine norm_ (a' := ?_) ?_ ?_
 rotate_left
 ·simp only [putAll, Act.put, List.setIfInBounds_toArray, List.set_cons_zero, List.set_cons_succ]
  rfl
 refine one_ (i := 8) (N := none) (ms 9 511) rfl rfl (one_of HT_.out (by kernel_rfl)) (by decide) (fun K hK => ?_)
 have hs12 : w10.cell? ⟨gb132, 0, none⟩ = some (.int .i64 0) := (blk_cell BK132.out 0).trans rfl
 have hfs12 := blk_frozen BK132.out 0
 have hns12_0 := NB127_132.out
 have hns12_1 := NB128_132.out
 have hms12_0 := NB132_127.out
 have hms12_1 := NB132_128.out
 have hs13 : w10.cell? ⟨gb132, 1, none⟩ = some (.slice none 0 0) := (blk_cell BK132.out 1).trans rfl
 have hfs13 := blk_frozen BK132.out 1
 have hns13_0 := NB127_132.out
 have hns13_1 := NB128_132.out
 have hms13_0 := NB132_127.out
 have hms13_1 := NB132_128.out
 refine skip_ (w1 := ?_) (by rfl) rfl ?_ ?_
 rotate_left
 ·go_simp
  rfl
 refine hK.out _ _ ⟨((cell_far (p := ⟨gb132, _, none⟩) NB127_132.out _).trans (((cell_far (p := ⟨gb132, _, none⟩) NB127_132.out _).trans (hHeld.1)))), ((cell_far (p := ⟨gb132, _, none⟩) NB127_132.out _).trans (((cell_far (p := ⟨gb132, _, none⟩) NB127_132.out _).trans (hHeld.2))))⟩ (fun hHeld => ?_)
 clear hK K
 refine done_ (done_of HT_.out (by kernel_rfl)) ?_
 have hnb14 := NB127_128.out
 have hnc14 := NB128_127.out
 have hnb15 := NB127_132.out
 have hnc15 := NB132_127.out
 have hcz16_0 := bc w10 BK127 0 (.int .i64 a0_0) rfl
 have hcz16_1 := bc w10 BK127 1 (.slice A0_1 l0_1.length c0_1) rfl
 have hfz16_0 := fz BK127 0
 have hfz16_1 := fz BK127 1
 try go_wp2
 go_loopg [16] k (fun kq v16 w' => ∃ (x16_1 : Int) (x133001_1 : List (S33)) (u133001 : Value), v16 = .int .i64 x16_1 ∧ Aside0 (impl_Net_back.l0 kq l0_1 (l0_1.length : Int) x16_1 a0_0 x133001_1 = some (r1, r2)) ∧ Aside0 (kq ≤ k) ∧ Aside0 (Kd.R k33 33 w' w.heap.size (fun _ => True) u133001 x133001_1) ∧ Aside0 (w'.heap[gb127]? = some (.cells #[.int .i64 a0_0, (.slice A0_1 l0_1.length c0_1)] 25 (0, 0))) ∧ Aside0 (w'.heap[gb128]? = some (.cells #[.int .i64 0, (.slice none 0 0)] 25 (0, 0))) ∧ Aside0 (w'.heap[gb132]? = some (.cells #[.int .i64 a0_0, u133001] 25 (0, 0))) ∧ Aside0 (Below w.heap.size w w'))
 case atStart => exact ⟨(0), (y129), (.slice Ao11 y129.length co11), (by rfl), H', ⟨Nat.le_refl _⟩, ⟨by exact Kd.R_mono (Kd.R_far (p := ⟨gb132, 1, none⟩) (Kd.R_far (p := ⟨gb132, 0, none⟩) (Kd.R_types HO131.out BK132.out (by decide)) (fun _ hk => hk.2) (.int .i64 a0_0)) (fun _ hk => hk.2) (.slice Ao11 y129.length co11)) (fun _ hk => trivial)⟩, ⟨by refine blk_far ?_ NB127_132.out _; refine blk_far ?_ NB127_132.out _; exact BK127.out⟩, ⟨by refine blk_far ?_ NB128_132.out _; refine blk_far ?_ NB128_132.out _; exact BK128.out⟩, ⟨by refine blk_put (cs := #[.int .i64 a0_0, .slice none 0 0]) ?_ 1 _ rfl; refine blk_put (cs := #[.int .i64 0, .slice none 0 0]) ?_ 0 _ rfl; exact BK132.out⟩, ⟨bl3 HB GE127 GE128 GE132⟩⟩
 clear H'
 try clear c1
 try clear c2
 try clear c2b0
 try clear c2b1
 try clear p2
 try clear c8
 try clear c14
 try clear c15
 try clear hcz16_0
 try clear hcz16_1
 try clear hfz16_0
 try clear hfz16_1
 obtain ⟨x16_1, x133001_1, u133001, rfl, HA, HK1, HO_133001, BK127, BK128, BK132, HB⟩ := hrel
 cases gk with
 | zero => exact absurd HA.out (by simp [impl_Net_back.l0])
 | succ k1 =>
  have H := HA.out
  clear HA
  simp only [impl_Net_back.l0] at H
  by_cases c17 : x16_1 < (l0_1.length : Int)
  rotate_left
  ·rw [if_neg c17] at H
   have c17b0 : decide (x16_1 < (l0_1.length : Int)) = false := decide_eq_false c17
   clear c17
   simp only [Option.some.injEq, Prod.mk.injEq] at H
   obtain ⟨rfl, rfl⟩ := H
   have hnb32 := NB132_127.out
   have hnc32 := NB127_132.out
   have hnb33 := NB132_128.out
   have hnc33 := NB128_132.out
   have hcz34_0 := bc wr BK132 0 (.int .i64 a0_0) rfl
   have hcz34_1 := bc wr BK132 1 (u133001) rfl
   have hfz34_0 := fz BK132 0
   have hfz34_1 := fz BK132 1
   have hnb35 := NB128_127.out
   have hnc35 := NB127_128.out
   have hcz36_0 := bc wr BK128 0 (.int .i64 0) rfl
   have hcz36_1 := bc wr BK128 1 (.slice none 0 0) rfl
   have hfz36_0 := fz BK128 0
   have hfz36_1 := fz BK128 1
   obtain ⟨Ao37, co37, eo37⟩ := Kd.R_slice HO_133001.out
   subst eo37
   go_wp2
   refine bodyPost_ret (results_cell_row rfl _ _ gb128 25 #[.int .i64 a0_0, .slice Ao37 x133001_1.length co37] (0, 0) _ rfl (by refine blk_put (cs := #[.int .i64 a0_0, .slice none 0 0]) ?_ 1 _ rfl; refine blk_put (cs := #[.int .i64 0, .slice none 0 0]) ?_ 0 _ rfl; exact BK128.out) Try.underlying25 rfl (by kernel_rfl)) rfl ?_
   exact ⟨_, by rfl, by exact Kd.R_mono (Kd.R_far (p := ⟨gb128, 1, none⟩) (Kd.R_far (p := ⟨gb128, 0, none⟩) (Kd.R_types HO_133001.out BK128.out (by decide)) (fun _ hk => hk.2) (.int .i64 a0_0)) (fun _ hk => hk.2) (.slice Ao37 x133001_1.length co37)) (fun _ hk => trivial), bl3 HB GE127 GE128 GE132⟩
  rw [if_pos c17] at H
  have c17b0 : decide (x16_1 < (l0_1.length : Int)) = true := decide_eq_true c17
  clear c17
  by_cases c18 : 0 ≤ x16_1
  rotate_left
  ·rw [if_neg c18] at H
   exact absurd H (by simp)
  rw [if_pos c18] at H
  have c18b0 : decide (0 ≤ x16_1) = true := decide_eq_true c18
  clear c18
  by_cases c19 : x16_1 < (l0_1.length : Int)
  rotate_left
  ·rw [if_neg c19] at H
   exact absurd H (by simp)
  rw [if_pos c19] at H
  have c19b0 : decide (x16_1 < (l0_1.length : Int)) = true := decide_eq_true c19
  clear c19
  by_cases c20 : x133001_1.length < 3518437208883
  rotate_left
  ·rw [if_neg c20] at H
   exact absurd H (by simp)
  rw [if_pos c20] at H
  have LMc20 := ak c20
  clear c20
  obtain ⟨y135, hy135⟩ : ∃ y_ : List (S33), y_ = (x133001_1 ++ [(⟨(rd_T33 l0_1 x16_1).f1, (rd_T33 l0_1 x16_1).f0, (rd_T33 l0_1 x16_1).f2, (rd_T33 l0_1 x16_1).f3, (rd_T33 l0_1 x16_1).f4⟩ : S33)]) := ⟨_, rfl⟩
  replace H : (impl_Net_back.l0 k1 l0_1 (l0_1.length : Int) (wrap64 (x16_1 + 1)) a0_0 y135) = some (r1, r2) := by (rw [hy135]; with_reducible exact H)
  have Ny135 := ak hy135
  clear hy135
  have H' := ak H
  clear H
  have p133 : 0 ≤ (x16_1 : Int) := oT (by (with_reducible assumption))
  have q133 : x16_1 < (l0_1.length : Int) := oT (by (with_reducible assumption))
  obtain ⟨ad133, e133, hx133_0, hx133_1, hx133_2, hx133_3, hx133_4⟩ := at_T33 HR0_1.out x16_1 p133 q133
  cases e133
  replace hx133_0 := hcb HB.out hx133_0
  replace hx133_1 := hcb HB.out hx133_1
  replace hx133_2 := hcb HB.out hx133_2
  replace hx133_3 := hcb HB.out hx133_3
  replace hx133_4 := hcb HB.out hx133_4
  replace p133 := eq_true p133
  replace q133 := eq_true q133
  go_wp2_with (first | ((with_reducible refine gate_dst (N := 5) rfl ?_); refine box_event ?hg (N := 5) ?hd (cs := #[.int .i64 0, .int .i64 0, .int .i64 0, .int .i64 0, .int .i64 0]) (t := 33) ?hr ?_; (case hd => rfl); (case hg => rfl); (case hr => (go_simp; done)); intro gb134 hg w21 hbox hb; replace HO_133001 := ak (Kd.R_below (Kd.R_elderB (rk HO_133001) gb134 (Nat.le_of_eq hg.symm)) hb); have BK134 := ak (hbox); have GW134 := ak ((by rw [hg]; exact (below_size (bl3 HB GE127 GE128 GE132)) : w.heap.size ≤ gb134)); have GE134 := ak ((by rw [hg]; exact (below_size (bl3 HB GE127 GE128 GE132)) : w.heap.size ≤ gb134)); replace HB := ak (below_step (bl3 HB GE127 GE128 GE132) hb); have NB127_134 := ak ((by rw [hg]; exact Nat.ne_of_lt (blk_lt (bk BK127)) : gb127 ≠ gb134)); have NB134_127 := ak ((by rw [hg]; exact Nat.ne_of_gt (blk_lt (bk BK127)) : gb134 ≠ gb127)); replace BK127 := ak (blk_below (bk BK127) hb); have NB128_134 := ak ((by rw [hg]; exact Nat.ne_of_lt (blk_lt (bk BK128)) : gb128 ≠ gb134)); have NB134_128 := ak ((by rw [hg]; exact Nat.ne_of_gt (blk_lt (bk BK128)) : gb134 ≠ gb128)); replace BK128 := ak (blk_below (bk BK128) hb); have NB132_134 := ak ((by rw [hg]; exact Nat.ne_of_lt (blk_lt (bk BK132)) : gb132 ≠ gb134)); have NB134_132 := ak ((by rw [hg]; exact Nat.ne_of_gt (blk_lt (bk BK132)) : gb134 ≠ gb132)); replace BK132 := ak (blk_below (bk BK132) hb); clear hb hbox hg; have hnb22 := NB134_127.out; have hnc22 := NB127_134.out; have hnb23 := NB134_128.out; have hnc23 := NB128_134.out; have hnb24 := NB134_132.out; have hnc24 := NB132_134.out; have hcz25_0 := bc w21 BK134 0 (.int .i64 0) rfl; have hcz25_1 := bc w21 BK134 1 (.int .i64 0) rfl; have hcz25_2 := bc w21 BK134 2 (.int .i64 0) rfl; have hcz25_3 := bc w21 BK134 3 (.int .i64 0) rfl; have hcz25_4 := bc w21 BK134 4 (.int .i64 0) rfl; have hfz25_0 := fz BK134 0; have hfz25_1 := fz BK134 1; have hfz25_2 := fz BK134 2; have hfz25_3 := fz BK134 3; have hfz25_4 := fz BK134 4; have hnb26 := NB132_127.out; have hnc26 := NB127_132.out; have hnb27 := NB132_128.out; have hnc27 := NB128_132.out; have hcz28_0 := bc w21 BK132 0 (.int .i64 a0_0) rfl; have hcz28_1 := bc w21 BK132 1 (u133001) rfl; have hfz28_0 := fz BK132 0; have hfz28_1 := fz BK132 1) | ((with_reducible refine gate_dst (N := 28) rfl ?_); (fail_if_success clear hW_); refine impl_Net_back.fix_world (g := gb134) (o := .cells #[.int .i64 ((rd_T33 l0_1 x16_1).f1), .int .i64 ((rd_T33 l0_1 x16_1).f0), .int .i64 ((rd_T33 l0_1 x16_1).f2), .int .i64 ((rd_T33 l0_1 x16_1).f3), .int .i64 ((rd_T33 l0_1 x16_1).f4)] 33 (0, 0)) (by refine blk_put (cs := #[.int .i64 ((rd_T33 l0_1 x16_1).f1), .int .i64 ((rd_T33 l0_1 x16_1).f1), .int .i64 ((rd_T33 l0_1 x16_1).f2), .int .i64 ((rd_T33 l0_1 x16_1).f3), .int .i64 ((rd_T33 l0_1 x16_1).f4)]) ?_ 1 _ rfl; refine blk_put (cs := #[.int .i64 ((rd_T33 l0_1 x16_1).f0), .int .i64 ((rd_T33 l0_1 x16_1).f1), .int .i64 ((rd_T33 l0_1 x16_1).f2), .int .i64 ((rd_T33 l0_1 x16_1).f3), .int .i64 ((rd_T33 l0_1 x16_1).f4)]) ?_ 0 _ rfl; refine blk_put (cs := #[.int .i64 ((rd_T33 l0_1 x16_1).f0), .int .i64 ((rd_T33 l0_1 x16_1).f1), .int .i64 ((rd_T33 l0_1 x16_1).f2), .int .i64 ((rd_T33 l0_1 x16_1).f3), .int .i64 0]) ?_ 4 _ rfl; refine blk_put (cs := #[.int .i64 ((rd_T33 l0_1 x16_1).f0), .int .i64 ((rd_T33 l0_1 x16_1).f1), .int .i64 ((rd_T33 l0_1 x16_1).f2), .int .i64 0, .int .i64 0]) ?_ 3 _ rfl; refine blk_put (cs := #[.int .i64 ((rd_T33 l0_1 x16_1).f0), .int .i64 ((rd_T33 l0_1 x16_1).f1), .int .i64 0, .int .i64 0, .int .i64 0]) ?_ 2 _ rfl; refine blk_put (cs := #[.int .i64 ((rd_T33 l0_1 x16_1).f0), .int .i64 0, .int .i64 0, .int .i64 0, .int .i64 0]) ?_ 1 _ rfl; refine blk_put (cs := #[.int .i64 0, .int .i64 0, .int .i64 0, .int .i64 0, .int .i64 0]) ?_ 0 _ rfl; exact BK134.out) ?_; intro W_ hW_ hBW_; have hcw_0 : W_.cell? ⟨gb134, 0, none⟩ = some (.int .i64 ((rd_T33 l0_1 x16_1).f1)) := (blk_cell hBW_ 0).trans rfl; have hcw_1 : W_.cell? ⟨gb134, 1, none⟩ = some (.int .i64 ((rd_T33 l0_1 x16_1).f0)) := (blk_cell hBW_ 1).trans rfl; have hcw_2 : W_.cell? ⟨gb134, 2, none⟩ = some (.int .i64 ((rd_T33 l0_1 x16_1).f2)) := (blk_cell hBW_ 2).trans rfl; have hcw_3 : W_.cell? ⟨gb134, 3, none⟩ = some (.int .i64 ((rd_T33 l0_1 x16_1).f3)) := (blk_cell hBW_ 3).trans rfl; have hcw_4 : W_.cell? ⟨gb134, 4, none⟩ = some (.int .i64 ((rd_T33 l0_1 x16_1).f4)) := (blk_cell hBW_ 4).trans rfl) | ((with_reducible refine gate_dst (N := 29) rfl ?_); clear hBW_ hcw_0 hcw_1 hcw_2 hcw_3 hcw_4; subst hW_) | ((with_reducible refine gate_builtin (b := .append) (xs := #[.tmp 27, .tmp 29]) rfl ?_); at_builtin; refine Kd.R_append k33 (w0 := w) w.heap.size rfl (.tmp 27) (.tmp 29) 23 33 (.agg #[(.int .i64 0), (.int .i64 0), (.int .i64 0), (.int .i64 0), (.int .i64 0)]) 40 rfl Try.underlying23 info33 rfl (by decide) (by omega) u133001 x133001_1 (⟨(rd_T33 l0_1 x16_1).f1, (rd_T33 l0_1 x16_1).f0, (rd_T33 l0_1 x16_1).f2, (rd_T33 l0_1 x16_1).f3, (rd_T33 l0_1 x16_1).f4⟩ : S33) [.int .i64 ((rd_T33 l0_1 x16_1).f1), .int .i64 ((rd_T33 l0_1 x16_1).f0), .int .i64 ((rd_T33 l0_1 x16_1).f2), .int .i64 ((rd_T33 l0_1 x16_1).f3), .int .i64 ((rd_T33 l0_1 x16_1).f4)] (fun k_ => k_ ≠ gb134) (fun _ => False) rfl (by (go_simp; done)) ?aP (fun _ hk => hk.elim) ?aF ?aO ?aB ?aS ?aL ?_; (case aP => exact k33_mkM _ _ _ (⟨(rd_T33 l0_1 x16_1).f1, (rd_T33 l0_1 x16_1).f0, (rd_T33 l0_1 x16_1).f2, (rd_T33 l0_1 x16_1).f3, (rd_T33 l0_1 x16_1).f4⟩ : S33)); (case aB => exact (bl4 HB GE127 GE128 GE132 GE134)); (case aF => exact (fun k_ hk => Kd.freshB (g := gb134) (o := .cells #[.int .i64 ((rd_T33 l0_1 x16_1).f1), .int .i64 ((rd_T33 l0_1 x16_1).f0), .int .i64 ((rd_T33 l0_1 x16_1).f2), .int .i64 ((rd_T33 l0_1 x16_1).f3), .int .i64 ((rd_T33 l0_1 x16_1).f4)] 33 (0, 0)) (by refine blk_put (cs := #[.int .i64 ((rd_T33 l0_1 x16_1).f1), .int .i64 ((rd_T33 l0_1 x16_1).f1), .int .i64 ((rd_T33 l0_1 x16_1).f2), .int .i64 ((rd_T33 l0_1 x16_1).f3), .int .i64 ((rd_T33 l0_1 x16_1).f4)]) ?_ 1 _ rfl; refine blk_put (cs := #[.int .i64 ((rd_T33 l0_1 x16_1).f0), .int .i64 ((rd_T33 l0_1 x16_1).f1), .int .i64 ((rd_T33 l0_1 x16_1).f2), .int .i64 ((rd_T33 l0_1 x16_1).f3), .int .i64 ((rd_T33 l0_1 x16_1).f4)]) ?_ 0 _ rfl; refine blk_put (cs := #[.int .i64 ((rd_T33 l0_1 x16_1).f0), .int .i64 ((rd_T33 l0_1 x16_1).f1), .int .i64 ((rd_T33 l0_1 x16_1).f2), .int .i64 ((rd_T33 l0_1 x16_1).f3), .int .i64 0]) ?_ 4 _ rfl; refine blk_put (cs := #[.int .i64 ((rd_T33 l0_1 x16_1).f0), .int .i64 ((rd_T33 l0_1 x16_1).f1), .int .i64 ((rd_T33 l0_1 x16_1).f2), .int .i64 0, .int .i64 0]) ?_ 3 _ rfl; refine blk_put (cs := #[.int .i64 ((rd_T33 l0_1 x16_1).f0), .int .i64 ((rd_T33 l0_1 x16_1).f1), .int .i64 0, .int .i64 0, .int .i64 0]) ?_ 2 _ rfl; refine blk_put (cs := #[.int .i64 ((rd_T33 l0_1 x16_1).f0), .int .i64 0, .int .i64 0, .int .i64 0, .int .i64 0]) ?_ 1 _ rfl; refine blk_put (cs := #[.int .i64 0, .int .i64 0, .int .i64 0, .int .i64 0, .int .i64 0]) ?_ 0 _ rfl; exact BK134.out) k_ hk)); (case aO => exact (by exact Kd.R_mono (Kd.R_far (p := ⟨gb134, 1, none⟩) (Kd.R_far (p := ⟨gb134, 0, none⟩) (Kd.R_far (p := ⟨gb134, 4, none⟩) (Kd.R_far (p := ⟨gb134, 3, none⟩) (Kd.R_far (p := ⟨gb134, 2, none⟩) (Kd.R_far (p := ⟨gb134, 1, none⟩) (Kd.R_far (p := ⟨gb134, 0, none⟩) (Kd.R_mono HO_133001.out (fun k_ hk => (⟨hk, hk.2⟩ : _ ∧ k_ ≠ gb134))) (fun _ hk => hk.2) (.int .i64 ((rd_T33 l0_1 x16_1).f0))) (fun _ hk => hk.2) (.int .i64 ((rd_T33 l0_1 x16_1).f1))) (fun _ hk => hk.2) (.int .i64 ((rd_T33 l0_1 x16_1).f2))) (fun _ hk => hk.2) (.int .i64 ((rd_T33 l0_1 x16_1).f3))) (fun _ hk => hk.2) (.int .i64 ((rd_T33 l0_1 x16_1).f4))) (fun _ hk => hk.2) (.int .i64 ((rd_T33 l0_1 x16_1).f1))) (fun _ hk => hk.2) (.int .i64 ((rd_T33 l0_1 x16_1).f0))) (fun _ hk => hk.1.2))); (case aS => exact (below_size (bl4 HB GE127 GE128 GE132 GE134))); (case aL => have := LMc20.out; omega); intro v136 w29 ho hb hg hat; rw [← Ny135.out] at ho; have n0_ := ak (blk_grown (g := gb127) (o := .cells #[.int .i64 a0_0, .slice (some ad133) l0_1.length c0_1] 25 (0, 0)) (by refine blk_far ?_ NB127_134.out _; refine blk_far ?_ NB127_134.out _; refine blk_far ?_ NB127_134.out _; refine blk_far ?_ NB127_134.out _; refine blk_far ?_ NB127_134.out _; refine blk_far ?_ NB127_134.out _; refine blk_far ?_ NB127_134.out _; exact BK127.out) hg (Kd.R_ne HO_133001.out BK127.out (by decide))); have n1_ := ak (blk_grown (g := gb128) (o := .cells #[.int .i64 0, .slice none 0 0] 25 (0, 0)) (by refine blk_far ?_ NB128_134.out _; refine blk_far ?_ NB128_134.out _; refine blk_far ?_ NB128_134.out _; refine blk_far ?_ NB128_134.out _; refine blk_far ?_ NB128_134.out _; refine blk_far ?_ NB128_134.out _; refine blk_far ?_ NB128_134.out _; exact BK128.out) hg (Kd.R_ne HO_133001.out BK128.out (by decide))); have n2_ := ak (blk_grown (g := gb132) (o := .cells #[.int .i64 a0_0, u133001] 25 (0, 0)) (by refine blk_far ?_ NB132_134.out _; refine blk_far ?_ NB132_134.out _; refine blk_far ?_ NB132_134.out _; refine blk_far ?_ NB132_134.out _; refine blk_far ?_ NB132_134.out _; refine blk_far ?_ NB132_134.out _; refine blk_far ?_ NB132_134.out _; exact BK132.out) hg (Kd.R_ne HO_133001.out BK132.out (by decide))); have n3_ := ak (blk_grown (g := gb134) (o := .cells #[.int .i64 ((rd_T33 l0_1 x16_1).f1), .int .i64 ((rd_T33 l0_1 x16_1).f0), .int .i64 ((rd_T33 l0_1 x16_1).f2), .int .i64 ((rd_T33 l0_1 x16_1).f3), .int .i64 ((rd_T33 l0_1 x16_1).f4)] 33 (0, 0)) (by refine blk_put (cs := #[.int .i64 ((rd_T33 l0_1 x16_1).f1), .int .i64 ((rd_T33 l0_1 x16_1).f1), .int .i64 ((rd_T33 l0_1 x16_1).f2), .int .i64 ((rd_T33 l0_1 x16_1).f3), .int .i64 ((rd_T33 l0_1 x16_1).f4)]) ?_ 1 _ rfl; refine blk_put (cs := #[.int .i64 ((rd_T33 l0_1 x16_1).f0), .int .i64 ((rd_T33 l0_1 x16_1).f1), .int .i64 ((rd_T33 l0_1 x16_1).f2), .int .i64 ((rd_T33 l0_1 x16_1).f3), .int .i64 ((rd_T33 l0_1 x16_1).f4)]) ?_ 0 _ rfl; refine blk_put (cs := #[.int .i64 ((rd_T33 l0_1 x16_1).f0), .int .i64 ((rd_T33 l0_1 x16_1).f1), .int .i64 ((rd_T33 l0_1 x16_1).f2), .int .i64 ((rd_T33 l0_1 x16_1).f3), .int .i64 0]) ?_ 4 _ rfl; refine blk_put (cs := #[.int .i64 ((rd_T33 l0_1 x16_1).f0), .int .i64 ((rd_T33 l0_1 x16_1).f1), .int .i64 ((rd_T33 l0_1 x16_1).f2), .int .i64 0, .int .i64 0]) ?_ 3 _ rfl; refine blk_put (cs := #[.int .i64 ((rd_T33 l0_1 x16_1).f0), .int .i64 ((rd_T33 l0_1 x16_1).f1), .int .i64 0, .int .i64 0, .int .i64 0]) ?_ 2 _ rfl; refine blk_put (cs := #[.int .i64 ((rd_T33 l0_1 x16_1).f0), .int .i64 0, .int .i64 0, .int .i64 0, .int .i64 0]) ?_ 1 _ rfl; refine blk_put (cs := #[.int .i64 0, .int .i64 0, .int .i64 0, .int .i64 0, .int .i64 0]) ?_ 0 _ rfl; exact BK134.out) hg (Kd.R_away HO_133001.out (fun _ hk => hk.2))); have n4_ := ak (hb); have n5_ := ak (ho); clear BK127; clear BK128; clear BK132; clear BK134; clear HB; clear HO_133001; have BK127 := n0_; have BK128 := n1_; have BK132 := n2_; have BK134 := n3_; have HB := n4_; have HO137 := n5_; clear n0_ n1_ n2_ n3_ n4_ n5_; clear ho hb hg hat; obtain ⟨Ao30, co30, eo30⟩ := Kd.R_slice HO137.out; subst eo30; have hcz31_0 := bc w29 BK132 0 (.int .i64 a0_0) rfl; have hcz31_1 := bc w29 BK132 1 (u133001) rfl; have hfz31_0 := fz BK132 0; have hfz31_1 := fz BK132 1))
  go_roundg k1
  case measure => have := HK1.out; omega
  case rel => exact ⟨(wrap64 (x16_1 + 1)), (y135), (.slice Ao30 y135.length co30), (by rfl), H', ⟨by have := HK1.out; omega⟩, ⟨by exact Kd.R_mono (Kd.R_far (p := ⟨gb132, 1, none⟩) (Kd.R_types HO137.out BK132.out (by decide)) (fun _ hk => hk.2) (.slice Ao30 y135.length co30)) (fun _ hk => trivial)⟩, ⟨by refine blk_far ?_ NB127_132.out _; exact BK127.out⟩, ⟨by refine blk_far ?_ NB128_132.out _; exact BK128.out⟩, ⟨by refine blk_put (cs := #[.int .i64 a0_0, u133001]) ?_ 1 _ rfl; exact BK132.out⟩, ⟨bl4 HB GE127 GE128 GE132 GE134⟩⟩

end Go.Proofs.Ytddkaiegnohkcaa.F
