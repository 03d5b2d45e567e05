-- Printed by wip/px/px.py of this claim's repository (the kit's printer, extended there). Lean checks it.
import Derived.Test.YtjnbhieppghidaaFKinds
namespace Go.Proofs.Ytjnbhieppghidaa.F
open Go.RowKit Go.Proofs.YtjnbhieppghidaaW.PrintWords Go.Proofs.YtjnbhieppghidaaW.PrintLast Go.Proofs.YtjnbhieppghidaaW.PrintMore
attribute [local go_sem] max2_int min2_int max_two min_two max_three min_three max_four min_four   -- for this text's walks alone
set_option linter.unusedVariables false
set_option linter.unusedSimpArgs false

/-! ### impl_Net_back: function 58 -/
def impl_Net_back.l0 : Nat → List (S60) → Int → Int → Int → List (S60) → Option (Int × (List (S60)))
 | 0, _, _, _, _, _ => none
 | k + 1, x14, x15, x16, x366000, x366001 => if x16 < x15 then (if 0 ≤ x16 then (if x16 < (x14.length : Int) then (if x366001.length < 3518437208883 then (impl_Net_back.l0 k x14 x15 (wrap64 (x16 + 1)) x366000 (x366001 ++ [(⟨(rd_T60 x14 x16).f1, (rd_T60 x14 x16).f0, (rd_T60 x14 x16).f2, (rd_T60 x14 x16).f3, (rd_T60 x14 x16).f4⟩ : S60)])) else (none)) else (none)) else (none)) else (some (x366000, x366001))
def impl_Net_back.f (k : Nat) (a0_0 : Int) (l0_1 : List (S60)) : Option (Int × (List (S60))) := if ((l0_1.length : Int) : Int).toNat ≤ 7036874417766 then (impl_Net_back.l0 k l0_1 (l0_1.length : Int) 0 a0_0 (([] : List (S60)))) else (none)
theorem impl_Net_back.mono_l : ∀ k, (∀ y0 y1 y2 y3 y4, LeO (impl_Net_back.l0 k y0 y1 y2 y3 y4) (impl_Net_back.l0 (k + 1) y0 y1 y2 y3 y4))
 | 0 => fun _ _ _ _ _ r h => by simp [impl_Net_back.l0] at h
 | k + 1 => by
  have ih0 := impl_Net_back.mono_l k
  ·intro y0 y1 y2 y3 y4
   unfold impl_Net_back.l0
   repeat' first | (with_reducible exact ih0 _ _ _ _ _) | (with_reducible exact LeO.refl _) | (with_reducible refine LeO.ite ?_ ?_)
theorem impl_Net_back.mono : ∀ a0 a1 k, LeO (impl_Net_back.f k a0 a1) (impl_Net_back.f (k + 1) a0 a1) := by
 intro a0 a1 k
 have ih0 := impl_Net_back.mono_l k
 unfold impl_Net_back.f
 repeat' first | (with_reducible exact ih0 _ _ _ _ _) | (with_reducible exact LeO.refl _) | (with_reducible refine LeO.ite ?_ ?_)
def impl_Net_back.T1 : Bool × List (List Nat × List Nat) := (true, [([], []), ([0], [0]), ([], []), ([2], [2]), ([3], [3]), ([4], [4]), ([1, 5], [1, 5]), ([], []), ([7, 6, 0, 1, 2, 3, 4, 5, 6, 7], [6, 7])])
def impl_Net_back.B1 : List Nat := [0, 1, 0, 4, 12, 28, 63, 0, 255]
theorem impl_Net_back.tab1 : rtab .any (opsOf Try.f58 1) = impl_Net_back.T1 := by kernel_rfl
theorem impl_Net_back.bits1 : waitsOk impl_Net_back.T1.2 impl_Net_back.B1 = true := by kernel_rfl
theorem impl_Net_back.fix_world {P : Program} {ops : Array Oper} {Q : Exit → Act → World → Prop} {l : List Oper} {a : Act} {W : World} {g : Nat} {o : Obj} (hb : W.heap[g]? = some o) (h : ∀ W', W = W' → W'.heap[g]? = some o → wpList P ops Q l a W') : wpList P ops Q l a W := h W rfl hb
set_option maxHeartbeats 8000000 in
set_option maxRecDepth 100000 in
theorem impl_Net_back.calls (k : Nat) (a0_0 : Int) (A0_1 : Option Addr) (c0_1 : Nat) (l0_1 : List (S60)) (r1 : Int) (r2 : List (S60)) (w : World) (hr0_1 : Kd.C k60 w A0_1 l0_1.length l0_1) (hc0_1 : l0_1.length ≤ c0_1) (h : impl_Net_back.f k a0_0 l0_1 = some (r1, r2)) :
  Calls Try.prog 58 #[.agg #[.int .i64 a0_0, .slice A0_1 l0_1.length c0_1]] w fun e w' => ∃ v1_ : Value, e = .returned (.agg #[.int .i64 r1, v1_]) ∧ Kd.R k60 60 w' w.heap.size (fun _ => True) v1_ r2 ∧ Below w.heap.size w w' := by
 have hu25 := Try.underlying25
 have hu60 := Try.underlying60
 have HR0_1 := ak hr0_1
 have HC0_1 := ak hc0_1
 clear hr0_1 hc0_1
 have HB := ak (Below.refl w.heap.size w)
 have H : (if ((l0_1.length : Int) : Int).toNat ≤ 7036874417766 then (impl_Net_back.l0 k l0_1 (l0_1.length : Int) 0 a0_0 (([] : List (S60)))) else (none)) = some (r1, r2) := h
 clear h
 by_cases c2 : ((l0_1.length : Int) : Int).toNat ≤ 7036874417766
 rotate_left
 ·rw [if_neg c2] at H
  exact absurd H (by simp)
 rw [if_pos c2] at H
 have c2b0 := eq_true c2
 have c2b1 : decide (((l0_1.length : Int) : Int).toNat ≤ 7036874417766) = true := decide_eq_true c2
 clear c2
 obtain ⟨y362, hy362⟩ : ∃ y_ : List (S60), y_ = (([] : List (S60))) := ⟨_, rfl⟩
 replace H : (impl_Net_back.l0 k l0_1 (l0_1.length : Int) 0 a0_0 y362) = some (r1, r2) := by (rw [hy362]; with_reducible exact H)
 have Ny362 := ak hy362
 clear hy362
 have H' := ak H
 clear H
 go_enter Try.func58, Try.ntmps58
 try go_wp2_with (first | ((with_reducible refine gate_dst (N := 1) rfl ?_); refine box_event ?hg (N := 1) ?hd (cs := #[.int .i64 a0_0, .slice A0_1 l0_1.length c0_1]) (t := 25) ?hr ?_; (case hd => rfl); (case hg => rfl); (case hr => (go_simp; done)); intro gb360 hg w3 hbox hb; have BK360 := ak (hbox); have GW360 := ak ((by rw [hg]; exact (below_size (bl HB)) : w.heap.size ≤ gb360)); have GE360 := ak ((by rw [hg]; exact (below_size (bl HB)) : w.heap.size ≤ gb360)); replace HB := ak (below_step (bl HB) hb); clear hb hbox hg) | ((with_reducible refine gate_dst (N := 2) rfl ?_); refine box_event ?hg (N := 2) ?hd (cs := #[.int .i64 0, .slice none 0 0]) (t := 25) ?hr ?_; (case hd => rfl); (case hg => rfl); (case hr => (go_simp; done)); intro gb361 hg w4 hbox hb; have BK361 := ak (hbox); have GW361 := ak ((by rw [hg]; exact (below_size (bl1 HB GE360)) : w.heap.size ≤ gb361)); have GE361 := ak ((by rw [hg]; exact (below_size (bl1 HB GE360)) : w.heap.size ≤ gb361)); replace HB := ak (below_step (bl1 HB GE360) hb); have NB360_361 := ak ((by rw [hg]; exact Nat.ne_of_lt (blk_lt (bk BK360)) : gb360 ≠ gb361)); have NB361_360 := ak ((by rw [hg]; exact Nat.ne_of_gt (blk_lt (bk BK360)) : gb361 ≠ gb360)); replace BK360 := ak (blk_below (bk BK360) hb); clear hb hbox hg))
 replace BK360 := ak (blk_drew BK360.out)
 replace BK361 := ak (blk_drew BK361.out)
 replace HB := ak (below_drew1 HB.out)
 refine start_ (n := 9) (S := fun w' => w'.cell? ⟨gb360, 0, none⟩ = some (.int .i64 a0_0) ∧ w'.cell? ⟨gb360, 1, none⟩ = some (.slice A0_1 l0_1.length c0_1)) (ds := []) (ms 9 0) (by kernel_rfl) rfl (by kernel_rfl) ⟨(blk_cell BK360.out 0).trans rfl, (blk_cell BK360.out 1).trans rfl⟩ (fun hHeld => ?_); refine with_tabW impl_Net_back.tab1 impl_Net_back.bits1 (fun HT_ HW_ => ?_)
 generalize w4.drew = w5 at BK360 BK361 HB hHeld ⊢
 refine pu 0 6 ?_ (ms 9 1) rfl rfl HT_ (by kernel_rfl) (fun _ _ _ h => h) (by rfl) ?_ ?_ ?_ ?_
 rotate_left
 ·intro w'
  go_simp
  with_reducible rfl
 rotate_left
 ·simp only [SX]
  rfl
 refine pu 2 8 ?_ (ms 9 5) rfl rfl HT_ (by kernel_rfl) (fun _ _ _ h => h) (by rfl) ?_ ?_ ?_ ?_
 rotate_left
 ·intro w'
  go_simp
  with_reducible rfl
 rotate_left
 ·simp only [SX]
  rfl
 refine tk 1 7 ?_ (ms 9 7) rfl rfl HT_ HW_ (by kernel_rfl) (fun _ _ _ h => h) (by rfl) ?_ hHeld ?_ ?_ ?_
 rotate_left
 ·rintro w' ⟨s0, s1⟩
  go_simp
  with_reducible rfl
 rotate_left
 ·simp only [SX]
  rfl
 refine tk 3 9 ?_ (ms 9 15) rfl rfl HT_ HW_ (by kernel_rfl) (fun _ _ _ h => h) (by rfl) ?_ hHeld ?_ ?_ ?_
 rotate_left
 ·rintro w' ⟨s0, s1⟩
  go_simp
  with_reducible rfl
 rotate_left
 ·simp only [SX]
  rfl
 refine pu 4 10 ?_ (ms 9 31) rfl rfl HT_ (by kernel_rfl) (fun _ _ _ h => h) (by rfl) ?_ ?_ ?_ ?_
 rotate_left
 ·intro w'
  go_simp
  with_reducible rfl
 rotate_left
 ·simp only [SX]
  rfl
 refine join_ (σ := Value × Nat) 1 (ms 9 255) (fun s_ => [(11, s_.1), (3, .pointer (some ⟨s_.2, 0, none⟩)), (12, .agg #[.int .i64 a0_0, s_.1])]) (fun s_ w' => (w'.cell? ⟨gb360, 0, none⟩ = some (.int .i64 a0_0) ∧ w'.cell? ⟨gb360, 1, none⟩ = some (.slice A0_1 l0_1.length c0_1)) ∧ (Kd.R k60 60 w' w.heap.size (fun _ => True) s_.1 y362) ∧ (w'.heap[gb360]? = some (.cells #[.int .i64 a0_0, .slice A0_1 l0_1.length c0_1] 25 (0, 0))) ∧ (w'.heap[gb361]? = some (.cells #[.int .i64 0, .slice none 0 0] 25 (0, 0))) ∧ (w'.heap[s_.2]? = some (.cells #[.int .i64 0, .slice none 0 0] 25 (0, 0))) ∧ (w.heap.size ≤ s_.2) ∧ (w.heap.size ≤ s_.2) ∧ (gb360 ≠ s_.2) ∧ (s_.2 ≠ gb360) ∧ (gb361 ≠ s_.2) ∧ (s_.2 ≠ gb361) ∧ (Below w.heap.size w w')) ?_ ?_
 rotate_left
 ·intro hCont
  refine two_ (i := 5) (j := 7) (Ni := some 11) (Nj := some 3) (ms 9 63) (ms 9 159) rfl rfl rfl rfl (two_of HT_.out (by kernel_rfl)) (by decide) (by decide) (fun K hK => ?_) (fun K hK => ?_)
  ·skip
   refine Kd.R_make0_step k60 _ 60 (by rfl) (N := 11) rfl 23 _ _ rfl (l0_1.length : Int) rfl rfl Try.underlying23 (.agg #[(.int .i64 0), (.int .i64 0), (.int .i64 0), (.int .i64 0), (.int .i64 0)]) 40 info60 (by decide) (ok := fun _ => True) trivial (by omega) (Nat.le_trans (Nat.mul_le_mul_right _ (oT (by (with_reducible assumption)) : (l0_1.length : Int).toNat ≤ 7036874417766)) (by omega)) (Below.refl _ _) (Nat.le_refl _) ?_
   intro v363 w6 ho7 hb hg_ hnew_
   clear hg_ hnew_
   (rw [← Ny362.out] at ho7)
   have HO364 := ak (Kd.R_lower ho7 (below_size (bl2 HB GE360 GE361)))
   replace BK360 := ak (blk_below (bk BK360) hb)
   replace BK361 := ak (blk_below (bk BK361) hb)
   replace HB := ak (below_step (bl2 HB GE360 GE361) hb)
   clear hb ho7
   obtain ⟨Ao8, co8, eo8⟩ := Kd.R_slice HO364.out
   (subst eo8)
   refine hK.out _ _ ⟨(blk_cell BK360.out 0).trans rfl, (blk_cell BK360.out 1).trans rfl⟩ (fun hHeld => ?_)
   clear hK K
   refine norm_ (a' := ?_) ?_ ?_
   rotate_left
   ·show Act.put _ (some 11) _ = _
    simp only [SX]
    rfl
   refine pu 6 12 ?_ (ms 9 127) rfl rfl HT_ (by kernel_rfl) (fun _ _ _ h => h) (by rfl) ?_ ?_ ?_ ?_
   rotate_left
   ·intro w'
    go_simp
    with_reducible rfl
   rotate_left
   ·simp only [SX]
    rfl
   refine one_ (i := 7) (N := some 3) (ms 9 255) rfl rfl (one_of HT_.out (by kernel_rfl)) (by decide) (fun K hK => ?_)
   refine box_step ?hg (N := 3) ?hd (cs := #[.int .i64 0, .slice none 0 0]) (t := 25) ?hr ?_; (case hd => rfl); (case hg => rfl); (case hr => (go_simp; done))
   intro gb365 hg w9 hbox hb
   replace HO364 := ak (Kd.R_below (rk HO364) hb)
   have BK365 := ak (hbox)
   have GW365 := ak ((by rw [hg]; exact (below_size (bl2 HB GE360 GE361)) : w.heap.size ≤ gb365))
   have GE365 := ak ((by rw [hg]; exact (below_size (bl2 HB GE360 GE361)) : w.heap.size ≤ gb365))
   replace HB := ak (below_step (bl2 HB GE360 GE361) hb)
   have NB360_365 := ak ((by rw [hg]; exact Nat.ne_of_lt (blk_lt (bk BK360)) : gb360 ≠ gb365))
   have NB365_360 := ak ((by rw [hg]; exact Nat.ne_of_gt (blk_lt (bk BK360)) : gb365 ≠ gb360))
   replace BK360 := ak (blk_below (bk BK360) hb)
   have NB361_365 := ak ((by rw [hg]; exact Nat.ne_of_lt (blk_lt (bk BK361)) : gb361 ≠ gb365))
   have NB365_361 := ak ((by rw [hg]; exact Nat.ne_of_gt (blk_lt (bk BK361)) : gb365 ≠ gb361))
   replace BK361 := ak (blk_below (bk BK361) hb)
   clear hb hbox hg
   refine hK.out _ _ ⟨(blk_cell BK360.out 0).trans rfl, (blk_cell BK360.out 1).trans rfl⟩ (fun hHeld => ?_)
   clear hK K
   refine norm_ (a' := ?_) ?_ ?_
   rotate_left
   ·show Act.put _ (some 3) _ = _
    simp only [SX]
    rfl
   exact norm_ (by simp only [putAll, Act.put, List.setIfInBounds_toArray, List.set_cons_zero, List.set_cons_succ]) (hCont (.slice Ao8 y362.length co8, gb365) _ ⟨hHeld, (rk HO364), (bk BK360), (bk BK361), (bk BK365), GW365.out, GE365.out, NB360_365.out, NB365_360.out, NB361_365.out, NB365_361.out, (bl3 HB GE360 GE361 GE365)⟩)
  skip
  refine box_step ?hg (N := 3) ?hd (cs := #[.int .i64 0, .slice none 0 0]) (t := 25) ?hr ?_; (case hd => rfl); (case hg => rfl); (case hr => (go_simp; done))
  intro gb365 hg w6 hbox hb
  have BK365 := ak (hbox)
  have GW365 := ak ((by rw [hg]; exact (below_size (bl2 HB GE360 GE361)) : w.heap.size ≤ gb365))
  have GE365 := ak ((by rw [hg]; exact (below_size (bl2 HB GE360 GE361)) : w.heap.size ≤ gb365))
  replace HB := ak (below_step (bl2 HB GE360 GE361) hb)
  have NB360_365 := ak ((by rw [hg]; exact Nat.ne_of_lt (blk_lt (bk BK360)) : gb360 ≠ gb365))
  have NB365_360 := ak ((by rw [hg]; exact Nat.ne_of_gt (blk_lt (bk BK360)) : gb365 ≠ gb360))
  replace BK360 := ak (blk_below (bk BK360) hb)
  have NB361_365 := ak ((by rw [hg]; exact Nat.ne_of_lt (blk_lt (bk BK361)) : gb361 ≠ gb365))
  have NB365_361 := ak ((by rw [hg]; exact Nat.ne_of_gt (blk_lt (bk BK361)) : gb365 ≠ gb361))
  replace BK361 := ak (blk_below (bk BK361) hb)
  clear hb hbox hg
  refine hK.out _ _ ⟨(blk_cell BK360.out 0).trans rfl, (blk_cell BK360.out 1).trans rfl⟩ (fun hHeld => ?_)
  clear hK K
  refine norm_ (a' := ?_) ?_ ?_
  rotate_left
  ·show Act.put _ (some 3) _ = _
   simp only [SX]
   rfl
  refine one_ (i := 5) (N := some 11) (ms 9 191) rfl rfl (one_of HT_.out (by kernel_rfl)) (by decide) (fun K hK => ?_)
  refine Kd.R_make0_step k60 _ 60 (by rfl) (N := 11) rfl 23 _ _ rfl (l0_1.length : Int) rfl rfl Try.underlying23 (.agg #[(.int .i64 0), (.int .i64 0), (.int .i64 0), (.int .i64 0), (.int .i64 0)]) 40 info60 (by decide) (ok := fun _ => True) trivial (by omega) (Nat.le_trans (Nat.mul_le_mul_right _ (oT (by (with_reducible assumption)) : (l0_1.length : Int).toNat ≤ 7036874417766)) (by omega)) (Below.refl _ _) (Nat.le_refl _) ?_
  intro v363 w7 ho8 hb hg_ hnew_
  clear hg_ hnew_
  (rw [← Ny362.out] at ho8)
  have HO364 := ak (Kd.R_lower ho8 (below_size (bl3 HB GE360 GE361 GE365)))
  replace BK360 := ak (blk_below (bk BK360) hb)
  replace BK361 := ak (blk_below (bk BK361) hb)
  replace BK365 := ak (blk_below (bk BK365) hb)
  replace HB := ak (below_step (bl3 HB GE360 GE361 GE365) hb)
  clear hb ho8
  obtain ⟨Ao9, co9, eo9⟩ := Kd.R_slice HO364.out
  (subst eo9)
  refine hK.out _ _ ⟨(blk_cell BK360.out 0).trans rfl, (blk_cell BK360.out 1).trans rfl⟩ (fun hHeld => ?_)
  clear hK K
  refine norm_ (a' := ?_) ?_ ?_
  rotate_left
  ·show Act.put _ (some 11) _ = _
   simp only [SX]
   rfl
  refine pu 6 12 ?_ (ms 9 255) rfl rfl HT_ (by kernel_rfl) (fun _ _ _ h => h) (by rfl) ?_ ?_ ?_ ?_
  rotate_left
  ·intro w'
   go_simp
   with_reducible rfl
  rotate_left
  ·simp only [SX]
   rfl
  exact norm_ (by simp only [putAll, Act.put, List.setIfInBounds_toArray, List.set_cons_zero, List.set_cons_succ]) (hCont (.slice Ao9 y362.length co9, gb365) _ ⟨hHeld, (rk HO364), (bk BK360), (bk BK361), (bk BK365), GW365.out, GE365.out, NB360_365.out, NB365_360.out, NB361_365.out, NB365_361.out, (bl3 HB GE360 GE361 GE365)⟩)
 rintro ⟨v363, gb365⟩ w10 ⟨hS_, h0_, h1_, h2_, h3_, h4_, h5_, h6_, h7_, h8_, h9_, h10_⟩
 have HO364 : Aside0 (Kd.R k60 60 w10 w.heap.size (fun _ => True) v363 y362) := ⟨h0_⟩
 replace BK360 : Aside0 (w10.heap[gb360]? = some (.cells #[.int .i64 a0_0, .slice A0_1 l0_1.length c0_1] 25 (0, 0))) := ⟨h1_⟩
 replace BK361 : Aside0 (w10.heap[gb361]? = some (.cells #[.int .i64 0, .slice none 0 0] 25 (0, 0))) := ⟨h2_⟩
 have BK365 : Aside0 (w10.heap[gb365]? = some (.cells #[.int .i64 0, .slice none 0 0] 25 (0, 0))) := ⟨h3_⟩
 have GW365 : Aside0 (w.heap.size ≤ gb365) := ⟨h4_⟩
 have GE365 : Aside0 (w.heap.size ≤ gb365) := ⟨h5_⟩
 have NB360_365 : Aside0 (gb360 ≠ gb365) := ⟨h6_⟩
 have NB365_360 : Aside0 (gb365 ≠ gb360) := ⟨h7_⟩
 have NB361_365 : Aside0 (gb361 ≠ gb365) := ⟨h8_⟩
 have NB365_361 : Aside0 (gb365 ≠ gb361) := ⟨h9_⟩
 replace HB : Aside0 (Below w.heap.size w w10) := ⟨h10_⟩
 clear h0_ h1_ h2_ h3_ h4_ h5_ h6_ h7_ h8_ h9_ h10_
 have hHeld : w10.cell? ⟨gb360, 0, none⟩ = some (.int .i64 a0_0) ∧ w10.cell? ⟨gb360, 1, none⟩ = some (.slice A0_1 l0_1.length c0_1) := hS_
 obtain ⟨Ao11, co11, eo11⟩ := Kd.R_slice HO364.out
 (subst eo11)
 refine norm_ (a' := ?_) ?_ ?_
 rotate_left
 ·simp only [putAll, Act.put, List.setIfInBounds_toArray, List.set_cons_zero, List.set_cons_succ]
  rfl
 refine one_ (i := 8) (N := none) (ms 9 511) rfl rfl (one_of HT_.out (by kernel_rfl)) (by decide) (fun K hK => ?_)
 have hs12 : w10.cell? ⟨gb365, 0, none⟩ = some (.int .i64 0) := (blk_cell BK365.out 0).trans rfl
 have hfs12 := blk_frozen BK365.out 0
 have hns12_0 := NB360_365.out
 have hns12_1 := NB361_365.out
 have hms12_0 := NB365_360.out
 have hms12_1 := NB365_361.out
 have hs13 : w10.cell? ⟨gb365, 1, none⟩ = some (.slice none 0 0) := (blk_cell BK365.out 1).trans rfl
 have hfs13 := blk_frozen BK365.out 1
 have hns13_0 := NB360_365.out
 have hns13_1 := NB361_365.out
 have hms13_0 := NB365_360.out
 have hms13_1 := NB365_361.out
 refine skip_ (w1 := ?_) (by rfl) rfl ?_ ?_
 rotate_left
 ·go_simp
  rfl
 refine hK.out _ _ ⟨((cell_far (p := ⟨gb365, _, none⟩) NB360_365.out _).trans (((cell_far (p := ⟨gb365, _, none⟩) NB360_365.out _).trans (hHeld.1)))), ((cell_far (p := ⟨gb365, _, none⟩) NB360_365.out _).trans (((cell_far (p := ⟨gb365, _, none⟩) NB360_365.out _).trans (hHeld.2))))⟩ (fun hHeld => ?_)
 clear hK K
 refine done_ (done_of HT_.out (by kernel_rfl)) ?_
 have hnb14 := NB360_361.out
 have hnc14 := NB361_360.out
 have hnb15 := NB360_365.out
 have hnc15 := NB365_360.out
 have hcz16_0 := bc w10 BK360 0 (.int .i64 a0_0) rfl
 have hcz16_1 := bc w10 BK360 1 (.slice A0_1 l0_1.length c0_1) rfl
 have hfz16_0 := fz BK360 0
 have hfz16_1 := fz BK360 1
 try go_wp2
 go_loopg [16] k (fun kq v16 w' => ∃ (x16_1 : Int) (x366001_1 : List (S60)) (u366001 : Value), v16 = .int .i64 x16_1 ∧ Aside0 (impl_Net_back.l0 kq l0_1 (l0_1.length : Int) x16_1 a0_0 x366001_1 = some (r1, r2)) ∧ Aside0 (kq ≤ k) ∧ Aside0 (Kd.R k60 60 w' w.heap.size (fun _ => True) u366001 x366001_1) ∧ Aside0 (w'.heap[gb360]? = some (.cells #[.int .i64 a0_0, (.slice A0_1 l0_1.length c0_1)] 25 (0, 0))) ∧ Aside0 (w'.heap[gb361]? = some (.cells #[.int .i64 0, (.slice none 0 0)] 25 (0, 0))) ∧ Aside0 (w'.heap[gb365]? = some (.cells #[.int .i64 a0_0, u366001] 25 (0, 0))) ∧ Aside0 (Below w.heap.size w w'))
 case atStart => exact ⟨(0), (y362), (.slice Ao11 y362.length co11), (by rfl), H', ⟨Nat.le_refl _⟩, ⟨by exact Kd.R_mono (Kd.R_far (p := ⟨gb365, 1, none⟩) (Kd.R_far (p := ⟨gb365, 0, none⟩) (Kd.R_types HO364.out BK365.out (by decide)) (fun _ hk => hk.2) (.int .i64 a0_0)) (fun _ hk => hk.2) (.slice Ao11 y362.length co11)) (fun _ hk => trivial)⟩, ⟨by refine blk_far ?_ NB360_365.out _; refine blk_far ?_ NB360_365.out _; exact BK360.out⟩, ⟨by refine blk_far ?_ NB361_365.out _; refine blk_far ?_ NB361_365.out _; exact BK361.out⟩, ⟨by refine blk_put (cs := #[.int .i64 a0_0, .slice none 0 0]) ?_ 1 _ rfl; refine blk_put (cs := #[.int .i64 0, .slice none 0 0]) ?_ 0 _ rfl; exact BK365.out⟩, ⟨bl3 HB GE360 GE361 GE365⟩⟩
 clear H'
 try clear c1
 try clear c2
 try clear c2b0
 try clear c2b1
 try clear p2
 try clear c5
 try clear c14
 try clear c15
 try clear hcz16_0
 try clear hcz16_1
 try clear hfz16_0
 try clear hfz16_1
 obtain ⟨x16_1, x366001_1, u366001, rfl, HA, HK1, HO_366001, BK360, BK361, BK365, HB⟩ := hrel
 cases gk with
 | zero => exact absurd HA.out (by simp [impl_Net_back.l0])
 | succ k1 =>
  have H := HA.out
  clear HA
  simp only [impl_Net_back.l0] at H
  by_cases c17 : x16_1 < (l0_1.length : Int)
  rotate_left
  ·rw [if_neg c17] at H
   have c17b0 : decide (x16_1 < (l0_1.length : Int)) = false := decide_eq_false c17
   clear c17
   simp only [Option.some.injEq, Prod.mk.injEq] at H
   obtain ⟨rfl, rfl⟩ := H
   have hnb32 := NB365_360.out
   have hnc32 := NB360_365.out
   have hnb33 := NB365_361.out
   have hnc33 := NB361_365.out
   have hcz34_0 := bc wr BK365 0 (.int .i64 a0_0) rfl
   have hcz34_1 := bc wr BK365 1 (u366001) rfl
   have hfz34_0 := fz BK365 0
   have hfz34_1 := fz BK365 1
   have hnb35 := NB361_360.out
   have hnc35 := NB360_361.out
   have hcz36_0 := bc wr BK361 0 (.int .i64 0) rfl
   have hcz36_1 := bc wr BK361 1 (.slice none 0 0) rfl
   have hfz36_0 := fz BK361 0
   have hfz36_1 := fz BK361 1
   obtain ⟨Ao37, co37, eo37⟩ := Kd.R_slice HO_366001.out
   subst eo37
   go_wp2
   refine bodyPost_ret (results_cell_row rfl _ _ gb361 25 #[.int .i64 a0_0, .slice Ao37 x366001_1.length co37] (0, 0) _ rfl (by refine blk_put (cs := #[.int .i64 a0_0, .slice none 0 0]) ?_ 1 _ rfl; refine blk_put (cs := #[.int .i64 0, .slice none 0 0]) ?_ 0 _ rfl; exact BK361.out) Try.underlying25 rfl (by kernel_rfl)) rfl ?_
   exact ⟨_, by rfl, by exact Kd.R_mono (Kd.R_far (p := ⟨gb361, 1, none⟩) (Kd.R_far (p := ⟨gb361, 0, none⟩) (Kd.R_types HO_366001.out BK361.out (by decide)) (fun _ hk => hk.2) (.int .i64 a0_0)) (fun _ hk => hk.2) (.slice Ao37 x366001_1.length co37)) (fun _ hk => trivial), bl3 HB GE360 GE361 GE365⟩
  rw [if_pos c17] at H
  have c17b0 : decide (x16_1 < (l0_1.length : Int)) = true := decide_eq_true c17
  clear c17
  by_cases c18 : 0 ≤ x16_1
  rotate_left
  ·rw [if_neg c18] at H
   exact absurd H (by simp)
  rw [if_pos c18] at H
  have c18b0 : decide (0 ≤ x16_1) = true := decide_eq_true c18
  clear c18
  by_cases c19 : x16_1 < (l0_1.length : Int)
  rotate_left
  ·rw [if_neg c19] at H
   exact absurd H (by simp)
  rw [if_pos c19] at H
  have c19b0 : decide (x16_1 < (l0_1.length : Int)) = true := decide_eq_true c19
  clear c19
  by_cases c20 : x366001_1.length < 3518437208883
  rotate_left
  ·rw [if_neg c20] at H
   exact absurd H (by simp)
  rw [if_pos c20] at H
  have LMc20 := ak c20
  clear c20
  obtain ⟨y368, hy368⟩ : ∃ y_ : List (S60), y_ = (x366001_1 ++ [(⟨(rd_T60 l0_1 x16_1).f1, (rd_T60 l0_1 x16_1).f0, (rd_T60 l0_1 x16_1).f2, (rd_T60 l0_1 x16_1).f3, (rd_T60 l0_1 x16_1).f4⟩ : S60)]) := ⟨_, rfl⟩
  replace H : (impl_Net_back.l0 k1 l0_1 (l0_1.length : Int) (wrap64 (x16_1 + 1)) a0_0 y368) = some (r1, r2) := by (rw [hy368]; with_reducible exact H)
  have Ny368 := ak hy368
  clear hy368
  have H' := ak H
  clear H
  have p366 : 0 ≤ (x16_1 : Int) := oT (by (with_reducible assumption))
  have q366 : x16_1 < (l0_1.length : Int) := oT (by (with_reducible assumption))
  obtain ⟨ad366, e366, hx366_0, hx366_1, hx366_2, hx366_3, hx366_4⟩ := at_T60 HR0_1.out x16_1 p366 q366
  cases e366
  replace hx366_0 := hcb HB.out hx366_0
  replace hx366_1 := hcb HB.out hx366_1
  replace hx366_2 := hcb HB.out hx366_2
  replace hx366_3 := hcb HB.out hx366_3
  replace hx366_4 := hcb HB.out hx366_4
  replace p366 := eq_true p366
  replace q366 := eq_true q366
  go_wp2_with (first | ((with_reducible refine gate_dst (N := 5) rfl ?_); refine box_event ?hg (N := 5) ?hd (cs := #[.int .i64 0, .int .i64 0, .int .i64 0, .int .i64 0, .int .i64 0]) (t := 60) ?hr ?_; (case hd => rfl); (case hg => rfl); (case hr => (go_simp; done)); intro gb367 hg w21 hbox hb; replace HO_366001 := ak (Kd.R_below (Kd.R_elderB (rk HO_366001) gb367 (Nat.le_of_eq hg.symm)) hb); have BK367 := ak (hbox); have GW367 := ak ((by rw [hg]; exact (below_size (bl3 HB GE360 GE361 GE365)) : w.heap.size ≤ gb367)); have GE367 := ak ((by rw [hg]; exact (below_size (bl3 HB GE360 GE361 GE365)) : w.heap.size ≤ gb367)); replace HB := ak (below_step (bl3 HB GE360 GE361 GE365) hb); have NB360_367 := ak ((by rw [hg]; exact Nat.ne_of_lt (blk_lt (bk BK360)) : gb360 ≠ gb367)); have NB367_360 := ak ((by rw [hg]; exact Nat.ne_of_gt (blk_lt (bk BK360)) : gb367 ≠ gb360)); replace BK360 := ak (blk_below (bk BK360) hb); have NB361_367 := ak ((by rw [hg]; exact Nat.ne_of_lt (blk_lt (bk BK361)) : gb361 ≠ gb367)); have NB367_361 := ak ((by rw [hg]; exact Nat.ne_of_gt (blk_lt (bk BK361)) : gb367 ≠ gb361)); replace BK361 := ak (blk_below (bk BK361) hb); have NB365_367 := ak ((by rw [hg]; exact Nat.ne_of_lt (blk_lt (bk BK365)) : gb365 ≠ gb367)); have NB367_365 := ak ((by rw [hg]; exact Nat.ne_of_gt (blk_lt (bk BK365)) : gb367 ≠ gb365)); replace BK365 := ak (blk_below (bk BK365) hb); clear hb hbox hg; have hnb22 := NB367_360.out; have hnc22 := NB360_367.out; have hnb23 := NB367_361.out; have hnc23 := NB361_367.out; have hnb24 := NB367_365.out; have hnc24 := NB365_367.out; have hcz25_0 := bc w21 BK367 0 (.int .i64 0) rfl; have hcz25_1 := bc w21 BK367 1 (.int .i64 0) rfl; have hcz25_2 := bc w21 BK367 2 (.int .i64 0) rfl; have hcz25_3 := bc w21 BK367 3 (.int .i64 0) rfl; have hcz25_4 := bc w21 BK367 4 (.int .i64 0) rfl; have hfz25_0 := fz BK367 0; have hfz25_1 := fz BK367 1; have hfz25_2 := fz BK367 2; have hfz25_3 := fz BK367 3; have hfz25_4 := fz BK367 4; have hnb26 := NB365_360.out; have hnc26 := NB360_365.out; have hnb27 := NB365_361.out; have hnc27 := NB361_365.out; have hcz28_0 := bc w21 BK365 0 (.int .i64 a0_0) rfl; have hcz28_1 := bc w21 BK365 1 (u366001) rfl; have hfz28_0 := fz BK365 0; have hfz28_1 := fz BK365 1) | ((with_reducible refine gate_dst (N := 28) rfl ?_); (fail_if_success clear hW_); refine impl_Net_back.fix_world (g := gb367) (o := .cells #[.int .i64 ((rd_T60 l0_1 x16_1).f1), .int .i64 ((rd_T60 l0_1 x16_1).f0), .int .i64 ((rd_T60 l0_1 x16_1).f2), .int .i64 ((rd_T60 l0_1 x16_1).f3), .int .i64 ((rd_T60 l0_1 x16_1).f4)] 60 (0, 0)) (by refine blk_put (cs := #[.int .i64 ((rd_T60 l0_1 x16_1).f1), .int .i64 ((rd_T60 l0_1 x16_1).f1), .int .i64 ((rd_T60 l0_1 x16_1).f2), .int .i64 ((rd_T60 l0_1 x16_1).f3), .int .i64 ((rd_T60 l0_1 x16_1).f4)]) ?_ 1 _ rfl; refine blk_put (cs := #[.int .i64 ((rd_T60 l0_1 x16_1).f0), .int .i64 ((rd_T60 l0_1 x16_1).f1), .int .i64 ((rd_T60 l0_1 x16_1).f2), .int .i64 ((rd_T60 l0_1 x16_1).f3), .int .i64 ((rd_T60 l0_1 x16_1).f4)]) ?_ 0 _ rfl; refine blk_put (cs := #[.int .i64 ((rd_T60 l0_1 x16_1).f0), .int .i64 ((rd_T60 l0_1 x16_1).f1), .int .i64 ((rd_T60 l0_1 x16_1).f2), .int .i64 ((rd_T60 l0_1 x16_1).f3), .int .i64 0]) ?_ 4 _ rfl; refine blk_put (cs := #[.int .i64 ((rd_T60 l0_1 x16_1).f0), .int .i64 ((rd_T60 l0_1 x16_1).f1), .int .i64 ((rd_T60 l0_1 x16_1).f2), .int .i64 0, .int .i64 0]) ?_ 3 _ rfl; refine blk_put (cs := #[.int .i64 ((rd_T60 l0_1 x16_1).f0), .int .i64 ((rd_T60 l0_1 x16_1).f1), .int .i64 0, .int .i64 0, .int .i64 0]) ?_ 2 _ rfl; refine blk_put (cs := #[.int .i64 ((rd_T60 l0_1 x16_1).f0), .int .i64 0, .int .i64 0, .int .i64 0, .int .i64 0]) ?_ 1 _ rfl; refine blk_put (cs := #[.int .i64 0, .int .i64 0, .int .i64 0, .int .i64 0, .int .i64 0]) ?_ 0 _ rfl; exact BK367.out) ?_; intro W_ hW_ hBW_; have hcw_0 : W_.cell? ⟨gb367, 0, none⟩ = some (.int .i64 ((rd_T60 l0_1 x16_1).f1)) := (blk_cell hBW_ 0).trans rfl; have hcw_1 : W_.cell? ⟨gb367, 1, none⟩ = some (.int .i64 ((rd_T60 l0_1 x16_1).f0)) := (blk_cell hBW_ 1).trans rfl; have hcw_2 : W_.cell? ⟨gb367, 2, none⟩ = some (.int .i64 ((rd_T60 l0_1 x16_1).f2)) := (blk_cell hBW_ 2).trans rfl; have hcw_3 : W_.cell? ⟨gb367, 3, none⟩ = some (.int .i64 ((rd_T60 l0_1 x16_1).f3)) := (blk_cell hBW_ 3).trans rfl; have hcw_4 : W_.cell? ⟨gb367, 4, none⟩ = some (.int .i64 ((rd_T60 l0_1 x16_1).f4)) := (blk_cell hBW_ 4).trans rfl) | ((with_reducible refine gate_dst (N := 29) rfl ?_); clear hBW_ hcw_0 hcw_1 hcw_2 hcw_3 hcw_4; subst hW_) | ((with_reducible refine gate_builtin (b := .append) (xs := #[.tmp 27, .tmp 29]) rfl ?_); at_builtin; refine Kd.R_append k60 (w0 := w) w.heap.size rfl (.tmp 27) (.tmp 29) 23 60 (.agg #[(.int .i64 0), (.int .i64 0), (.int .i64 0), (.int .i64 0), (.int .i64 0)]) 40 rfl Try.underlying23 info60 rfl (by decide) (by omega) u366001 x366001_1 (⟨(rd_T60 l0_1 x16_1).f1, (rd_T60 l0_1 x16_1).f0, (rd_T60 l0_1 x16_1).f2, (rd_T60 l0_1 x16_1).f3, (rd_T60 l0_1 x16_1).f4⟩ : S60) [.int .i64 ((rd_T60 l0_1 x16_1).f1), .int .i64 ((rd_T60 l0_1 x16_1).f0), .int .i64 ((rd_T60 l0_1 x16_1).f2), .int .i64 ((rd_T60 l0_1 x16_1).f3), .int .i64 ((rd_T60 l0_1 x16_1).f4)] (fun k_ => k_ ≠ gb367) (fun _ => False) rfl (by (go_simp; done)) ?aP (fun _ hk => hk.elim) ?aF ?aO ?aB ?aS ?aL ?_; (case aP => exact k60_mkM _ _ _ (⟨(rd_T60 l0_1 x16_1).f1, (rd_T60 l0_1 x16_1).f0, (rd_T60 l0_1 x16_1).f2, (rd_T60 l0_1 x16_1).f3, (rd_T60 l0_1 x16_1).f4⟩ : S60)); (case aB => exact (bl4 HB GE360 GE361 GE365 GE367)); (case aF => exact (fun k_ hk => Kd.freshB (g := gb367) (o := .cells #[.int .i64 ((rd_T60 l0_1 x16_1).f1), .int .i64 ((rd_T60 l0_1 x16_1).f0), .int .i64 ((rd_T60 l0_1 x16_1).f2), .int .i64 ((rd_T60 l0_1 x16_1).f3), .int .i64 ((rd_T60 l0_1 x16_1).f4)] 60 (0, 0)) (by refine blk_put (cs := #[.int .i64 ((rd_T60 l0_1 x16_1).f1), .int .i64 ((rd_T60 l0_1 x16_1).f1), .int .i64 ((rd_T60 l0_1 x16_1).f2), .int .i64 ((rd_T60 l0_1 x16_1).f3), .int .i64 ((rd_T60 l0_1 x16_1).f4)]) ?_ 1 _ rfl; refine blk_put (cs := #[.int .i64 ((rd_T60 l0_1 x16_1).f0), .int .i64 ((rd_T60 l0_1 x16_1).f1), .int .i64 ((rd_T60 l0_1 x16_1).f2), .int .i64 ((rd_T60 l0_1 x16_1).f3), .int .i64 ((rd_T60 l0_1 x16_1).f4)]) ?_ 0 _ rfl; refine blk_put (cs := #[.int .i64 ((rd_T60 l0_1 x16_1).f0), .int .i64 ((rd_T60 l0_1 x16_1).f1), .int .i64 ((rd_T60 l0_1 x16_1).f2), .int .i64 ((rd_T60 l0_1 x16_1).f3), .int .i64 0]) ?_ 4 _ rfl; refine blk_put (cs := #[.int .i64 ((rd_T60 l0_1 x16_1).f0), .int .i64 ((rd_T60 l0_1 x16_1).f1), .int .i64 ((rd_T60 l0_1 x16_1).f2), .int .i64 0, .int .i64 0]) ?_ 3 _ rfl; refine blk_put (cs := #[.int .i64 ((rd_T60 l0_1 x16_1).f0), .int .i64 ((rd_T60 l0_1 x16_1).f1), .int .i64 0, .int .i64 0, .int .i64 0]) ?_ 2 _ rfl; refine blk_put (cs := #[.int .i64 ((rd_T60 l0_1 x16_1).f0), .int .i64 0, .int .i64 0, .int .i64 0, .int .i64 0]) ?_ 1 _ rfl; refine blk_put (cs := #[.int .i64 0, .int .i64 0, .int .i64 0, .int .i64 0, .int .i64 0]) ?_ 0 _ rfl; exact BK367.out) k_ hk)); (case aO => exact (by exact Kd.R_mono (Kd.R_far (p := ⟨gb367, 1, none⟩) (Kd.R_far (p := ⟨gb367, 0, none⟩) (Kd.R_far (p := ⟨gb367, 4, none⟩) (Kd.R_far (p := ⟨gb367, 3, none⟩) (Kd.R_far (p := ⟨gb367, 2, none⟩) (Kd.R_far (p := ⟨gb367, 1, none⟩) (Kd.R_far (p := ⟨gb367, 0, none⟩) (Kd.R_mono HO_366001.out (fun k_ hk => (⟨hk, hk.2⟩ : _ ∧ k_ ≠ gb367))) (fun _ hk => hk.2) (.int .i64 ((rd_T60 l0_1 x16_1).f0))) (fun _ hk => hk.2) (.int .i64 ((rd_T60 l0_1 x16_1).f1))) (fun _ hk => hk.2) (.int .i64 ((rd_T60 l0_1 x16_1).f2))) (fun _ hk => hk.2) (.int .i64 ((rd_T60 l0_1 x16_1).f3))) (fun _ hk => hk.2) (.int .i64 ((rd_T60 l0_1 x16_1).f4))) (fun _ hk => hk.2) (.int .i64 ((rd_T60 l0_1 x16_1).f1))) (fun _ hk => hk.2) (.int .i64 ((rd_T60 l0_1 x16_1).f0))) (fun _ hk => hk.1.2))); (case aS => exact (below_size (bl4 HB GE360 GE361 GE365 GE367))); (case aL => have := LMc20.out; omega); intro v369 w29 ho hb hg hat; rw [← Ny368.out] at ho; have n0_ := ak (blk_grown (g := gb360) (o := .cells #[.int .i64 a0_0, .slice (some ad366) l0_1.length c0_1] 25 (0, 0)) (by refine blk_far ?_ NB360_367.out _; refine blk_far ?_ NB360_367.out _; refine blk_far ?_ NB360_367.out _; refine blk_far ?_ NB360_367.out _; refine blk_far ?_ NB360_367.out _; refine blk_far ?_ NB360_367.out _; refine blk_far ?_ NB360_367.out _; exact BK360.out) hg (Kd.R_ne HO_366001.out BK360.out (by decide))); have n1_ := ak (blk_grown (g := gb361) (o := .cells #[.int .i64 0, .slice none 0 0] 25 (0, 0)) (by refine blk_far ?_ NB361_367.out _; refine blk_far ?_ NB361_367.out _; refine blk_far ?_ NB361_367.out _; refine blk_far ?_ NB361_367.out _; refine blk_far ?_ NB361_367.out _; refine blk_far ?_ NB361_367.out _; refine blk_far ?_ NB361_367.out _; exact BK361.out) hg (Kd.R_ne HO_366001.out BK361.out (by decide))); have n2_ := ak (blk_grown (g := gb365) (o := .cells #[.int .i64 a0_0, u366001] 25 (0, 0)) (by refine blk_far ?_ NB365_367.out _; refine blk_far ?_ NB365_367.out _; refine blk_far ?_ NB365_367.out _; refine blk_far ?_ NB365_367.out _; refine blk_far ?_ NB365_367.out _; refine blk_far ?_ NB365_367.out _; refine blk_far ?_ NB365_367.out _; exact BK365.out) hg (Kd.R_ne HO_366001.out BK365.out (by decide))); have n3_ := ak (blk_grown (g := gb367) (o := .cells #[.int .i64 ((rd_T60 l0_1 x16_1).f1), .int .i64 ((rd_T60 l0_1 x16_1).f0), .int .i64 ((rd_T60 l0_1 x16_1).f2), .int .i64 ((rd_T60 l0_1 x16_1).f3), .int .i64 ((rd_T60 l0_1 x16_1).f4)] 60 (0, 0)) (by refine blk_put (cs := #[.int .i64 ((rd_T60 l0_1 x16_1).f1), .int .i64 ((rd_T60 l0_1 x16_1).f1), .int .i64 ((rd_T60 l0_1 x16_1).f2), .int .i64 ((rd_T60 l0_1 x16_1).f3), .int .i64 ((rd_T60 l0_1 x16_1).f4)]) ?_ 1 _ rfl; refine blk_put (cs := #[.int .i64 ((rd_T60 l0_1 x16_1).f0), .int .i64 ((rd_T60 l0_1 x16_1).f1), .int .i64 ((rd_T60 l0_1 x16_1).f2), .int .i64 ((rd_T60 l0_1 x16_1).f3), .int .i64 ((rd_T60 l0_1 x16_1).f4)]) ?_ 0 _ rfl; refine blk_put (cs := #[.int .i64 ((rd_T60 l0_1 x16_1).f0), .int .i64 ((rd_T60 l0_1 x16_1).f1), .int .i64 ((rd_T60 l0_1 x16_1).f2), .int .i64 ((rd_T60 l0_1 x16_1).f3), .int .i64 0]) ?_ 4 _ rfl; refine blk_put (cs := #[.int .i64 ((rd_T60 l0_1 x16_1).f0), .int .i64 ((rd_T60 l0_1 x16_1).f1), .int .i64 ((rd_T60 l0_1 x16_1).f2), .int .i64 0, .int .i64 0]) ?_ 3 _ rfl; refine blk_put (cs := #[.int .i64 ((rd_T60 l0_1 x16_1).f0), .int .i64 ((rd_T60 l0_1 x16_1).f1), .int .i64 0, .int .i64 0, .int .i64 0]) ?_ 2 _ rfl; refine blk_put (cs := #[.int .i64 ((rd_T60 l0_1 x16_1).f0), .int .i64 0, .int .i64 0, .int .i64 0, .int .i64 0]) ?_ 1 _ rfl; refine blk_put (cs := #[.int .i64 0, .int .i64 0, .int .i64 0, .int .i64 0, .int .i64 0]) ?_ 0 _ rfl; exact BK367.out) hg (Kd.R_away HO_366001.out (fun _ hk => hk.2))); have n4_ := ak (hb); have n5_ := ak (ho); clear BK360; clear BK361; clear BK365; clear BK367; clear HB; clear HO_366001; have BK360 := n0_; have BK361 := n1_; have BK365 := n2_; have BK367 := n3_; have HB := n4_; have HO370 := n5_; clear n0_ n1_ n2_ n3_ n4_ n5_; clear ho hb hg hat; obtain ⟨Ao30, co30, eo30⟩ := Kd.R_slice HO370.out; subst eo30; have hcz31_0 := bc w29 BK365 0 (.int .i64 a0_0) rfl; have hcz31_1 := bc w29 BK365 1 (u366001) rfl; have hfz31_0 := fz BK365 0; have hfz31_1 := fz BK365 1))
  go_roundg k1
  case measure => have := HK1.out; omega
  case rel => exact ⟨(wrap64 (x16_1 + 1)), (y368), (.slice Ao30 y368.length co30), (by rfl), H', ⟨by have := HK1.out; omega⟩, ⟨by exact Kd.R_mono (Kd.R_far (p := ⟨gb365, 1, none⟩) (Kd.R_types HO370.out BK365.out (by decide)) (fun _ hk => hk.2) (.slice Ao30 y368.length co30)) (fun _ hk => trivial)⟩, ⟨by refine blk_far ?_ NB360_365.out _; exact BK360.out⟩, ⟨by refine blk_far ?_ NB361_365.out _; exact BK361.out⟩, ⟨by refine blk_put (cs := #[.int .i64 a0_0, u366001]) ?_ 1 _ rfl; exact BK365.out⟩, ⟨bl4 HB GE360 GE361 GE365 GE367⟩⟩

end Go.Proofs.Ytjnbhieppghidaa.F
