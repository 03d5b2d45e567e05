-- Printed by wip/px/px.py of this claim's repository (the kit's printer, extended there). Lean checks it.
import Derived.Test.YtbcedkcjodokkaaFKinds
import Derived.Test.YtbcedkcjodokkaaFspecl1Copy
namespace Go.Proofs.Ytbcedkcjodokkaa.F
open Go.RowKit Go.Proofs.YtbcedkcjodokkaaW.PrintWords Go.Proofs.YtbcedkcjodokkaaW.PrintLast Go.Proofs.YtbcedkcjodokkaaW.PrintMore
attribute [local go_sem] max2_int min2_int max_two min_two max_three min_three max_four min_four   -- for this text's walks alone
set_option linter.unusedVariables false
set_option linter.unusedSimpArgs false

/-! ### spec_l16Copy: function 23 -/
def spec_l16Copy.f (a0_0 : Int) (l0_1 : List (S65)) (l0_2 : List (S30)) : Option (Int × (List (S65)) × (List (S30))) := (spec_l1Copy.f a0_0 l0_1).bind fun bt131 => ((some (([] : List (S30)) : List (S30))).bind fun y135 => (if y135.length + l0_2.length < 5864062014805 then (some (bt131.1, bt131.2, (y135 ++ l0_2))) else (none)))
def spec_l16Copy.T1 : Bool × List (List Nat × List Nat) := (true, [([], []), ([0], [0]), ([1], [1]), ([], []), ([], []), ([4], [4]), ([3, 5, 2], [3, 5]), ([2, 6], [2, 6]), ([7, 6, 0, 1, 2, 3, 4, 5, 6, 7], [7])])
def spec_l16Copy.B1 : List Nat := [0, 1, 3, 0, 0, 16, 63, 127, 255]
theorem spec_l16Copy.tab1 : rtab .any (opsOf Try.f23 1) = spec_l16Copy.T1 := by kernel_rfl
theorem spec_l16Copy.bits1 : waitsOk spec_l16Copy.T1.2 spec_l16Copy.B1 = true := by kernel_rfl
set_option maxHeartbeats 8000000 in
set_option maxRecDepth 100000 in
theorem spec_l16Copy.calls (a0_0 : Int) (A0_1 : Option Addr) (c0_1 : Nat) (l0_1 : List (S65)) (A0_2 : Option Addr) (c0_2 : Nat) (l0_2 : List (S30)) (r1 : Int) (r2 : List (S65)) (r3 : List (S30)) (w : World) (hr0_1 : Kd.C k65 w A0_1 l0_1.length l0_1) (hc0_1 : l0_1.length ≤ c0_1) (hr0_2 : Kd.C k30 w A0_2 l0_2.length l0_2) (hc0_2 : l0_2.length ≤ c0_2) (h : spec_l16Copy.f a0_0 l0_1 l0_2 = some (r1, r2, r3)) :
  Calls Try.prog 23 #[.agg #[.int .i64 a0_0, .slice A0_1 l0_1.length c0_1, .slice A0_2 l0_2.length c0_2]] w fun e w' => ∃ v1_ v2_ : Value, e = .returned (.agg #[.int .i64 r1, v1_, v2_]) ∧ Kd.R k65 65 w' w.heap.size (fun _ => True) v1_ r2 ∧ Kd.R k30 30 w' w.heap.size (fun _ => True) v2_ r3 ∧ Below w.heap.size w w' := by
 have hu28 := Try.underlying28
 have hu25 := Try.underlying25
 have HR0_1 := ak hr0_1
 have HC0_1 := ak hc0_1
 clear hr0_1 hc0_1
 have HR0_2 := ak hr0_2
 have HC0_2 := ak hc0_2
 clear hr0_2 hc0_2
 have HB := ak (Below.refl w.heap.size w)
 have H : ((spec_l1Copy.f a0_0 l0_1).bind fun bt131 => ((some (([] : List (S30)) : List (S30))).bind fun y135 => (if y135.length + l0_2.length < 5864062014805 then (some (bt131.1, bt131.2, (y135 ++ l0_2))) else (none)))) = some (r1, r2, r3) := h
 clear h
 replace H := Option.bind_eq_some_iff.mp H
 obtain ⟨⟨t131, t132⟩, A20, H⟩ := H
 have A2 := ak A20
 clear A20
 obtain ⟨y135, hy135⟩ : ∃ y_ : List (S30), y_ = (([] : List (S30))) := ⟨_, rfl⟩
 replace H : (if y135.length + l0_2.length < 5864062014805 then (some (t131, t132, (y135 ++ l0_2))) else (none)) = some (r1, r2, r3) := by (have H2_ := (Option.bind_some _ _).symm.trans H; rw [hy135]; with_reducible exact H2_)
 have Ny135 := ak hy135
 clear hy135
 by_cases c3 : y135.length + l0_2.length < 5864062014805
 rotate_left
 ·rw [if_neg c3] at H
  exact absurd H (by simp)
 rw [if_pos c3] at H
 have LMc3 := ak c3
 clear c3
 obtain ⟨y138, hy138⟩ : ∃ y_ : List (S30), y_ = (y135 ++ l0_2) := ⟨_, rfl⟩
 replace H : (some (t131, t132, y138)) = some (r1, r2, r3) := by (rw [hy138]; with_reducible exact H)
 have Ny138 := ak hy138
 clear hy138
 simp only [Option.some.injEq, Prod.mk.injEq] at H
 obtain ⟨rfl, rfl, rfl⟩ := H
 go_enter Try.func23, Try.ntmps23
 try go_wp2_with (first | ((with_reducible refine gate_dst (N := 1) rfl ?_); refine box_event ?hg (N := 1) ?hd (cs := #[.int .i64 a0_0, .slice A0_1 l0_1.length c0_1, .slice A0_2 l0_2.length c0_2]) (t := 28) ?hr ?_; (case hd => rfl); (case hg => rfl); (case hr => (go_simp; done)); intro gb129 hg w4 hbox hb; have BK129 := ak (hbox); have GW129 := ak ((by rw [hg]; exact (below_size (bl HB)) : w.heap.size ≤ gb129)); have GE129 := ak ((by rw [hg]; exact (below_size (bl HB)) : w.heap.size ≤ gb129)); replace HB := ak (below_step (bl HB) hb); clear hb hbox hg) | ((with_reducible refine gate_dst (N := 2) rfl ?_); refine box_event ?hg (N := 2) ?hd (cs := #[.int .i64 0, .slice none 0 0, .slice none 0 0]) (t := 28) ?hr ?_; (case hd => rfl); (case hg => rfl); (case hr => (go_simp; done)); intro gb130 hg w5 hbox hb; have BK130 := ak (hbox); have GW130 := ak ((by rw [hg]; exact (below_size (bl1 HB GE129)) : w.heap.size ≤ gb130)); have GE130 := ak ((by rw [hg]; exact (below_size (bl1 HB GE129)) : w.heap.size ≤ gb130)); replace HB := ak (below_step (bl1 HB GE129) hb); have NB129_130 := ak ((by rw [hg]; exact Nat.ne_of_lt (blk_lt (bk BK129)) : gb129 ≠ gb130)); have NB130_129 := ak ((by rw [hg]; exact Nat.ne_of_gt (blk_lt (bk BK129)) : gb130 ≠ gb129)); replace BK129 := ak (blk_below (bk BK129) hb); clear hb hbox hg))
 replace BK129 := ak (blk_drew BK129.out)
 replace BK130 := ak (blk_drew BK130.out)
 replace HB := ak (below_drew1 HB.out)
 refine start_ (n := 9) (S := fun w' => w'.cell? ⟨gb129, 0, none⟩ = some (.int .i64 a0_0) ∧ w'.cell? ⟨gb129, 1, none⟩ = some (.slice A0_1 l0_1.length c0_1) ∧ w'.cell? ⟨gb129, 2, none⟩ = some (.slice A0_2 l0_2.length c0_2)) (ds := []) (ms 9 0) (by kernel_rfl) rfl (by kernel_rfl) ⟨(blk_cell BK129.out 0).trans rfl, (blk_cell BK129.out 1).trans rfl, (blk_cell BK129.out 2).trans rfl⟩ (fun hHeld => ?_); refine with_tabW spec_l16Copy.tab1 spec_l16Copy.bits1 (fun HT_ HW_ => ?_)
 generalize w5.drew = w6 at BK129 BK130 HB hHeld ⊢
 refine pu 0 3 ?_ (ms 9 1) rfl rfl HT_ (by kernel_rfl) (fun _ _ _ h => h) (by rfl) ?_ ?_ ?_ ?_
 rotate_left
 ·intro w'
  go_simp
  with_reducible rfl
 rotate_left
 ·simp only [SX]
  rfl
 refine pu 4 7 ?_ (ms 9 17) rfl rfl HT_ (by kernel_rfl) (fun _ _ _ h => h) (by rfl) ?_ ?_ ?_ ?_
 rotate_left
 ·intro w'
  go_simp
  with_reducible rfl
 rotate_left
 ·simp only [SX]
  rfl
 refine tk 1 4 ?_ (ms 9 19) rfl rfl HT_ HW_ (by kernel_rfl) (fun _ _ _ h => h) (by rfl) ?_ hHeld ?_ ?_ ?_
 rotate_left
 ·rintro w' ⟨s0, s1, s2⟩
  go_simp
  with_reducible rfl
 rotate_left
 ·simp only [SX]
  rfl
 refine tk 5 8 ?_ (ms 9 51) rfl rfl HT_ HW_ (by kernel_rfl) (fun _ _ _ h => h) (by rfl) ?_ hHeld ?_ ?_ ?_
 rotate_left
 ·rintro w' ⟨s0, s1, s2⟩
  go_simp
  with_reducible rfl
 rotate_left
 ·simp only [SX]
  rfl
 refine join_ (σ := Value × Value) 3 (ms 9 63) (fun s_ => [(5, .agg #[.int .i64 t131, s_.1]), (6, s_.2)]) (fun s_ w' => (w'.cell? ⟨gb129, 0, none⟩ = some (.int .i64 a0_0) ∧ w'.cell? ⟨gb129, 1, none⟩ = some (.slice A0_1 l0_1.length c0_1) ∧ w'.cell? ⟨gb129, 2, none⟩ = some (.slice A0_2 l0_2.length c0_2)) ∧ (Kd.R k65 65 w' w.heap.size (fun _ => True) s_.1 t132) ∧ (Kd.R k30 30 w' w.heap.size (fun _ => True) s_.2 y135) ∧ (w'.heap[gb129]? = some (.cells #[.int .i64 a0_0, .slice A0_1 l0_1.length c0_1, .slice A0_2 l0_2.length c0_2] 28 (0, 0))) ∧ (w'.heap[gb130]? = some (.cells #[.int .i64 0, .slice none 0 0, .slice none 0 0] 28 (0, 0))) ∧ (Below w.heap.size w w')) ?_ ?_
 rotate_left
 ·intro hCont
  refine two_ (i := 2) (j := 3) (Ni := some 5) (Nj := some 6) (ms 9 55) (ms 9 59) rfl rfl rfl rfl (two_of HT_.out (by kernel_rfl)) (by decide) (by decide) (fun K hK => ?_) (fun K hK => ?_)
  rotate_left
  ·skip
   refine Kd.R_lit_step k30 _ 30 ?hg (N := 6) ?hd (xs := ([] : List (S30))) (inner := []) (ok := fun _ => True) (okp := fun _ => True) ?hr ?hp (fun _ hk => hk) trivial (Below.refl _ _) (Nat.le_refl _) (by simp) ?_; (case hd => rfl); (case hg => rfl); (case hr => (go_simp; done)); (case hp => exact (Reps.none _ _))
   intro v136 w7 ho8 hb hg_ hnew_
   clear hg_ hnew_
   (rw [← Ny135.out] at ho8)
   have HO137 := ak (Kd.R_lower ho8 (below_size (bl2 HB GE129 GE130)))
   replace BK129 := ak (blk_below (bk BK129) hb)
   replace BK130 := ak (blk_below (bk BK130) hb)
   replace HB := ak (below_step (bl2 HB GE129 GE130) hb)
   clear hb ho8
   refine hK.out _ _ ⟨(blk_cell BK129.out 0).trans rfl, (blk_cell BK129.out 1).trans rfl, (blk_cell BK129.out 2).trans rfl⟩ (fun hHeld => ?_)
   clear hK K
   refine norm_ (a' := ?_) ?_ ?_
   rotate_left
   ·show Act.put _ (some 6) _ = _
    simp only [SX]
    rfl
   refine one_ (i := 2) (N := some 5) (ms 9 63) rfl rfl (one_of HT_.out (by kernel_rfl)) (by decide) (fun K hK => ?_)
   refine goes_ Try.func22 (by kernel_rfl) rfl #[.agg #[.int .i64 a0_0, .slice A0_1 l0_1.length c0_1]] (by rfl) rfl rfl (by (try simp only [List.map_toArray, List.map_cons, List.map_nil]); rfl) ?_
   with_reducible refine (spec_l1Copy.calls a0_0 _ _ l0_1 t131 t132 _ ?side1 ?side2 A2.out).mono ?_
   (case side1 => repeat (exact (Kd.C_below HR0_1.out HB.out)))
   (case side2 => exact HC0_1.out)
   rintro e w9 ⟨v133, rfl, ho0, hb⟩
   refine ⟨_, rfl, ?_⟩
   replace HO137 := ak (Kd.R_below (rk HO137) hb)
   have HO134 := ak (Kd.R_lower ho0 (below_size (bl2 HB GE129 GE130)))
   replace BK129 := ak (blk_below (bk BK129) hb)
   replace BK130 := ak (blk_below (bk BK130) hb)
   replace HB := ak (below_step (bl2 HB GE129 GE130) hb)
   (try clear hb)
   (try clear hb2)
   (try clear hk)
   (try clear hi)
   (try clear ho0)
   refine hK.out _ _ ⟨(blk_cell BK129.out 0).trans rfl, (blk_cell BK129.out 1).trans rfl, (blk_cell BK129.out 2).trans rfl⟩ (fun hHeld => ?_)
   clear hK K
   refine norm_ (a' := ?_) ?_ ?_
   rotate_left
   ·show Act.put _ (some 5) _ = _
    simp only [SX]
    rfl
   exact norm_ (by simp only [putAll, Act.put, List.setIfInBounds_toArray, List.set_cons_zero, List.set_cons_succ]) (hCont (v133, v136) _ ⟨hHeld, (rk HO134), (rk HO137), (bk BK129), (bk BK130), (bl2 HB GE129 GE130)⟩)
  skip
  refine goes_ Try.func22 (by kernel_rfl) rfl #[.agg #[.int .i64 a0_0, .slice A0_1 l0_1.length c0_1]] (by rfl) rfl rfl (by (try simp only [List.map_toArray, List.map_cons, List.map_nil]); rfl) ?_
  with_reducible refine (spec_l1Copy.calls a0_0 _ _ l0_1 t131 t132 _ ?side1 ?side2 A2.out).mono ?_
  (case side1 => repeat (exact (Kd.C_below HR0_1.out HB.out)))
  (case side2 => exact HC0_1.out)
  rintro e w7 ⟨v133, rfl, ho0, hb⟩
  refine ⟨_, rfl, ?_⟩
  have HO134 := ak (Kd.R_lower ho0 (below_size (bl2 HB GE129 GE130)))
  replace BK129 := ak (blk_below (bk BK129) hb)
  replace BK130 := ak (blk_below (bk BK130) hb)
  replace HB := ak (below_step (bl2 HB GE129 GE130) hb)
  (try clear hb)
  (try clear hb2)
  (try clear hk)
  (try clear hi)
  (try clear ho0)
  refine hK.out _ _ ⟨(blk_cell BK129.out 0).trans rfl, (blk_cell BK129.out 1).trans rfl, (blk_cell BK129.out 2).trans rfl⟩ (fun hHeld => ?_)
  clear hK K
  refine norm_ (a' := ?_) ?_ ?_
  rotate_left
  ·show Act.put _ (some 5) _ = _
   simp only [SX]
   rfl
  refine one_ (i := 3) (N := some 6) (ms 9 63) rfl rfl (one_of HT_.out (by kernel_rfl)) (by decide) (fun K hK => ?_)
  refine Kd.R_lit_step k30 _ 30 ?hg (N := 6) ?hd (xs := ([] : List (S30))) (inner := []) (ok := fun _ => True) (okp := fun _ => True) ?hr ?hp (fun _ hk => hk) trivial (Below.refl _ _) (Nat.le_refl _) (by simp) ?_; (case hd => rfl); (case hg => rfl); (case hr => (go_simp; done)); (case hp => exact (Reps.none _ _))
  intro v136 w8 ho9 hb hg_ hnew_
  clear hg_ hnew_
  (rw [← Ny135.out] at ho9)
  replace HO134 := ak (Kd.R_below (rk HO134) hb)
  have HO137 := ak (Kd.R_lower ho9 (below_size (bl2 HB GE129 GE130)))
  replace BK129 := ak (blk_below (bk BK129) hb)
  replace BK130 := ak (blk_below (bk BK130) hb)
  replace HB := ak (below_step (bl2 HB GE129 GE130) hb)
  clear hb ho9
  refine hK.out _ _ ⟨(blk_cell BK129.out 0).trans rfl, (blk_cell BK129.out 1).trans rfl, (blk_cell BK129.out 2).trans rfl⟩ (fun hHeld => ?_)
  clear hK K
  refine norm_ (a' := ?_) ?_ ?_
  rotate_left
  ·show Act.put _ (some 6) _ = _
   simp only [SX]
   rfl
  exact norm_ (by simp only [putAll, Act.put, List.setIfInBounds_toArray, List.set_cons_zero, List.set_cons_succ]) (hCont (v133, v136) _ ⟨hHeld, (rk HO134), (rk HO137), (bk BK129), (bk BK130), (bl2 HB GE129 GE130)⟩)
 rintro ⟨v133, v136⟩ w10 ⟨hS_, h0_, h1_, h2_, h3_, h4_⟩
 have HO134 : Aside0 (Kd.R k65 65 w10 w.heap.size (fun _ => True) v133 t132) := ⟨h0_⟩
 have HO137 : Aside0 (Kd.R k30 30 w10 w.heap.size (fun _ => True) v136 y135) := ⟨h1_⟩
 replace BK129 : Aside0 (w10.heap[gb129]? = some (.cells #[.int .i64 a0_0, .slice A0_1 l0_1.length c0_1, .slice A0_2 l0_2.length c0_2] 28 (0, 0))) := ⟨h2_⟩
 replace BK130 : Aside0 (w10.heap[gb130]? = some (.cells #[.int .i64 0, .slice none 0 0, .slice none 0 0] 28 (0, 0))) := ⟨h3_⟩
 replace HB : Aside0 (Below w.heap.size w w10) := ⟨h4_⟩
 clear h0_ h1_ h2_ h3_ h4_
 have hHeld : w10.cell? ⟨gb129, 0, none⟩ = some (.int .i64 a0_0) ∧ w10.cell? ⟨gb129, 1, none⟩ = some (.slice A0_1 l0_1.length c0_1) ∧ w10.cell? ⟨gb129, 2, none⟩ = some (.slice A0_2 l0_2.length c0_2) := hS_
 refine norm_ (a' := ?_) ?_ ?_
 rotate_left
 ·simp only [putAll, Act.put, List.setIfInBounds_toArray, List.set_cons_zero, List.set_cons_succ]
  rfl
 refine one_ (i := 6) (N := some 9) (ms 9 127) rfl rfl (one_of HT_.out (by kernel_rfl)) (by decide) (fun K hK => ?_)
 refine Kd.R_append_rows_step k30 (w0 := w) w.heap.size (by rfl) (.tmp 6) (.tmp 8) 26 30 (.agg #[(.int .i64 0), (.int .i64 0), (.int .i64 0)]) 24 rfl Try.underlying26 info30 rfl (by decide) (by omega) v136 y135 l0_2 _ _ _ (fun _ => True) (fun _ => False) rfl rfl ?aO ?aR (fun _ _ h => h) (fun _ h => h.elim) ?aF ?aB ?aS ?aL ?_
 (case aR => repeat (exact (Kd.C_below HR0_2.out HB.out)))
 (case aB => exact (bl2 HB GE129 GE130))
 (case aF => exact (fun _ _ => trivial))
 (case aO => exact (rk HO137))
 (case aS => exact (below_size (bl2 HB GE129 GE130)))
 (case aL => have := LMc3.out; omega)
 intro v139 w11 ho hb hg hat
 rw [← Ny138.out] at ho
 have n0_ := ak (blk_grown (bk BK129) hg (Kd.R_ne HO137.out BK129.out (by decide)))
 have n1_ := ak (blk_grown (bk BK130) hg (Kd.R_ne HO137.out BK130.out (by decide)))
 have n2_ := ak (Kd.R_over' (rk HO134) (Kd.R_typed (rk HO137)) (by decide) hg)
 have n3_ := ak (hb)
 have n4_ := ak (ho)
 clear BK129
 clear BK130
 clear HO134
 clear HB
 clear HO137
 have BK129 := n0_
 have BK130 := n1_
 have HO134 := n2_
 have HB := n3_
 have HO140 := n4_
 clear n0_ n1_ n2_ n3_ n4_
 clear ho hb hg hat
 obtain ⟨Ao12, co12, eo12⟩ := Kd.R_slice HO140.out
 (subst eo12)
 obtain ⟨Ao13, co13, eo13⟩ := Kd.R_slice HO134.out
 (subst eo13)
 refine hK.out _ _ ⟨(blk_cell BK129.out 0).trans rfl, (blk_cell BK129.out 1).trans rfl, (blk_cell BK129.out 2).trans rfl⟩ (fun hHeld => ?_)
 clear hK K
 refine norm_ (a' := ?_) ?_ ?_
 rotate_left
 ·show Act.put _ (some 9) _ = _
  simp only [SX]
  rfl
 refine pu 7 10 ?_ (ms 9 255) rfl rfl HT_ (by kernel_rfl) (fun _ _ _ h => h) (by rfl) ?_ ?_ ?_ ?_
 rotate_left
 ·intro w'
  go_simp
  with_reducible rfl
 rotate_left
 ·simp only [SX]
  rfl
 refine one_ (i := 8) (N := none) (ms 9 511) rfl rfl (one_of HT_.out (by kernel_rfl)) (by decide) (fun K hK => ?_)
 have hs14 : w11.cell? ⟨gb130, 0, none⟩ = some (.int .i64 0) := (blk_cell BK130.out 0).trans rfl
 have hfs14 := blk_frozen BK130.out 0
 have hns14_0 := NB129_130.out
 have hms14_0 := NB130_129.out
 have hs15 : w11.cell? ⟨gb130, 1, none⟩ = some (.slice none 0 0) := (blk_cell BK130.out 1).trans rfl
 have hfs15 := blk_frozen BK130.out 1
 have hns15_0 := NB129_130.out
 have hms15_0 := NB130_129.out
 have hs16 : w11.cell? ⟨gb130, 2, none⟩ = some (.slice none 0 0) := (blk_cell BK130.out 2).trans rfl
 have hfs16 := blk_frozen BK130.out 2
 have hns16_0 := NB129_130.out
 have hms16_0 := NB130_129.out
 refine skip_ (w1 := ?_) (by rfl) rfl ?_ ?_
 rotate_left
 ·go_simp
  rfl
 refine hK.out _ _ ⟨((cell_far (p := ⟨gb130, _, none⟩) NB129_130.out _).trans (((cell_far (p := ⟨gb130, _, none⟩) NB129_130.out _).trans (((cell_far (p := ⟨gb130, _, none⟩) NB129_130.out _).trans (hHeld.1)))))), ((cell_far (p := ⟨gb130, _, none⟩) NB129_130.out _).trans (((cell_far (p := ⟨gb130, _, none⟩) NB129_130.out _).trans (((cell_far (p := ⟨gb130, _, none⟩) NB129_130.out _).trans (hHeld.2.1)))))), ((cell_far (p := ⟨gb130, _, none⟩) NB129_130.out _).trans (((cell_far (p := ⟨gb130, _, none⟩) NB129_130.out _).trans (((cell_far (p := ⟨gb130, _, none⟩) NB129_130.out _).trans (hHeld.2.2))))))⟩ (fun hHeld => ?_)
 clear hK K
 refine done_ (done_of HT_.out (by kernel_rfl)) ?_
 try go_wp2
 refine bodyPost_ret (results_cell_row rfl _ _ gb130 28 #[.int .i64 t131, .slice Ao13 t132.length co13, .slice Ao12 y138.length co12] (0, 0) _ rfl (by refine blk_put (cs := #[.int .i64 t131, .slice Ao13 t132.length co13, .slice none 0 0]) ?_ 2 _ rfl; refine blk_put (cs := #[.int .i64 t131, .slice none 0 0, .slice none 0 0]) ?_ 1 _ rfl; refine blk_put (cs := #[.int .i64 0, .slice none 0 0, .slice none 0 0]) ?_ 0 _ rfl; exact BK130.out) Try.underlying28 rfl (by kernel_rfl)) rfl ?_
 exact ⟨_, _, by rfl, by exact Kd.R_mono (Kd.R_far (p := ⟨gb130, 2, none⟩) (Kd.R_far (p := ⟨gb130, 1, none⟩) (Kd.R_far (p := ⟨gb130, 0, none⟩) (Kd.R_types HO134.out BK130.out (by decide)) (fun _ hk => hk.2) (.int .i64 t131)) (fun _ hk => hk.2) (.slice Ao13 t132.length co13)) (fun _ hk => hk.2) (.slice Ao12 y138.length co12)) (fun _ hk => trivial), by exact Kd.R_mono (Kd.R_far (p := ⟨gb130, 2, none⟩) (Kd.R_far (p := ⟨gb130, 1, none⟩) (Kd.R_far (p := ⟨gb130, 0, none⟩) (Kd.R_types HO140.out BK130.out (by decide)) (fun _ hk => hk.2) (.int .i64 t131)) (fun _ hk => hk.2) (.slice Ao13 t132.length co13)) (fun _ hk => hk.2) (.slice Ao12 y138.length co12)) (fun _ hk => trivial), bl2 HB GE129 GE130⟩

end Go.Proofs.Ytbcedkcjodokkaa.F
