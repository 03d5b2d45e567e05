-- Printed by wip/px/px.py of this claim's repository (the kit's printer, extended there). Lean checks it.
import Derived.Test.YtbappbbljncdeaaFKinds
import Derived.Test.YtbappbbljncdeaaFspecl1Copy
namespace Go.Proofs.Ytbappbbljncdeaa.F
open Go.RowKit Go.Proofs.YtbappbbljncdeaaW.PrintWords Go.Proofs.YtbappbbljncdeaaW.PrintLast Go.Proofs.YtbappbbljncdeaaW.PrintMore
attribute [local go_sem] max2_int min2_int max_two min_two max_three min_three max_four min_four   -- for this text's walks alone
set_option linter.unusedVariables false
set_option linter.unusedSimpArgs false

/-! ### spec_l16Copy: function 106 -/
def spec_l16Copy.f (a0_0 : Int) (l0_1 : List (S100)) (l0_2 : List (S70)) : Option (Int × (List (S100)) × (List (S70))) := (spec_l1Copy.f a0_0 l0_1).bind fun bt1103 => ((some (([] : List (S70)) : List (S70))).bind fun y1107 => (if y1107.length + l0_2.length < 5864062014805 then (some (bt1103.1, bt1103.2, (y1107 ++ l0_2))) else (none)))
def spec_l16Copy.T1 : Bool × List (List Nat × List Nat) := (true, [([], []), ([0], [0]), ([1], [1]), ([], []), ([], []), ([4], [4]), ([3, 5, 2], [3, 5]), ([2, 6], [2, 6]), ([7, 6, 0, 1, 2, 3, 4, 5, 6, 7], [7])])
def spec_l16Copy.B1 : List Nat := [0, 1, 3, 0, 0, 16, 63, 127, 255]
theorem spec_l16Copy.tab1 : rtab .any (opsOf Try.f106 1) = spec_l16Copy.T1 := by kernel_rfl
theorem spec_l16Copy.bits1 : waitsOk spec_l16Copy.T1.2 spec_l16Copy.B1 = true := by kernel_rfl
set_option maxHeartbeats 8000000 in
set_option maxRecDepth 100000 in
theorem spec_l16Copy.calls (a0_0 : Int) (A0_1 : Option Addr) (c0_1 : Nat) (l0_1 : List (S100)) (A0_2 : Option Addr) (c0_2 : Nat) (l0_2 : List (S70)) (r1 : Int) (r2 : List (S100)) (r3 : List (S70)) (w : World) (hr0_1 : Kd.C k100 w A0_1 l0_1.length l0_1) (hc0_1 : l0_1.length ≤ c0_1) (hr0_2 : Kd.C k70 w A0_2 l0_2.length l0_2) (hc0_2 : l0_2.length ≤ c0_2) (h : spec_l16Copy.f a0_0 l0_1 l0_2 = some (r1, r2, r3)) :
  Calls Try.prog 106 #[.agg #[.int .i64 a0_0, .slice A0_1 l0_1.length c0_1, .slice A0_2 l0_2.length c0_2]] w fun e w' => ∃ v1_ v2_ : Value, e = .returned (.agg #[.int .i64 r1, v1_, v2_]) ∧ Kd.R k100 100 w' w.heap.size (fun _ => True) v1_ r2 ∧ Kd.R k70 70 w' w.heap.size (fun _ => True) v2_ r3 ∧ Below w.heap.size w w' := by
 have hu49 := Try.underlying49
 have hu30 := Try.underlying30
 have HR0_1 := ak hr0_1
 have HC0_1 := ak hc0_1
 clear hr0_1 hc0_1
 have HR0_2 := ak hr0_2
 have HC0_2 := ak hc0_2
 clear hr0_2 hc0_2
 have HB := ak (Below.refl w.heap.size w)
 have H : ((spec_l1Copy.f a0_0 l0_1).bind fun bt1103 => ((some (([] : List (S70)) : List (S70))).bind fun y1107 => (if y1107.length + l0_2.length < 5864062014805 then (some (bt1103.1, bt1103.2, (y1107 ++ l0_2))) else (none)))) = some (r1, r2, r3) := h
 clear h
 replace H := Option.bind_eq_some_iff.mp H
 obtain ⟨⟨t1103, t1104⟩, A20, H⟩ := H
 have A2 := ak A20
 clear A20
 obtain ⟨y1107, hy1107⟩ : ∃ y_ : List (S70), y_ = (([] : List (S70))) := ⟨_, rfl⟩
 replace H : (if y1107.length + l0_2.length < 5864062014805 then (some (t1103, t1104, (y1107 ++ l0_2))) else (none)) = some (r1, r2, r3) := by (have H2_ := (Option.bind_some _ _).symm.trans H; rw [hy1107]; with_reducible exact H2_)
 have Ny1107 := ak hy1107
 clear hy1107
 by_cases c3 : y1107.length + l0_2.length < 5864062014805
 rotate_left
 ·rw [if_neg c3] at H
  exact absurd H (by simp)
 rw [if_pos c3] at H
 have LMc3 := ak c3
 clear c3
 obtain ⟨y1110, hy1110⟩ : ∃ y_ : List (S70), y_ = (y1107 ++ l0_2) := ⟨_, rfl⟩
 replace H : (some (t1103, t1104, y1110)) = some (r1, r2, r3) := by (rw [hy1110]; with_reducible exact H)
 have Ny1110 := ak hy1110
 clear hy1110
 simp only [Option.some.injEq, Prod.mk.injEq] at H
 obtain ⟨rfl, rfl, rfl⟩ := H
 go_enter Try.func106, Try.ntmps106
 try go_wp2_with (first | ((with_reducible refine gate_dst (N := 1) rfl ?_); refine box_event ?hg (N := 1) ?hd (cs := #[.int .i64 a0_0, .slice A0_1 l0_1.length c0_1, .slice A0_2 l0_2.length c0_2]) (t := 49) ?hr ?_; (case hd => rfl); (case hg => rfl); (case hr => (go_simp; done)); intro gb1101 hg w4 hbox hb; have BK1101 := ak (hbox); have GW1101 := ak ((by rw [hg]; exact (below_size (bl HB)) : w.heap.size ≤ gb1101)); have GE1101 := ak ((by rw [hg]; exact (below_size (bl HB)) : w.heap.size ≤ gb1101)); replace HB := ak (below_step (bl HB) hb); clear hb hbox hg) | ((with_reducible refine gate_dst (N := 2) rfl ?_); refine box_event ?hg (N := 2) ?hd (cs := #[.int .i64 0, .slice none 0 0, .slice none 0 0]) (t := 49) ?hr ?_; (case hd => rfl); (case hg => rfl); (case hr => (go_simp; done)); intro gb1102 hg w5 hbox hb; have BK1102 := ak (hbox); have GW1102 := ak ((by rw [hg]; exact (below_size (bl1 HB GE1101)) : w.heap.size ≤ gb1102)); have GE1102 := ak ((by rw [hg]; exact (below_size (bl1 HB GE1101)) : w.heap.size ≤ gb1102)); replace HB := ak (below_step (bl1 HB GE1101) hb); have NB1101_1102 := ak ((by rw [hg]; exact Nat.ne_of_lt (blk_lt (bk BK1101)) : gb1101 ≠ gb1102)); have NB1102_1101 := ak ((by rw [hg]; exact Nat.ne_of_gt (blk_lt (bk BK1101)) : gb1102 ≠ gb1101)); replace BK1101 := ak (blk_below (bk BK1101) hb); clear hb hbox hg))
 replace BK1101 := ak (blk_drew BK1101.out)
 replace BK1102 := ak (blk_drew BK1102.out)
 replace HB := ak (below_drew1 HB.out)
 refine start_ (n := 9) (S := fun w' => w'.cell? ⟨gb1101, 0, none⟩ = some (.int .i64 a0_0) ∧ w'.cell? ⟨gb1101, 1, none⟩ = some (.slice A0_1 l0_1.length c0_1) ∧ w'.cell? ⟨gb1101, 2, none⟩ = some (.slice A0_2 l0_2.length c0_2)) (ds := []) (ms 9 0) (by kernel_rfl) rfl (by kernel_rfl) ⟨(blk_cell BK1101.out 0).trans rfl, (blk_cell BK1101.out 1).trans rfl, (blk_cell BK1101.out 2).trans rfl⟩ (fun hHeld => ?_); refine with_tabW spec_l16Copy.tab1 spec_l16Copy.bits1 (fun HT_ HW_ => ?_)
 generalize w5.drew = w6 at BK1101 BK1102 HB hHeld ⊢
 refine pu 0 3 ?_ (ms 9 1) rfl rfl HT_ (by kernel_rfl) (fun _ _ _ h => h) (by rfl) ?_ ?_ ?_ ?_
 rotate_left
 ·intro w'
  go_simp
  with_reducible rfl
 rotate_left
 ·simp only [SX]
  rfl
 refine pu 4 7 ?_ (ms 9 17) rfl rfl HT_ (by kernel_rfl) (fun _ _ _ h => h) (by rfl) ?_ ?_ ?_ ?_
 rotate_left
 ·intro w'
  go_simp
  with_reducible rfl
 rotate_left
 ·simp only [SX]
  rfl
 refine tk 1 4 ?_ (ms 9 19) rfl rfl HT_ HW_ (by kernel_rfl) (fun _ _ _ h => h) (by rfl) ?_ hHeld ?_ ?_ ?_
 rotate_left
 ·rintro w' ⟨s0, s1, s2⟩
  go_simp
  with_reducible rfl
 rotate_left
 ·simp only [SX]
  rfl
 refine tk 5 8 ?_ (ms 9 51) rfl rfl HT_ HW_ (by kernel_rfl) (fun _ _ _ h => h) (by rfl) ?_ hHeld ?_ ?_ ?_
 rotate_left
 ·rintro w' ⟨s0, s1, s2⟩
  go_simp
  with_reducible rfl
 rotate_left
 ·simp only [SX]
  rfl
 refine join_ (σ := Value × Value) 3 (ms 9 63) (fun s_ => [(5, .agg #[.int .i64 t1103, s_.1]), (6, s_.2)]) (fun s_ w' => (w'.cell? ⟨gb1101, 0, none⟩ = some (.int .i64 a0_0) ∧ w'.cell? ⟨gb1101, 1, none⟩ = some (.slice A0_1 l0_1.length c0_1) ∧ w'.cell? ⟨gb1101, 2, none⟩ = some (.slice A0_2 l0_2.length c0_2)) ∧ (Kd.R k100 100 w' w.heap.size (fun _ => True) s_.1 t1104) ∧ (Kd.R k70 70 w' w.heap.size (fun _ => True) s_.2 y1107) ∧ (w'.heap[gb1101]? = some (.cells #[.int .i64 a0_0, .slice A0_1 l0_1.length c0_1, .slice A0_2 l0_2.length c0_2] 49 (0, 0))) ∧ (w'.heap[gb1102]? = some (.cells #[.int .i64 0, .slice none 0 0, .slice none 0 0] 49 (0, 0))) ∧ (Below w.heap.size w w')) ?_ ?_
 rotate_left
 ·intro hCont
  refine two_ (i := 2) (j := 3) (Ni := some 5) (Nj := some 6) (ms 9 55) (ms 9 59) rfl rfl rfl rfl (two_of HT_.out (by kernel_rfl)) (by decide) (by decide) (fun K hK => ?_) (fun K hK => ?_)
  rotate_left
  ·skip
   refine Kd.R_lit_step k70 _ 70 ?hg (N := 6) ?hd (xs := ([] : List (S70))) (inner := []) (ok := fun _ => True) (okp := fun _ => True) ?hr ?hp (fun _ hk => hk) trivial (Below.refl _ _) (Nat.le_refl _) (by simp) ?_; (case hd => rfl); (case hg => rfl); (case hr => (go_simp; done)); (case hp => exact (Reps.none _ _))
   intro v1108 w7 ho8 hb hg_ hnew_
   clear hg_ hnew_
   (rw [← Ny1107.out] at ho8)
   have HO1109 := ak (Kd.R_lower ho8 (below_size (bl2 HB GE1101 GE1102)))
   replace BK1101 := ak (blk_below (bk BK1101) hb)
   replace BK1102 := ak (blk_below (bk BK1102) hb)
   replace HB := ak (below_step (bl2 HB GE1101 GE1102) hb)
   clear hb ho8
   refine hK.out _ _ ⟨(blk_cell BK1101.out 0).trans rfl, (blk_cell BK1101.out 1).trans rfl, (blk_cell BK1101.out 2).trans rfl⟩ (fun hHeld => ?_)
   clear hK K
   refine norm_ (a' := ?_) ?_ ?_
   rotate_left
   ·show Act.put _ (some 6) _ = _
    simp only [SX]
    rfl
   refine one_ (i := 2) (N := some 5) (ms 9 63) rfl rfl (one_of HT_.out (by kernel_rfl)) (by decide) (fun K hK => ?_)
   refine goes_ Try.func98 (by kernel_rfl) rfl #[.agg #[.int .i64 a0_0, .slice A0_1 l0_1.length c0_1]] (by rfl) rfl rfl (by (try simp only [List.map_toArray, List.map_cons, List.map_nil]); rfl) ?_
   with_reducible refine (spec_l1Copy.calls a0_0 _ _ l0_1 t1103 t1104 _ ?side1 ?side2 A2.out).mono ?_
   (case side1 => repeat (exact (Kd.C_below HR0_1.out HB.out)))
   (case side2 => exact HC0_1.out)
   rintro e w9 ⟨v1105, rfl, ho0, hb⟩
   refine ⟨_, rfl, ?_⟩
   replace HO1109 := ak (Kd.R_below (rk HO1109) hb)
   have HO1106 := ak (Kd.R_lower ho0 (below_size (bl2 HB GE1101 GE1102)))
   replace BK1101 := ak (blk_below (bk BK1101) hb)
   replace BK1102 := ak (blk_below (bk BK1102) hb)
   replace HB := ak (below_step (bl2 HB GE1101 GE1102) hb)
   (try clear hb)
   (try clear hb2)
   (try clear hk)
   (try clear hi)
   (try clear ho0)
   refine hK.out _ _ ⟨(blk_cell BK1101.out 0).trans rfl, (blk_cell BK1101.out 1).trans rfl, (blk_cell BK1101.out 2).trans rfl⟩ (fun hHeld => ?_)
   clear hK K
   refine norm_ (a' := ?_) ?_ ?_
   rotate_left
   ·show Act.put _ (some 5) _ = _
    simp only [SX]
    rfl
   exact norm_ (by simp only [putAll, Act.put, List.setIfInBounds_toArray, List.set_cons_zero, List.set_cons_succ]) (hCont (v1105, v1108) _ ⟨hHeld, (rk HO1106), (rk HO1109), (bk BK1101), (bk BK1102), (bl2 HB GE1101 GE1102)⟩)
  skip
  refine goes_ Try.func98 (by kernel_rfl) rfl #[.agg #[.int .i64 a0_0, .slice A0_1 l0_1.length c0_1]] (by rfl) rfl rfl (by (try simp only [List.map_toArray, List.map_cons, List.map_nil]); rfl) ?_
  with_reducible refine (spec_l1Copy.calls a0_0 _ _ l0_1 t1103 t1104 _ ?side1 ?side2 A2.out).mono ?_
  (case side1 => repeat (exact (Kd.C_below HR0_1.out HB.out)))
  (case side2 => exact HC0_1.out)
  rintro e w7 ⟨v1105, rfl, ho0, hb⟩
  refine ⟨_, rfl, ?_⟩
  have HO1106 := ak (Kd.R_lower ho0 (below_size (bl2 HB GE1101 GE1102)))
  replace BK1101 := ak (blk_below (bk BK1101) hb)
  replace BK1102 := ak (blk_below (bk BK1102) hb)
  replace HB := ak (below_step (bl2 HB GE1101 GE1102) hb)
  (try clear hb)
  (try clear hb2)
  (try clear hk)
  (try clear hi)
  (try clear ho0)
  refine hK.out _ _ ⟨(blk_cell BK1101.out 0).trans rfl, (blk_cell BK1101.out 1).trans rfl, (blk_cell BK1101.out 2).trans rfl⟩ (fun hHeld => ?_)
  clear hK K
  refine norm_ (a' := ?_) ?_ ?_
  rotate_left
  ·show Act.put _ (some 5) _ = _
   simp only [SX]
   rfl
  refine one_ (i := 3) (N := some 6) (ms 9 63) rfl rfl (one_of HT_.out (by kernel_rfl)) (by decide) (fun K hK => ?_)
  refine Kd.R_lit_step k70 _ 70 ?hg (N := 6) ?hd (xs := ([] : List (S70))) (inner := []) (ok := fun _ => True) (okp := fun _ => True) ?hr ?hp (fun _ hk => hk) trivial (Below.refl _ _) (Nat.le_refl _) (by simp) ?_; (case hd => rfl); (case hg => rfl); (case hr => (go_simp; done)); (case hp => exact (Reps.none _ _))
  intro v1108 w8 ho9 hb hg_ hnew_
  clear hg_ hnew_
  (rw [← Ny1107.out] at ho9)
  replace HO1106 := ak (Kd.R_below (rk HO1106) hb)
  have HO1109 := ak (Kd.R_lower ho9 (below_size (bl2 HB GE1101 GE1102)))
  replace BK1101 := ak (blk_below (bk BK1101) hb)
  replace BK1102 := ak (blk_below (bk BK1102) hb)
  replace HB := ak (below_step (bl2 HB GE1101 GE1102) hb)
  clear hb ho9
  refine hK.out _ _ ⟨(blk_cell BK1101.out 0).trans rfl, (blk_cell BK1101.out 1).trans rfl, (blk_cell BK1101.out 2).trans rfl⟩ (fun hHeld => ?_)
  clear hK K
  refine norm_ (a' := ?_) ?_ ?_
  rotate_left
  ·show Act.put _ (some 6) _ = _
   simp only [SX]
   rfl
  exact norm_ (by simp only [putAll, Act.put, List.setIfInBounds_toArray, List.set_cons_zero, List.set_cons_succ]) (hCont (v1105, v1108) _ ⟨hHeld, (rk HO1106), (rk HO1109), (bk BK1101), (bk BK1102), (bl2 HB GE1101 GE1102)⟩)
 rintro ⟨v1105, v1108⟩ w10 ⟨hS_, h0_, h1_, h2_, h3_, h4_⟩
 have HO1106 : Aside0 (Kd.R k100 100 w10 w.heap.size (fun _ => True) v1105 t1104) := ⟨h0_⟩
 have HO1109 : Aside0 (Kd.R k70 70 w10 w.heap.size (fun _ => True) v1108 y1107) := ⟨h1_⟩
 replace BK1101 : Aside0 (w10.heap[gb1101]? = some (.cells #[.int .i64 a0_0, .slice A0_1 l0_1.length c0_1, .slice A0_2 l0_2.length c0_2] 49 (0, 0))) := ⟨h2_⟩
 replace BK1102 : Aside0 (w10.heap[gb1102]? = some (.cells #[.int .i64 0, .slice none 0 0, .slice none 0 0] 49 (0, 0))) := ⟨h3_⟩
 replace HB : Aside0 (Below w.heap.size w w10) := ⟨h4_⟩
 clear h0_ h1_ h2_ h3_ h4_
 have hHeld : w10.cell? ⟨gb1101, 0, none⟩ = some (.int .i64 a0_0) ∧ w10.cell? ⟨gb1101, 1, none⟩ = some (.slice A0_1 l0_1.length c0_1) ∧ w10.cell? ⟨gb1101, 2, none⟩ = some (.slice A0_2 l0_2.length c0_2) := hS_
 refine norm_ (a' := ?_) ?_ ?_
 rotate_left
 ·simp only [putAll, Act.put, List.setIfInBounds_toArray, List.set_cons_zero, List.set_cons_succ]
  rfl
 refine one_ (i := 6) (N := some 9) (ms 9 127) rfl rfl (one_of HT_.out (by kernel_rfl)) (by decide) (fun K hK => ?_)
 refine Kd.R_append_rows_step k70 (w0 := w) w.heap.size (by rfl) (.tmp 6) (.tmp 8) 47 70 (.agg #[(.int .i64 0), (.int .i64 0), (.int .i64 0)]) 24 rfl Try.underlying47 info70 rfl (by decide) (by omega) v1108 y1107 l0_2 _ _ _ (fun _ => True) (fun _ => False) rfl rfl ?aO ?aR (fun _ _ h => h) (fun _ h => h.elim) ?aF ?aB ?aS ?aL ?_
 (case aR => repeat (exact (Kd.C_below HR0_2.out HB.out)))
 (case aB => exact (bl2 HB GE1101 GE1102))
 (case aF => exact (fun _ _ => trivial))
 (case aO => exact (rk HO1109))
 (case aS => exact (below_size (bl2 HB GE1101 GE1102)))
 (case aL => have := LMc3.out; omega)
 intro v1111 w11 ho hb hg hat
 rw [← Ny1110.out] at ho
 have n0_ := ak (blk_grown (bk BK1101) hg (Kd.R_ne HO1109.out BK1101.out (by decide)))
 have n1_ := ak (blk_grown (bk BK1102) hg (Kd.R_ne HO1109.out BK1102.out (by decide)))
 have n2_ := ak (Kd.R_over' (rk HO1106) (Kd.R_typed (rk HO1109)) (by decide) hg)
 have n3_ := ak (hb)
 have n4_ := ak (ho)
 clear BK1101
 clear BK1102
 clear HO1106
 clear HB
 clear HO1109
 have BK1101 := n0_
 have BK1102 := n1_
 have HO1106 := n2_
 have HB := n3_
 have HO1112 := n4_
 clear n0_ n1_ n2_ n3_ n4_
 clear ho hb hg hat
 obtain ⟨Ao12, co12, eo12⟩ := Kd.R_slice HO1112.out
 (subst eo12)
 obtain ⟨Ao13, co13, eo13⟩ := Kd.R_slice HO1106.out
 (subst eo13)
 refine hK.out _ _ ⟨(blk_cell BK1101.out 0).trans rfl, (blk_cell BK1101.out 1).trans rfl, (blk_cell BK1101.out 2).trans rfl⟩ (fun hHeld => ?_)
 clear hK K
 refine norm_ (a' := ?_) ?_ ?_
 rotate_left
 ·show Act.put _ (some 9) _ = _
  simp only [SX]
  rfl
 refine pu 7 10 ?_ (ms 9 255) rfl rfl HT_ (by kernel_rfl) (fun _ _ _ h => h) (by rfl) ?_ ?_ ?_ ?_
 rotate_left
 ·intro w'
  go_simp
  with_reducible rfl
 rotate_left
 ·simp only [SX]
  rfl
 refine one_ (i := 8) (N := none) (ms 9 511) rfl rfl (one_of HT_.out (by kernel_rfl)) (by decide) (fun K hK => ?_)
 have hs14 : w11.cell? ⟨gb1102, 0, none⟩ = some (.int .i64 0) := (blk_cell BK1102.out 0).trans rfl
 have hfs14 := blk_frozen BK1102.out 0
 have hns14_0 := NB1101_1102.out
 have hms14_0 := NB1102_1101.out
 have hs15 : w11.cell? ⟨gb1102, 1, none⟩ = some (.slice none 0 0) := (blk_cell BK1102.out 1).trans rfl
 have hfs15 := blk_frozen BK1102.out 1
 have hns15_0 := NB1101_1102.out
 have hms15_0 := NB1102_1101.out
 have hs16 : w11.cell? ⟨gb1102, 2, none⟩ = some (.slice none 0 0) := (blk_cell BK1102.out 2).trans rfl
 have hfs16 := blk_frozen BK1102.out 2
 have hns16_0 := NB1101_1102.out
 have hms16_0 := NB1102_1101.out
 refine skip_ (w1 := ?_) (by rfl) rfl ?_ ?_
 rotate_left
 ·go_simp
  rfl
 refine hK.out _ _ ⟨((cell_far (p := ⟨gb1102, _, none⟩) NB1101_1102.out _).trans (((cell_far (p := ⟨gb1102, _, none⟩) NB1101_1102.out _).trans (((cell_far (p := ⟨gb1102, _, none⟩) NB1101_1102.out _).trans (hHeld.1)))))), ((cell_far (p := ⟨gb1102, _, none⟩) NB1101_1102.out _).trans (((cell_far (p := ⟨gb1102, _, none⟩) NB1101_1102.out _).trans (((cell_far (p := ⟨gb1102, _, none⟩) NB1101_1102.out _).trans (hHeld.2.1)))))), ((cell_far (p := ⟨gb1102, _, none⟩) NB1101_1102.out _).trans (((cell_far (p := ⟨gb1102, _, none⟩) NB1101_1102.out _).trans (((cell_far (p := ⟨gb1102, _, none⟩) NB1101_1102.out _).trans (hHeld.2.2))))))⟩ (fun hHeld => ?_)
 clear hK K
 refine done_ (done_of HT_.out (by kernel_rfl)) ?_
 try go_wp2
 refine bodyPost_ret (results_cell_row rfl _ _ gb1102 49 #[.int .i64 t1103, .slice Ao13 t1104.length co13, .slice Ao12 y1110.length co12] (0, 0) _ rfl (by refine blk_put (cs := #[.int .i64 t1103, .slice Ao13 t1104.length co13, .slice none 0 0]) ?_ 2 _ rfl; refine blk_put (cs := #[.int .i64 t1103, .slice none 0 0, .slice none 0 0]) ?_ 1 _ rfl; refine blk_put (cs := #[.int .i64 0, .slice none 0 0, .slice none 0 0]) ?_ 0 _ rfl; exact BK1102.out) Try.underlying49 rfl (by kernel_rfl)) rfl ?_
 exact ⟨_, _, by rfl, by exact Kd.R_mono (Kd.R_far (p := ⟨gb1102, 2, none⟩) (Kd.R_far (p := ⟨gb1102, 1, none⟩) (Kd.R_far (p := ⟨gb1102, 0, none⟩) (Kd.R_types HO1106.out BK1102.out (by decide)) (fun _ hk => hk.2) (.int .i64 t1103)) (fun _ hk => hk.2) (.slice Ao13 t1104.length co13)) (fun _ hk => hk.2) (.slice Ao12 y1110.length co12)) (fun _ hk => trivial), by exact Kd.R_mono (Kd.R_far (p := ⟨gb1102, 2, none⟩) (Kd.R_far (p := ⟨gb1102, 1, none⟩) (Kd.R_far (p := ⟨gb1102, 0, none⟩) (Kd.R_types HO1112.out BK1102.out (by decide)) (fun _ hk => hk.2) (.int .i64 t1103)) (fun _ hk => hk.2) (.slice Ao13 t1104.length co13)) (fun _ hk => hk.2) (.slice Ao12 y1110.length co12)) (fun _ hk => trivial), bl2 HB GE1101 GE1102⟩

end Go.Proofs.Ytbappbbljncdeaa.F
