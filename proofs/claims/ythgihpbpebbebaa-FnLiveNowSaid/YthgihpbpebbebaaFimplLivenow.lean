-- Printed by wip/px/px.py of this claim's repository (the kit's printer, extended there). Lean checks it.
import Derived.Test.YthgihpbpebbebaaFKinds
import Derived.Test.YthgihpbpebbebaaFimplArc102
namespace Go.Proofs.Ythgihpbpebbebaa.F
open Go.RowKit Go.Proofs.YthgihpbpebbebaaW.PrintWords Go.Proofs.YthgihpbpebbebaaW.PrintLast Go.Proofs.YthgihpbpebbebaaW.PrintMore
attribute [local go_sem] max2_int min2_int max_two min_two max_three min_three max_four min_four   -- for this text's walks alone
set_option linter.unusedVariables false
set_option linter.unusedSimpArgs false

/-! ### impl_Live_now: function 87 -/
mutual
def impl_Live_now.l0 : Nat → List (S31) → Int → Int → Int → List (S31) → List (S64) → Int → List (S31) → Option (Int × (List (S31)))
 | 0, _, _, _, _, _, _, _, _ => none
 | k + 1, x20, x21, x22, x772000, x772001, x772002, x777000, x777001 => if x22 < x21 then (if 0 ≤ x22 then (if x22 < (x20.length : Int) then (impl_Live_now.l1 k x22 true x20 x21 x22 x772002 (x772002.length : Int) 0 x772000 x772001 x772002 x777000 x777001 ((rd_T31 x20 x22).f0) ((rd_T31 x20 x22).f1) ((rd_T31 x20 x22).f2) ((rd_T31 x20 x22).f3) ((rd_T31 x20 x22).f4)) else (none)) else (none)) else ((impl_Arc_102.f x777001).bind fun t777 => (some (x777000, t777)))
def impl_Live_now.l1 : Nat → Int → Bool → List (S31) → Int → Int → List (S64) → Int → Int → Int → List (S31) → List (S64) → Int → List (S31) → Int → Int → Int → Int → Int → Option (Int × (List (S31)))
 | 0, _, _, _, _, _, _, _, _, _, _, _, _, _, _, _, _, _, _ => none
 | k + 1, x4, x6, x20, x21, x22, x28, x29, x30, x772000, x772001, x772002, x777000, x777001, x782000, x782001, x782002, x782003, x782004 => if x30 < x29 then (if 0 ≤ x30 then (if x30 < (x28.length : Int) then (if ((rd_T64 x28 x30).f1) = x4 then (impl_Live_now.j2 k x4 x6 x20 x21 x22 x28 x29 x30 (((rd_T64 x28 x30).f2) == (-1)) x772000 x772001 x772002 x777000 x777001 x782000 x782001 x782002 x782003 x782004 ((rd_T64 x28 x30).f0) ((rd_T64 x28 x30).f1) ((rd_T64 x28 x30).f2)) else (impl_Live_now.j2 k x4 x6 x20 x21 x22 x28 x29 x30 false x772000 x772001 x772002 x777000 x777001 x782000 x782001 x782002 x782003 x782004 ((rd_T64 x28 x30).f0) ((rd_T64 x28 x30).f1) ((rd_T64 x28 x30).f2))) else (none)) else (none)) else (if x6 = true then (if x777001.length < 3518437208883 then (impl_Live_now.l0 k x20 x21 (wrap64 (x22 + 1)) x772000 x772001 x772002 x777000 (x777001 ++ [(⟨x782000, x782001, mn x782002 99, x782003, x782004⟩ : S31)])) else (none)) else (impl_Live_now.l0 k x20 x21 (wrap64 (x22 + 1)) x772000 x772001 x772002 x777000 x777001))
def impl_Live_now.j2 : Nat → Int → Bool → List (S31) → Int → Int → List (S64) → Int → Int → Bool → Int → List (S31) → List (S64) → Int → List (S31) → Int → Int → Int → Int → Int → Int → Int → Int → Option (Int × (List (S31)))
 | 0, _, _, _, _, _, _, _, _, _, _, _, _, _, _, _, _, _, _, _, _, _, _ => none
 | k + 1, x4, x6, x20, x21, x22, x28, x29, x30, x42, x772000, x772001, x772002, x777000, x777001, x782000, x782001, x782002, x782003, x782004, x787000, x787001, x787002 => if x42 = true then (if x787001 = x4 then (impl_Live_now.l1 k x4 false x20 x21 x22 x28 x29 (wrap64 (x30 + 1)) x772000 x772001 x772002 x777000 x777001 x782000 x782001 x782002 x782003 x782004) else (impl_Live_now.l1 k x4 false x20 x21 x22 x28 x29 (wrap64 (x30 + 1)) x772000 x772001 x772002 x777000 x777001 x782000 x782001 x782002 x782003 x782004)) else (if x787001 = x4 then (if x6 = true then (impl_Live_now.l1 k x4 x6 x20 x21 x22 x28 x29 (wrap64 (x30 + 1)) x772000 x772001 x772002 x777000 x777001 x782000 x782001 (wrap64 (x782002 + x787002)) x782003 x782004) else (impl_Live_now.l1 k x4 x6 x20 x21 x22 x28 x29 (wrap64 (x30 + 1)) x772000 x772001 x772002 x777000 x777001 x782000 x782001 x782002 x782003 x782004)) else (impl_Live_now.l1 k x4 x6 x20 x21 x22 x28 x29 (wrap64 (x30 + 1)) x772000 x772001 x772002 x777000 x777001 x782000 x782001 x782002 x782003 x782004))
end
def impl_Live_now.f (k : Nat) (a0_0 : Int) (l0_1 : List (S31)) (l0_2 : List (S64)) : Option (Int × (List (S31))) := if ((l0_1.length : Int) : Int).toNat ≤ 7036874417766 then (impl_Live_now.l0 k l0_1 (l0_1.length : Int) 0 a0_0 l0_1 l0_2 a0_0 (([] : List (S31)))) else (none)
theorem impl_Live_now.mono_l : ∀ k, (∀ y0 y1 y2 y3 y4 y5 y6 y7, LeO (impl_Live_now.l0 k y0 y1 y2 y3 y4 y5 y6 y7) (impl_Live_now.l0 (k + 1) y0 y1 y2 y3 y4 y5 y6 y7)) ∧ (∀ y0 y1 y2 y3 y4 y5 y6 y7 y8 y9 y10 y11 y12 y13 y14 y15 y16 y17, LeO (impl_Live_now.l1 k y0 y1 y2 y3 y4 y5 y6 y7 y8 y9 y10 y11 y12 y13 y14 y15 y16 y17) (impl_Live_now.l1 (k + 1) y0 y1 y2 y3 y4 y5 y6 y7 y8 y9 y10 y11 y12 y13 y14 y15 y16 y17)) ∧ (∀ y0 y1 y2 y3 y4 y5 y6 y7 y8 y9 y10 y11 y12 y13 y14 y15 y16 y17 y18 y19 y20 y21, LeO (impl_Live_now.j2 k y0 y1 y2 y3 y4 y5 y6 y7 y8 y9 y10 y11 y12 y13 y14 y15 y16 y17 y18 y19 y20 y21) (impl_Live_now.j2 (k + 1) y0 y1 y2 y3 y4 y5 y6 y7 y8 y9 y10 y11 y12 y13 y14 y15 y16 y17 y18 y19 y20 y21))
 | 0 => ⟨fun _ _ _ _ _ _ _ _ r h => by simp [impl_Live_now.l0] at h, fun _ _ _ _ _ _ _ _ _ _ _ _ _ _ _ _ _ _ r h => by simp [impl_Live_now.l1] at h, fun _ _ _ _ _ _ _ _ _ _ _ _ _ _ _ _ _ _ _ _ _ _ r h => by simp [impl_Live_now.j2] at h⟩
 | k + 1 => by
  obtain ⟨ih0, ih1, ih2⟩ := impl_Live_now.mono_l k
  refine ⟨?_, ?_, ?_⟩
  ·intro y0 y1 y2 y3 y4 y5 y6 y7
   unfold impl_Live_now.l0
   repeat' first
   | (with_reducible exact ih0 _ _ _ _ _ _ _ _)
   | (with_reducible exact ih1 _ _ _ _ _ _ _ _ _ _ _ _ _ _ _ _ _ _)
   | (with_reducible exact ih2 _ _ _ _ _ _ _ _ _ _ _ _ _ _ _ _ _ _ _ _ _ _)
   | (with_reducible exact LeO.refl _)
   | (with_reducible exact LeO.none _)
   | (with_reducible refine LeO.ite ?_ ?_)
   | (with_reducible refine LeO.bind ?_ (fun _ => ?_))
   | exact ih0 _ _ _ _ _ _ _ _
   | exact ih1 _ _ _ _ _ _ _ _ _ _ _ _ _ _ _ _ _ _
   | exact ih2 _ _ _ _ _ _ _ _ _ _ _ _ _ _ _ _ _ _ _ _ _ _
   | exact LeO.none _
   | refine LeO.ite ?_ ?_
   | refine LeO.bind ?_ (fun _ => ?_)
  ·intro y0 y1 y2 y3 y4 y5 y6 y7 y8 y9 y10 y11 y12 y13 y14 y15 y16 y17
   unfold impl_Live_now.l1
   repeat' first
   | (with_reducible exact ih0 _ _ _ _ _ _ _ _)
   | (with_reducible exact ih1 _ _ _ _ _ _ _ _ _ _ _ _ _ _ _ _ _ _)
   | (with_reducible exact ih2 _ _ _ _ _ _ _ _ _ _ _ _ _ _ _ _ _ _ _ _ _ _)
   | (with_reducible exact LeO.refl _)
   | (with_reducible exact LeO.none _)
   | (with_reducible refine LeO.ite ?_ ?_)
   | (with_reducible refine LeO.bind ?_ (fun _ => ?_))
   | exact ih0 _ _ _ _ _ _ _ _
   | exact ih1 _ _ _ _ _ _ _ _ _ _ _ _ _ _ _ _ _ _
   | exact ih2 _ _ _ _ _ _ _ _ _ _ _ _ _ _ _ _ _ _ _ _ _ _
   | exact LeO.none _
   | refine LeO.ite ?_ ?_
   | refine LeO.bind ?_ (fun _ => ?_)
  ·intro y0 y1 y2 y3 y4 y5 y6 y7 y8 y9 y10 y11 y12 y13 y14 y15 y16 y17 y18 y19 y20 y21
   unfold impl_Live_now.j2
   repeat' first
   | (with_reducible exact ih0 _ _ _ _ _ _ _ _)
   | (with_reducible exact ih1 _ _ _ _ _ _ _ _ _ _ _ _ _ _ _ _ _ _)
   | (with_reducible exact ih2 _ _ _ _ _ _ _ _ _ _ _ _ _ _ _ _ _ _ _ _ _ _)
   | (with_reducible exact LeO.refl _)
   | (with_reducible exact LeO.none _)
   | (with_reducible refine LeO.ite ?_ ?_)
   | (with_reducible refine LeO.bind ?_ (fun _ => ?_))
   | exact ih0 _ _ _ _ _ _ _ _
   | exact ih1 _ _ _ _ _ _ _ _ _ _ _ _ _ _ _ _ _ _
   | exact ih2 _ _ _ _ _ _ _ _ _ _ _ _ _ _ _ _ _ _ _ _ _ _
   | exact LeO.none _
   | refine LeO.ite ?_ ?_
   | refine LeO.bind ?_ (fun _ => ?_)
theorem impl_Live_now.mono : ∀ a0 a1 a2 k, LeO (impl_Live_now.f k a0 a1 a2) (impl_Live_now.f (k + 1) a0 a1 a2) := by
 intro a0 a1 a2 k
 obtain ⟨ih0, ih1, ih2⟩ := impl_Live_now.mono_l k
 unfold impl_Live_now.f
 repeat' first
   | (with_reducible exact ih0 _ _ _ _ _ _ _ _)
   | (with_reducible exact ih1 _ _ _ _ _ _ _ _ _ _ _ _ _ _ _ _ _ _)
   | (with_reducible exact ih2 _ _ _ _ _ _ _ _ _ _ _ _ _ _ _ _ _ _ _ _ _ _)
   | (with_reducible exact LeO.refl _)
   | (with_reducible exact LeO.none _)
   | (with_reducible refine LeO.ite ?_ ?_)
   | (with_reducible refine LeO.bind ?_ (fun _ => ?_))
   | exact ih0 _ _ _ _ _ _ _ _
   | exact ih1 _ _ _ _ _ _ _ _ _ _ _ _ _ _ _ _ _ _
   | exact ih2 _ _ _ _ _ _ _ _ _ _ _ _ _ _ _ _ _ _ _ _ _ _
   | exact LeO.none _
   | refine LeO.ite ?_ ?_
   | refine LeO.bind ?_ (fun _ => ?_)
def impl_Live_now.T1 : Bool × List (List Nat × List Nat) := (true, [([], []), ([0], [0]), ([1], [1]), ([], []), ([3], [3]), ([4], [4]), ([5], [5]), ([6], [6]), ([2, 7], [2, 7]), ([], []), ([9, 8, 0, 1, 2, 3, 4, 5, 6, 7, 8, 9], [8, 9])])
def impl_Live_now.B1 : List Nat := [0, 1, 3, 0, 8, 24, 56, 120, 255, 0, 1023]
theorem impl_Live_now.tab1 : rtab .any (opsOf Try.f87 1) = impl_Live_now.T1 := by kernel_rfl
theorem impl_Live_now.bits1 : waitsOk impl_Live_now.T1.2 impl_Live_now.B1 = true := by kernel_rfl
set_option maxHeartbeats 8000000 in
set_option maxRecDepth 100000 in
theorem impl_Live_now.calls (k : Nat) (a0_0 : Int) (A0_1 : Option Addr) (c0_1 : Nat) (l0_1 : List (S31)) (A0_2 : Option Addr) (c0_2 : Nat) (l0_2 : List (S64)) (r1 : Int) (r2 : List (S31)) (w : World) (hr0_1 : Kd.C k31 w A0_1 l0_1.length l0_1) (hc0_1 : l0_1.length ≤ c0_1) (hr0_2 : Kd.C k64 w A0_2 l0_2.length l0_2) (hc0_2 : l0_2.length ≤ c0_2) (h : impl_Live_now.f k a0_0 l0_1 l0_2 = some (r1, r2)) :
  Calls Try.prog 87 #[.agg #[.int .i64 a0_0, .slice A0_1 l0_1.length c0_1, .slice A0_2 l0_2.length c0_2]] w fun e w' => ∃ v1_ : Value, e = .returned (.agg #[.int .i64 r1, v1_]) ∧ Kd.R k31 31 w' w.heap.size (fun _ => True) v1_ r2 ∧ Below w.heap.size w w' := by
 have hu57 := Try.underlying57
 have hu25 := Try.underlying25
 have hu31 := Try.underlying31
 have hu64 := Try.underlying64
 have HR0_1 := Aside0.mk hr0_1
 have HC0_1 := Aside0.mk hc0_1
 clear hr0_1 hc0_1
 have HR0_2 := Aside0.mk hr0_2
 have HC0_2 := Aside0.mk hc0_2
 clear hr0_2 hc0_2
 have HB := Aside0.mk (Below.refl w.heap.size w)
 have H : (if ((l0_1.length : Int) : Int).toNat ≤ 7036874417766 then (impl_Live_now.l0 k l0_1 (l0_1.length : Int) 0 a0_0 l0_1 l0_2 a0_0 (([] : List (S31)))) else (none)) = some (r1, r2) := h
 clear h
 by_cases c2 : ((l0_1.length : Int) : Int).toNat ≤ 7036874417766
 rotate_left
 ·rw [if_neg c2] at H
  exact absurd H (by simp)
 rw [if_pos c2] at H
 have c2b0 := eq_true c2
 have c2b1 : decide (((l0_1.length : Int) : Int).toNat ≤ 7036874417766) = true := decide_eq_true c2
 clear c2
 obtain ⟨y773, hy773⟩ : ∃ y_ : List (S31), y_ = (([] : List (S31))) := ⟨_, rfl⟩
 replace H : (impl_Live_now.l0 k l0_1 (l0_1.length : Int) 0 a0_0 l0_1 l0_2 a0_0 y773) = some (r1, r2) := by first | (rw [hy773]; with_reducible exact H) | (have H2_ := (Option.bind_some _ _).symm.trans H; rw [hy773]; with_reducible exact H2_) | (have H2_ := (Option.bind_some _ _).symm.trans H; with_reducible exact H2_) | with_reducible exact H | (rw [hy773]; exact H) | exact H
 have Ny773 := Aside0.mk hy773
 clear hy773
 have H' := Aside0.mk H
 clear H
 go_enter Try.func87, Try.ntmps87
 try go_wp2_with (first | ((with_reducible refine gate_dst (N := 1) rfl ?_); refine box_event ?hg (N := 1) ?hd (cs := #[.int .i64 a0_0, .slice A0_1 l0_1.length c0_1, .slice A0_2 l0_2.length c0_2]) (t := 57) ?hr ?_; (case hd => rfl); (case hg => rfl); (case hr => first | (go_simp; done) | (go_simp; rfl)); intro gb771 hg w3 hbox hb; have BK771 := Aside0.mk (hbox); have GW771 := Aside0.mk ((by rw [hg]; exact (below_size (bl HB)) : w.heap.size ≤ gb771)); have GE771 := Aside0.mk ((by rw [hg]; exact (below_size (bl HB)) : w.heap.size ≤ gb771)); replace HB := Aside0.mk (below_step (bl HB) hb); clear hb hbox hg) | ((with_reducible refine gate_dst (N := 2) rfl ?_); refine box_event ?hg (N := 2) ?hd (cs := #[.int .i64 0, .slice none 0 0]) (t := 25) ?hr ?_; (case hd => rfl); (case hg => rfl); (case hr => first | (go_simp; done) | (go_simp; rfl)); intro gb772 hg w4 hbox hb; have BK772 := Aside0.mk (hbox); have GW772 := Aside0.mk ((by rw [hg]; exact (below_size (bl1 HB GE771)) : w.heap.size ≤ gb772)); have GE772 := Aside0.mk ((by rw [hg]; exact (below_size (bl1 HB GE771)) : w.heap.size ≤ gb772)); replace HB := Aside0.mk (below_step (bl1 HB GE771) hb); have NB771_772 := Aside0.mk ((by rw [hg]; exact Nat.ne_of_lt (blk_lt (bk BK771)) : gb771 ≠ gb772)); have NB772_771 := Aside0.mk ((by rw [hg]; exact Nat.ne_of_gt (blk_lt (bk BK771)) : gb772 ≠ gb771)); replace BK771 := Aside0.mk (blk_below (bk BK771) hb); clear hb hbox hg))
 replace BK771 := Aside0.mk (blk_drew BK771.out)
 replace BK772 := Aside0.mk (blk_drew BK772.out)
 replace HB := Aside0.mk (below_drew1 HB.out)
 refine start_ (n := 11) (S := fun w' => w'.cell? ⟨gb771, 0, none⟩ = some (.int .i64 a0_0) ∧ w'.cell? ⟨gb771, 1, none⟩ = some (.slice A0_1 l0_1.length c0_1) ∧ w'.cell? ⟨gb771, 2, none⟩ = some (.slice A0_2 l0_2.length c0_2)) (ds := []) (ms 11 0) (by kernel_rfl) rfl (by kernel_rfl) ⟨(blk_cell BK771.out 0).trans rfl, (blk_cell BK771.out 1).trans rfl, (blk_cell BK771.out 2).trans rfl⟩ (fun hHeld => ?_); refine with_tabW impl_Live_now.tab1 impl_Live_now.bits1 (fun HT_ HW_ => ?_)
 generalize w4.drew = w5 at BK771 BK772 HB hHeld ⊢
 refine pu 0 9 ?_ (ms 11 1) rfl rfl HT_ (by kernel_rfl) (fun _ _ _ h => h) (by rfl) ?_ ?_ ?_ ?_
 rotate_left
 ·intro w'
  go_simp
  with_reducible rfl
 rotate_left
 ·simp only [SX]
  rfl
 refine pu 1 10 ?_ (ms 11 3) rfl rfl HT_ (by kernel_rfl) (fun _ _ _ h => h) (by rfl) ?_ ?_ ?_ ?_
 rotate_left
 ·intro w'
  go_simp
  with_reducible rfl
 rotate_left
 ·simp only [SX]
  rfl
 refine pu 3 12 ?_ (ms 11 11) rfl rfl HT_ (by kernel_rfl) (fun _ _ _ h => h) (by rfl) ?_ ?_ ?_ ?_
 rotate_left
 ·intro w'
  go_simp
  with_reducible rfl
 rotate_left
 ·simp only [SX]
  rfl
 refine pu 4 13 ?_ (ms 11 27) rfl rfl HT_ (by kernel_rfl) (fun _ _ _ h => h) (by rfl) ?_ ?_ ?_ ?_
 rotate_left
 ·intro w'
  go_simp
  with_reducible rfl
 rotate_left
 ·simp only [SX]
  rfl
 refine tk 2 11 ?_ (ms 11 31) rfl rfl HT_ HW_ (by kernel_rfl) (fun _ _ _ h => h) (by rfl) ?_ hHeld ?_ ?_ ?_
 rotate_left
 ·rintro w' ⟨s0, s1, s2⟩
  go_simp
  with_reducible rfl
 rotate_left
 ·simp only [SX]
  rfl
 refine tk 5 14 ?_ (ms 11 63) rfl rfl HT_ HW_ (by kernel_rfl) (fun _ _ _ h => h) (by rfl) ?_ hHeld ?_ ?_ ?_
 rotate_left
 ·rintro w' ⟨s0, s1, s2⟩
  go_simp
  with_reducible rfl
 rotate_left
 ·simp only [SX]
  rfl
 refine pu 6 15 ?_ (ms 11 127) rfl rfl HT_ (by kernel_rfl) (fun _ _ _ h => h) (by rfl) ?_ ?_ ?_ ?_
 rotate_left
 ·intro w'
  go_simp
  with_reducible rfl
 rotate_left
 ·simp only [SX]
  rfl
 refine join_ (σ := Value × Nat) 1 (ms 11 1023) (fun s_ => [(16, s_.1), (3, .pointer (some ⟨s_.2, 0, none⟩)), (17, .agg #[.int .i64 a0_0, s_.1])]) (fun s_ w' => (w'.cell? ⟨gb771, 0, none⟩ = some (.int .i64 a0_0) ∧ w'.cell? ⟨gb771, 1, none⟩ = some (.slice A0_1 l0_1.length c0_1) ∧ w'.cell? ⟨gb771, 2, none⟩ = some (.slice A0_2 l0_2.length c0_2)) ∧ (Kd.R k31 31 w' w.heap.size (fun _ => True) s_.1 y773) ∧ (w'.heap[gb771]? = some (.cells #[.int .i64 a0_0, .slice A0_1 l0_1.length c0_1, .slice A0_2 l0_2.length c0_2] 57 (0, 0))) ∧ (w'.heap[gb772]? = some (.cells #[.int .i64 0, .slice none 0 0] 25 (0, 0))) ∧ (w'.heap[s_.2]? = some (.cells #[.int .i64 0, .slice none 0 0] 25 (0, 0))) ∧ (w.heap.size ≤ s_.2) ∧ (w.heap.size ≤ s_.2) ∧ (gb771 ≠ s_.2) ∧ (s_.2 ≠ gb771) ∧ (gb772 ≠ s_.2) ∧ (s_.2 ≠ gb772) ∧ (Below w.heap.size w w')) ?_ ?_
 rotate_left
 ·intro hCont
  refine two_ (i := 7) (j := 9) (Ni := some 16) (Nj := some 3) (ms 11 255) (ms 11 639) rfl rfl rfl rfl (two_of HT_.out (by kernel_rfl)) (by decide) (by decide) (fun K hK => ?_) (fun K hK => ?_)
  ·skip
   refine Kd.R_make0_step k31 _ 31 (by rfl) (N := 16) rfl 23 _ _ rfl (l0_1.length : Int) rfl rfl Try.underlying23 (.agg #[(.int .i64 0), (.int .i64 0), (.int .i64 0), (.int .i64 0), (.int .i64 0)]) 40 info31 (by decide) (ok := fun _ => True) trivial (by omega) (Nat.le_trans (Nat.mul_le_mul_right _ (oT (by first | (with_reducible assumption) | assumption) : (l0_1.length : Int).toNat ≤ 7036874417766)) (by omega)) (Below.refl _ _) (Nat.le_refl _) ?_
   intro v774 w6 ho7 hb hg_ hnew_
   clear hg_ hnew_
   (first | rw [← Ny773.out] at ho7 | (simp only [Int.reduceToNat] at ho7; rw [← Ny773.out] at ho7))
   have HO775 := Aside0.mk (Kd.R_lower ho7 (below_size (bl2 HB GE771 GE772)))
   replace BK771 := Aside0.mk (blk_below (bk BK771) hb)
   replace BK772 := Aside0.mk (blk_below (bk BK772) hb)
   replace HB := Aside0.mk (below_step (bl2 HB GE771 GE772) hb)
   clear hb ho7
   obtain ⟨Ao8, co8, eo8⟩ := Kd.R_slice HO775.out
   (first | subst eo8 | (injection eo8 with f1_ f2_ f3_; have f4_ := f1_.symm; have f5_ := f3_.symm; clear f1_ f2_ f3_; subst f4_; subst f5_))
   refine hK.out _ _ ⟨(blk_cell BK771.out 0).trans rfl, (blk_cell BK771.out 1).trans rfl, (blk_cell BK771.out 2).trans rfl⟩ (fun hHeld => ?_)
   clear hK K
   refine norm_ (a' := ?_) ?_ ?_
   rotate_left
   ·show Act.put _ (some 16) _ = _
    simp only [SX]
    rfl
   refine pu 8 17 ?_ (ms 11 511) rfl rfl HT_ (by kernel_rfl) (fun _ _ _ h => h) (by rfl) ?_ ?_ ?_ ?_
   rotate_left
   ·intro w'
    go_simp
    with_reducible rfl
   rotate_left
   ·simp only [SX]
    rfl
   refine one_ (i := 9) (N := some 3) (ms 11 1023) rfl rfl (one_of HT_.out (by kernel_rfl)) (by decide) (fun K hK => ?_)
   refine box_step ?hg (N := 3) ?hd (cs := #[.int .i64 0, .slice none 0 0]) (t := 25) ?hr ?_; (case hd => rfl); (case hg => rfl); (case hr => first | (go_simp; done) | (go_simp; rfl))
   intro gb776 hg w9 hbox hb
   replace HO775 := Aside0.mk (Kd.R_below (rk HO775) hb)
   have BK776 := Aside0.mk (hbox)
   have GW776 := Aside0.mk ((by rw [hg]; exact (below_size (bl2 HB GE771 GE772)) : w.heap.size ≤ gb776))
   have GE776 := Aside0.mk ((by rw [hg]; exact (below_size (bl2 HB GE771 GE772)) : w.heap.size ≤ gb776))
   replace HB := Aside0.mk (below_step (bl2 HB GE771 GE772) hb)
   have NB771_776 := Aside0.mk ((by rw [hg]; exact Nat.ne_of_lt (blk_lt (bk BK771)) : gb771 ≠ gb776))
   have NB776_771 := Aside0.mk ((by rw [hg]; exact Nat.ne_of_gt (blk_lt (bk BK771)) : gb776 ≠ gb771))
   replace BK771 := Aside0.mk (blk_below (bk BK771) hb)
   have NB772_776 := Aside0.mk ((by rw [hg]; exact Nat.ne_of_lt (blk_lt (bk BK772)) : gb772 ≠ gb776))
   have NB776_772 := Aside0.mk ((by rw [hg]; exact Nat.ne_of_gt (blk_lt (bk BK772)) : gb776 ≠ gb772))
   replace BK772 := Aside0.mk (blk_below (bk BK772) hb)
   clear hb hbox hg
   refine hK.out _ _ ⟨(blk_cell BK771.out 0).trans rfl, (blk_cell BK771.out 1).trans rfl, (blk_cell BK771.out 2).trans rfl⟩ (fun hHeld => ?_)
   clear hK K
   refine norm_ (a' := ?_) ?_ ?_
   rotate_left
   ·show Act.put _ (some 3) _ = _
    simp only [SX]
    rfl
   exact norm_ (by simp only [putAll, Act.put, List.setIfInBounds_toArray, List.set_cons_zero, List.set_cons_succ]) (hCont (.slice Ao8 y773.length co8, gb776) _ ⟨hHeld, (rk HO775), (bk BK771), (bk BK772), (bk BK776), GW776.out, GE776.out, NB771_776.out, NB776_771.out, NB772_776.out, NB776_772.out, (bl3 HB GE771 GE772 GE776)⟩)
  skip
  refine box_step ?hg (N := 3) ?hd (cs := #[.int .i64 0, .slice none 0 0]) (t := 25) ?hr ?_; (case hd => rfl); (case hg => rfl); (case hr => first | (go_simp; done) | (go_simp; rfl))
  intro gb776 hg w6 hbox hb
  have BK776 := Aside0.mk (hbox)
  have GW776 := Aside0.mk ((by rw [hg]; exact (below_size (bl2 HB GE771 GE772)) : w.heap.size ≤ gb776))
  have GE776 := Aside0.mk ((by rw [hg]; exact (below_size (bl2 HB GE771 GE772)) : w.heap.size ≤ gb776))
  replace HB := Aside0.mk (below_step (bl2 HB GE771 GE772) hb)
  have NB771_776 := Aside0.mk ((by rw [hg]; exact Nat.ne_of_lt (blk_lt (bk BK771)) : gb771 ≠ gb776))
  have NB776_771 := Aside0.mk ((by rw [hg]; exact Nat.ne_of_gt (blk_lt (bk BK771)) : gb776 ≠ gb771))
  replace BK771 := Aside0.mk (blk_below (bk BK771) hb)
  have NB772_776 := Aside0.mk ((by rw [hg]; exact Nat.ne_of_lt (blk_lt (bk BK772)) : gb772 ≠ gb776))
  have NB776_772 := Aside0.mk ((by rw [hg]; exact Nat.ne_of_gt (blk_lt (bk BK772)) : gb776 ≠ gb772))
  replace BK772 := Aside0.mk (blk_below (bk BK772) hb)
  clear hb hbox hg
  refine hK.out _ _ ⟨(blk_cell BK771.out 0).trans rfl, (blk_cell BK771.out 1).trans rfl, (blk_cell BK771.out 2).trans rfl⟩ (fun hHeld => ?_)
  clear hK K
  refine norm_ (a' := ?_) ?_ ?_
  rotate_left
  ·show Act.put _ (some 3) _ = _
   simp only [SX]
   rfl
  refine one_ (i := 7) (N := some 16) (ms 11 767) rfl rfl (one_of HT_.out (by kernel_rfl)) (by decide) (fun K hK => ?_)
  refine Kd.R_make0_step k31 _ 31 (by rfl) (N := 16) rfl 23 _ _ rfl (l0_1.length : Int) rfl rfl Try.underlying23 (.agg #[(.int .i64 0), (.int .i64 0), (.int .i64 0), (.int .i64 0), (.int .i64 0)]) 40 info31 (by decide) (ok := fun _ => True) trivial (by omega) (Nat.le_trans (Nat.mul_le_mul_right _ (oT (by first | (with_reducible assumption) | assumption) : (l0_1.length : Int).toNat ≤ 7036874417766)) (by omega)) (Below.refl _ _) (Nat.le_refl _) ?_
  intro v774 w7 ho8 hb hg_ hnew_
  clear hg_ hnew_
  (first | rw [← Ny773.out] at ho8 | (simp only [Int.reduceToNat] at ho8; rw [← Ny773.out] at ho8))
  have HO775 := Aside0.mk (Kd.R_lower ho8 (below_size (bl3 HB GE771 GE772 GE776)))
  replace BK771 := Aside0.mk (blk_below (bk BK771) hb)
  replace BK772 := Aside0.mk (blk_below (bk BK772) hb)
  replace BK776 := Aside0.mk (blk_below (bk BK776) hb)
  replace HB := Aside0.mk (below_step (bl3 HB GE771 GE772 GE776) hb)
  clear hb ho8
  obtain ⟨Ao9, co9, eo9⟩ := Kd.R_slice HO775.out
  (first | subst eo9 | (injection eo9 with f1_ f2_ f3_; have f4_ := f1_.symm; have f5_ := f3_.symm; clear f1_ f2_ f3_; subst f4_; subst f5_))
  refine hK.out _ _ ⟨(blk_cell BK771.out 0).trans rfl, (blk_cell BK771.out 1).trans rfl, (blk_cell BK771.out 2).trans rfl⟩ (fun hHeld => ?_)
  clear hK K
  refine norm_ (a' := ?_) ?_ ?_
  rotate_left
  ·show Act.put _ (some 16) _ = _
   simp only [SX]
   rfl
  refine pu 8 17 ?_ (ms 11 1023) rfl rfl HT_ (by kernel_rfl) (fun _ _ _ h => h) (by rfl) ?_ ?_ ?_ ?_
  rotate_left
  ·intro w'
   go_simp
   with_reducible rfl
  rotate_left
  ·simp only [SX]
   rfl
  exact norm_ (by simp only [putAll, Act.put, List.setIfInBounds_toArray, List.set_cons_zero, List.set_cons_succ]) (hCont (.slice Ao9 y773.length co9, gb776) _ ⟨hHeld, (rk HO775), (bk BK771), (bk BK772), (bk BK776), GW776.out, GE776.out, NB771_776.out, NB776_771.out, NB772_776.out, NB776_772.out, (bl3 HB GE771 GE772 GE776)⟩)
 rintro ⟨v774, gb776⟩ w10 ⟨hS_, h0_, h1_, h2_, h3_, h4_, h5_, h6_, h7_, h8_, h9_, h10_⟩
 have HO775 : Aside0 (Kd.R k31 31 w10 w.heap.size (fun _ => True) v774 y773) := ⟨h0_⟩
 replace BK771 : Aside0 (w10.heap[gb771]? = some (.cells #[.int .i64 a0_0, .slice A0_1 l0_1.length c0_1, .slice A0_2 l0_2.length c0_2] 57 (0, 0))) := ⟨h1_⟩
 replace BK772 : Aside0 (w10.heap[gb772]? = some (.cells #[.int .i64 0, .slice none 0 0] 25 (0, 0))) := ⟨h2_⟩
 have BK776 : Aside0 (w10.heap[gb776]? = some (.cells #[.int .i64 0, .slice none 0 0] 25 (0, 0))) := ⟨h3_⟩
 have GW776 : Aside0 (w.heap.size ≤ gb776) := ⟨h4_⟩
 have GE776 : Aside0 (w.heap.size ≤ gb776) := ⟨h5_⟩
 have NB771_776 : Aside0 (gb771 ≠ gb776) := ⟨h6_⟩
 have NB776_771 : Aside0 (gb776 ≠ gb771) := ⟨h7_⟩
 have NB772_776 : Aside0 (gb772 ≠ gb776) := ⟨h8_⟩
 have NB776_772 : Aside0 (gb776 ≠ gb772) := ⟨h9_⟩
 replace HB : Aside0 (Below w.heap.size w w10) := ⟨h10_⟩
 clear h0_ h1_ h2_ h3_ h4_ h5_ h6_ h7_ h8_ h9_ h10_
 have hHeld : w10.cell? ⟨gb771, 0, none⟩ = some (.int .i64 a0_0) ∧ w10.cell? ⟨gb771, 1, none⟩ = some (.slice A0_1 l0_1.length c0_1) ∧ w10.cell? ⟨gb771, 2, none⟩ = some (.slice A0_2 l0_2.length c0_2) := hS_
 obtain ⟨Ao11, co11, eo11⟩ := Kd.R_slice HO775.out
 (first | subst eo11 | (injection eo11 with f1_ f2_ f3_; have f4_ := f1_.symm; have f5_ := f3_.symm; clear f1_ f2_ f3_; subst f4_; subst f5_))
 refine norm_ (a' := ?_) ?_ ?_
 rotate_left
 ·simp only [putAll, Act.put, List.setIfInBounds_toArray, List.set_cons_zero, List.set_cons_succ]
  rfl
 refine one_ (i := 10) (N := none) (ms 11 2047) rfl rfl (one_of HT_.out (by kernel_rfl)) (by decide) (fun K hK => ?_)
 have hs12 : w10.cell? ⟨gb776, 0, none⟩ = some (.int .i64 0) := (blk_cell BK776.out 0).trans rfl
 have hfs12 := blk_frozen BK776.out 0
 have hns12_0 := NB771_776.out
 have hns12_1 := NB772_776.out
 have hms12_0 := NB776_771.out
 have hms12_1 := NB776_772.out
 have hs13 : w10.cell? ⟨gb776, 1, none⟩ = some (.slice none 0 0) := (blk_cell BK776.out 1).trans rfl
 have hfs13 := blk_frozen BK776.out 1
 have hns13_0 := NB771_776.out
 have hns13_1 := NB772_776.out
 have hms13_0 := NB776_771.out
 have hms13_1 := NB776_772.out
 refine skip_ (w1 := ?_) (by rfl) rfl ?_ ?_
 rotate_left
 ·go_simp
  rfl
 refine hK.out _ _ ⟨((cell_far (p := ⟨gb776, _, none⟩) NB771_776.out _).trans (((cell_far (p := ⟨gb776, _, none⟩) NB771_776.out _).trans (hHeld.1)))), ((cell_far (p := ⟨gb776, _, none⟩) NB771_776.out _).trans (((cell_far (p := ⟨gb776, _, none⟩) NB771_776.out _).trans (hHeld.2.1)))), ((cell_far (p := ⟨gb776, _, none⟩) NB771_776.out _).trans (((cell_far (p := ⟨gb776, _, none⟩) NB771_776.out _).trans (hHeld.2.2))))⟩ (fun hHeld => ?_)
 clear hK K
 refine done_ (done_of HT_.out (by kernel_rfl)) ?_
 have hnb14 := NB771_772.out
 have hnc14 := NB772_771.out
 have hnb15 := NB771_776.out
 have hnc15 := NB776_771.out
 have hcz16_0 := bc w10 BK771 0 (.int .i64 a0_0) rfl
 have hcz16_1 := bc w10 BK771 1 (.slice A0_1 l0_1.length c0_1) rfl
 have hcz16_2 := bc w10 BK771 2 (.slice A0_2 l0_2.length c0_2) rfl
 have hfz16_0 := fz BK771 0
 have hfz16_1 := fz BK771 1
 have hfz16_2 := fz BK771 2
 try go_wp2
 go_loopg [22] k (fun kq v22 w' => ∃ (x22_1 : Int) (x777001_1 : List (S31)) (u777001 : Value), v22 = .int .i64 x22_1 ∧ Aside0 (impl_Live_now.l0 kq l0_1 (l0_1.length : Int) x22_1 a0_0 l0_1 l0_2 a0_0 x777001_1 = some (r1, r2)) ∧ Aside0 (kq ≤ k) ∧ Aside0 (Kd.R k31 31 w' w.heap.size (fun _ => True) u777001 x777001_1) ∧ Aside0 (w'.heap[gb771]? = some (.cells #[.int .i64 a0_0, (.slice A0_1 l0_1.length c0_1), (.slice A0_2 l0_2.length c0_2)] 57 (0, 0))) ∧ Aside0 (w'.heap[gb772]? = some (.cells #[.int .i64 0, (.slice none 0 0)] 25 (0, 0))) ∧ Aside0 (w'.heap[gb776]? = some (.cells #[.int .i64 a0_0, u777001] 25 (0, 0))) ∧ Aside0 (Below w.heap.size w w'))
 case atStart => exact ⟨(0), (y773), (.slice Ao11 y773.length co11), (by first | rfl | (simp; done) | (simp [*]; done)), H', ⟨Nat.le_refl _⟩, ⟨by (with_reducible repeat (first | apply Kd.R_alloc | apply Kd.R_drewN | apply Kd.R_drew)); exact Kd.R_mono (Kd.R_far (p := ⟨gb776, 1, none⟩) (Kd.R_far (p := ⟨gb776, 0, none⟩) (Kd.R_types HO775.out BK776.out (by decide)) (fun _ hk => hk.2) (.int .i64 a0_0)) (fun _ hk => hk.2) (.slice Ao11 y773.length co11)) (fun _ hk => trivial)⟩, ⟨by (with_reducible repeat (first | refine blk_drewN ?_ _ | refine blk_drew ?_ | refine blk_alloc ?_ _)); refine blk_far ?_ NB771_776.out _; refine blk_far ?_ NB771_776.out _; (with_reducible repeat (first | refine blk_drewN ?_ _ | refine blk_drew ?_ | refine blk_alloc ?_ _)); exact BK771.out⟩, ⟨by (with_reducible repeat (first | refine blk_drewN ?_ _ | refine blk_drew ?_ | refine blk_alloc ?_ _)); refine blk_far ?_ NB772_776.out _; refine blk_far ?_ NB772_776.out _; (with_reducible repeat (first | refine blk_drewN ?_ _ | refine blk_drew ?_ | refine blk_alloc ?_ _)); exact BK772.out⟩, ⟨by (with_reducible repeat (first | refine blk_drewN ?_ _ | refine blk_drew ?_ | refine blk_alloc ?_ _)); refine blk_put (cs := #[.int .i64 a0_0, .slice none 0 0]) ?_ 1 _ rfl; refine blk_put (cs := #[.int .i64 0, .slice none 0 0]) ?_ 0 _ rfl; (with_reducible repeat (first | refine blk_drewN ?_ _ | refine blk_drew ?_ | refine blk_alloc ?_ _)); exact BK776.out⟩, ⟨bl3 HB GE771 GE772 GE776⟩⟩
 clear H'
 try clear c1
 try clear c2
 try clear c2b0
 try clear c2b1
 try clear p2
 try clear c8
 try clear c14
 try clear c15
 try clear hcz16_0
 try clear hcz16_1
 try clear hcz16_2
 try clear hfz16_0
 try clear hfz16_1
 try clear hfz16_2
 obtain ⟨x22_1, x777001_1, u777001, rfl, HA, HK1, HO_777001, BK771, BK772, BK776, HB⟩ := hrel
 cases gk with
 | zero => exact absurd HA.out (by simp [impl_Live_now.l0])
 | succ k1 =>
  have H := HA.out
  clear HA
  simp only [impl_Live_now.l0] at H
  by_cases c17 : x22_1 < (l0_1.length : Int)
  rotate_left
  ·rw [if_neg c17] at H
   have c17b0 : decide (x22_1 < (l0_1.length : Int)) = false := decide_eq_false c17
   clear c17
   replace H := Option.bind_eq_some_iff.mp H
   obtain ⟨t777, A990, H⟩ := H
   have A99 := Aside0.mk A990
   clear A990
   simp only [Option.some.injEq, Prod.mk.injEq] at H
   obtain ⟨rfl, rfl⟩ := H
   have hnb100 := NB776_771.out
   have hnc100 := NB771_776.out
   have hnb101 := NB776_772.out
   have hnc101 := NB772_776.out
   have hcz102_0 := bc wr BK776 0 (.int .i64 a0_0) rfl
   have hcz102_1 := bc wr BK776 1 (u777001) rfl
   have hfz102_0 := fz BK776 0
   have hfz102_1 := fz BK776 1
   obtain ⟨Ao103, co103, eo103⟩ := Kd.R_slice HO_777001.out
   subst eo103
   go_wp2_with (first | ((with_reducible refine gate_callee (f := 102) rfl ?_); refine goesL_ (some 71) rfl rfl Try.func102 (by kernel_rfl) rfl #[.slice Ao103 x777001_1.length co103] rfl (by (try simp only [List.map_toArray, List.map_cons, List.map_nil]); first | done | rfl | (simp only [List.length_drop, List.length_take]; rfl)) ?_; (with_reducible refine (impl_Arc_102.calls (fun k_ => some k_ = (.slice Ao103 x777001_1.length co103 : Value).ownBlock) (.slice Ao103 x777001_1.length co103) x777001_1 t777 w _ ?side1 ?side2 A99.out).mono ?_); (case side1 => repeat (first | (with_reducible first | exact HB.out | apply below_alloc | apply pw_below_drewN | apply below_drew1 | refine below_set ?_ GE771.out | refine below_set ?_ GE772.out | refine below_set ?_ GE776.out) | exact HB.out)); (case side2 => exact Kd.R_tight rfl HO_777001.out); rintro e w104 ⟨v778, rfl, ho0, hb, hkp⟩; refine ⟨_, rfl, ?_⟩; have n0_ := Aside0.mk (blk_kept (bk BK771) hkp (fun hs_ => (fun e_ => (Kd.R_ne HO_777001.out BK771.out (by decide)) e_) hs_)); have n1_ := Aside0.mk (blk_kept (bk BK772) hkp (fun hs_ => (fun e_ => (Kd.R_ne HO_777001.out BK772.out (by decide)) e_) hs_)); have n2_ := Aside0.mk (blk_kept (bk BK776) hkp (fun hs_ => (fun e_ => (Kd.R_ne HO_777001.out BK776.out (by decide)) e_) hs_)); have n3_ := Aside0.mk (Kd.R_mono (ok' := fun k_ => True) ho0 (fun k_ hk_ => trivial)); have n4_ := Aside0.mk (hb); clear BK771; clear BK772; clear BK776; clear HB; clear HO_777001; have BK771 := n0_; have BK772 := n1_; have BK776 := n2_; have HO779 := n3_; have HB := n4_; clear n0_ n1_ n2_ n3_ n4_; (try clear hb); (try clear hkp); (try clear ho0); obtain ⟨Ao105, co105, eo105⟩ := Kd.R_slice HO779.out; subst eo105; have hcz106_0 := bc w104 BK776 0 (.int .i64 a0_0) rfl; have hcz106_1 := bc w104 BK776 1 (.slice Ao103 x777001_1.length co103) rfl; have hfz106_0 := fz BK776 0; have hfz106_1 := fz BK776 1; have hnb107 := NB772_771.out; have hnc107 := NB771_772.out; have hcz108_0 := bc w104 BK772 0 (.int .i64 0) rfl; have hcz108_1 := bc w104 BK772 1 (.slice none 0 0) rfl; have hfz108_0 := fz BK772 0; have hfz108_1 := fz BK772 1))
   refine bodyPost_ret (results_cell_row rfl _ _ gb772 25 #[.int .i64 a0_0, .slice Ao105 t777.length co105] (0, 0) _ rfl (by (with_reducible repeat (first | refine blk_drewN ?_ _ | refine blk_drew ?_ | refine blk_alloc ?_ _)); refine blk_put (cs := #[.int .i64 a0_0, .slice none 0 0]) ?_ 1 _ rfl; refine blk_put (cs := #[.int .i64 0, .slice none 0 0]) ?_ 0 _ rfl; refine blk_far ?_ NB772_776.out _; (with_reducible repeat (first | refine blk_drewN ?_ _ | refine blk_drew ?_ | refine blk_alloc ?_ _)); exact BK772.out) Try.underlying25 rfl (by kernel_rfl)) rfl ?_
   exact ⟨_, by first | rfl | (simp [errW_none, errW_some] <;> rfl) | (simp [*, errW_none, errW_some] <;> rfl), by (with_reducible repeat (first | apply Kd.R_alloc | apply Kd.R_drewN | apply Kd.R_drew)); exact Kd.R_mono (Kd.R_far (p := ⟨gb772, 1, none⟩) (Kd.R_far (p := ⟨gb772, 0, none⟩) (Kd.R_far (p := ⟨gb776, 1, none⟩) (Kd.R_types (Kd.R_types HO779.out BK776.out (by decide)) BK772.out (by decide)) (fun _ hk => hk.1.2) (.slice Ao105 t777.length co105)) (fun _ hk => hk.2) (.int .i64 a0_0)) (fun _ hk => hk.2) (.slice Ao105 t777.length co105)) (fun _ hk => trivial), bl3 HB GE771 GE772 GE776⟩
  rw [if_pos c17] at H
  have c17b0 : decide (x22_1 < (l0_1.length : Int)) = true := decide_eq_true c17
  clear c17
  by_cases c18 : 0 ≤ x22_1
  rotate_left
  ·rw [if_neg c18] at H
   exact absurd H (by simp)
  rw [if_pos c18] at H
  have c18b0 : decide (0 ≤ x22_1) = true := decide_eq_true c18
  clear c18
  by_cases c19 : x22_1 < (l0_1.length : Int)
  rotate_left
  ·rw [if_neg c19] at H
   exact absurd H (by simp)
  rw [if_pos c19] at H
  have c19b0 : decide (x22_1 < (l0_1.length : Int)) = true := decide_eq_true c19
  clear c19
  have H' := Aside0.mk H
  clear H
  have p780 : 0 ≤ (x22_1 : Int) := oT (by first | (with_reducible assumption) | assumption)
  have q780 : x22_1 < (l0_1.length : Int) := oT (by first | (with_reducible assumption) | assumption)
  obtain ⟨ad780, e780, hx780_0, hx780_1, hx780_2, hx780_3, hx780_4⟩ := at_T31 HR0_1.out x22_1 p780 q780
  cases e780
  replace hx780_0 := hcb HB.out hx780_0
  replace hx780_1 := hcb HB.out hx780_1
  replace hx780_2 := hcb HB.out hx780_2
  replace hx780_3 := hcb HB.out hx780_3
  replace hx780_4 := hcb HB.out hx780_4
  replace p780 := eq_true p780
  replace q780 := eq_true q780
  go_wp2_with (first | ((with_reducible refine gate_dst (N := 5) rfl ?_); refine box_event ?hg (N := 5) ?hd (cs := #[.int .i64 0, .int .i64 0, .int .i64 0, .int .i64 0, .int .i64 0]) (t := 31) ?hr ?_; (case hd => rfl); (case hg => rfl); (case hr => first | (go_simp; done) | (go_simp; rfl)); intro gb781 hg w20 hbox hb; replace HO_777001 := Aside0.mk (Kd.R_below (Kd.R_elderB (rk HO_777001) gb781 (Nat.le_of_eq hg.symm)) hb); have BK781 := Aside0.mk (hbox); have GW781 := Aside0.mk ((by rw [hg]; exact (below_size (bl3 HB GE771 GE772 GE776)) : w.heap.size ≤ gb781)); have GE781 := Aside0.mk ((by rw [hg]; exact (below_size (bl3 HB GE771 GE772 GE776)) : w.heap.size ≤ gb781)); replace HB := Aside0.mk (below_step (bl3 HB GE771 GE772 GE776) hb); have NB771_781 := Aside0.mk ((by rw [hg]; exact Nat.ne_of_lt (blk_lt (bk BK771)) : gb771 ≠ gb781)); have NB781_771 := Aside0.mk ((by rw [hg]; exact Nat.ne_of_gt (blk_lt (bk BK771)) : gb781 ≠ gb771)); replace BK771 := Aside0.mk (blk_below (bk BK771) hb); have NB772_781 := Aside0.mk ((by rw [hg]; exact Nat.ne_of_lt (blk_lt (bk BK772)) : gb772 ≠ gb781)); have NB781_772 := Aside0.mk ((by rw [hg]; exact Nat.ne_of_gt (blk_lt (bk BK772)) : gb781 ≠ gb772)); replace BK772 := Aside0.mk (blk_below (bk BK772) hb); have NB776_781 := Aside0.mk ((by rw [hg]; exact Nat.ne_of_lt (blk_lt (bk BK776)) : gb776 ≠ gb781)); have NB781_776 := Aside0.mk ((by rw [hg]; exact Nat.ne_of_gt (blk_lt (bk BK776)) : gb781 ≠ gb776)); replace BK776 := Aside0.mk (blk_below (bk BK776) hb); clear hb hbox hg; have hnb21 := NB781_771.out; have hnc21 := NB771_781.out; have hnb22 := NB781_772.out; have hnc22 := NB772_781.out; have hnb23 := NB781_776.out; have hnc23 := NB776_781.out; have hcz24_0 := bc w20 BK781 0 (.int .i64 0) rfl; have hcz24_1 := bc w20 BK781 1 (.int .i64 0) rfl; have hcz24_2 := bc w20 BK781 2 (.int .i64 0) rfl; have hcz24_3 := bc w20 BK781 3 (.int .i64 0) rfl; have hcz24_4 := bc w20 BK781 4 (.int .i64 0) rfl; have hfz24_0 := fz BK781 0; have hfz24_1 := fz BK781 1; have hfz24_2 := fz BK781 2; have hfz24_3 := fz BK781 3; have hfz24_4 := fz BK781 4; have hnb25 := NB771_772.out; have hnc25 := NB772_771.out; have hnb26 := NB771_776.out; have hnc26 := NB776_771.out; have hcz27_0 := bc w20 BK771 0 (.int .i64 a0_0) rfl; have hcz27_1 := bc w20 BK771 1 (.slice (some ad780) l0_1.length c0_1) rfl; have hcz27_2 := bc w20 BK771 2 (.slice A0_2 l0_2.length c0_2) rfl; have hfz27_0 := fz BK771 0; have hfz27_1 := fz BK771 1; have hfz27_2 := fz BK771 2))
  go_loopg [6, 30] k1 (fun kq v6 v30 w' => ∃ (x6_2 : Bool) (x30_2 : Int) (x782002_2 : Int), v6 = .bool x6_2 ∧ v30 = .int .i64 x30_2 ∧ Aside0 (impl_Live_now.l1 kq x22_1 x6_2 l0_1 (l0_1.length : Int) x22_1 l0_2 (l0_2.length : Int) x30_2 a0_0 l0_1 l0_2 a0_0 x777001_1 ((rd_T31 l0_1 x22_1).f0) ((rd_T31 l0_1 x22_1).f1) x782002_2 ((rd_T31 l0_1 x22_1).f3) ((rd_T31 l0_1 x22_1).f4) = some (r1, r2)) ∧ Aside0 (kq ≤ k1) ∧ Aside0 (Kd.R k31 31 w' w.heap.size (fun k_ => k_ ≠ gb781) u777001 x777001_1) ∧ Aside0 (w'.heap[gb771]? = some (.cells #[.int .i64 a0_0, (.slice (some ad780) l0_1.length c0_1), (.slice A0_2 l0_2.length c0_2)] 57 (0, 0))) ∧ Aside0 (w'.heap[gb772]? = some (.cells #[.int .i64 0, (.slice none 0 0)] 25 (0, 0))) ∧ Aside0 (w'.heap[gb776]? = some (.cells #[.int .i64 a0_0, u777001] 25 (0, 0))) ∧ Aside0 (w'.heap[gb781]? = some (.cells #[.int .i64 ((rd_T31 l0_1 x22_1).f0), .int .i64 ((rd_T31 l0_1 x22_1).f1), .int .i64 x782002_2, .int .i64 ((rd_T31 l0_1 x22_1).f3), .int .i64 ((rd_T31 l0_1 x22_1).f4)] 31 (0, 0))) ∧ Aside0 (Below w.heap.size w w'))
  case atStart => exact ⟨(true), (0), ((rd_T31 l0_1 x22_1).f2), (by first | rfl | (simp; done) | (simp [*]; done)), (by first | rfl | (simp; done) | (simp [*]; done)), H', ⟨Nat.le_refl _⟩, ⟨by (with_reducible repeat (first | apply Kd.R_alloc | apply Kd.R_drewN | apply Kd.R_drew)); exact Kd.R_mono (Kd.R_far (p := ⟨gb781, 4, none⟩) (Kd.R_far (p := ⟨gb781, 3, none⟩) (Kd.R_far (p := ⟨gb781, 2, none⟩) (Kd.R_far (p := ⟨gb781, 1, none⟩) (Kd.R_far (p := ⟨gb781, 0, none⟩) (Kd.R_mono HO_777001.out (fun k_ hk => (⟨hk, hk.2⟩ : _ ∧ k_ ≠ gb781))) (fun _ hk => hk.2) (.int .i64 ((rd_T31 l0_1 x22_1).f0))) (fun _ hk => hk.2) (.int .i64 ((rd_T31 l0_1 x22_1).f1))) (fun _ hk => hk.2) (.int .i64 ((rd_T31 l0_1 x22_1).f2))) (fun _ hk => hk.2) (.int .i64 ((rd_T31 l0_1 x22_1).f3))) (fun _ hk => hk.2) (.int .i64 ((rd_T31 l0_1 x22_1).f4))) (fun _ hk => hk.1.2)⟩, ⟨by (with_reducible repeat (first | refine blk_drewN ?_ _ | refine blk_drew ?_ | refine blk_alloc ?_ _)); refine blk_far ?_ NB771_781.out _; refine blk_far ?_ NB771_781.out _; refine blk_far ?_ NB771_781.out _; refine blk_far ?_ NB771_781.out _; refine blk_far ?_ NB771_781.out _; (with_reducible repeat (first | refine blk_drewN ?_ _ | refine blk_drew ?_ | refine blk_alloc ?_ _)); exact BK771.out⟩, ⟨by (with_reducible repeat (first | refine blk_drewN ?_ _ | refine blk_drew ?_ | refine blk_alloc ?_ _)); refine blk_far ?_ NB772_781.out _; refine blk_far ?_ NB772_781.out _; refine blk_far ?_ NB772_781.out _; refine blk_far ?_ NB772_781.out _; refine blk_far ?_ NB772_781.out _; (with_reducible repeat (first | refine blk_drewN ?_ _ | refine blk_drew ?_ | refine blk_alloc ?_ _)); exact BK772.out⟩, ⟨by (with_reducible repeat (first | refine blk_drewN ?_ _ | refine blk_drew ?_ | refine blk_alloc ?_ _)); refine blk_far ?_ NB776_781.out _; refine blk_far ?_ NB776_781.out _; refine blk_far ?_ NB776_781.out _; refine blk_far ?_ NB776_781.out _; refine blk_far ?_ NB776_781.out _; (with_reducible repeat (first | refine blk_drewN ?_ _ | refine blk_drew ?_ | refine blk_alloc ?_ _)); exact BK776.out⟩, ⟨by (with_reducible repeat (first | refine blk_drewN ?_ _ | refine blk_drew ?_ | refine blk_alloc ?_ _)); refine blk_put (cs := #[.int .i64 ((rd_T31 l0_1 x22_1).f0), .int .i64 ((rd_T31 l0_1 x22_1).f1), .int .i64 ((rd_T31 l0_1 x22_1).f2), .int .i64 ((rd_T31 l0_1 x22_1).f3), .int .i64 0]) ?_ 4 _ rfl; refine blk_put (cs := #[.int .i64 ((rd_T31 l0_1 x22_1).f0), .int .i64 ((rd_T31 l0_1 x22_1).f1), .int .i64 ((rd_T31 l0_1 x22_1).f2), .int .i64 0, .int .i64 0]) ?_ 3 _ rfl; refine blk_put (cs := #[.int .i64 ((rd_T31 l0_1 x22_1).f0), .int .i64 ((rd_T31 l0_1 x22_1).f1), .int .i64 0, .int .i64 0, .int .i64 0]) ?_ 2 _ rfl; refine blk_put (cs := #[.int .i64 ((rd_T31 l0_1 x22_1).f0), .int .i64 0, .int .i64 0, .int .i64 0, .int .i64 0]) ?_ 1 _ rfl; refine blk_put (cs := #[.int .i64 0, .int .i64 0, .int .i64 0, .int .i64 0, .int .i64 0]) ?_ 0 _ rfl; (with_reducible repeat (first | refine blk_drewN ?_ _ | refine blk_drew ?_ | refine blk_alloc ?_ _)); exact BK781.out⟩, ⟨bl4 HB GE771 GE772 GE776 GE781⟩⟩
  clear H'
  try clear c1
  try clear c2
  try clear c2b0
  try clear c2b1
  try clear p2
  try clear p7
  try clear q7
  try clear hx7
  try clear c8
  try clear c14
  try clear c15
  try clear c17
  try clear c17b0
  try clear c18
  try clear c18b0
  try clear c19
  try clear c19b0
  try clear c21
  try clear c22
  try clear c23
  try clear c25
  try clear c26
  try clear hcz16_0
  try clear hcz16_1
  try clear hcz16_2
  try clear hcz24_0
  try clear hcz24_1
  try clear hcz24_2
  try clear hcz24_3
  try clear hcz24_4
  try clear hcz27_0
  try clear hcz27_1
  try clear hcz27_2
  try clear hfz16_0
  try clear hfz16_1
  try clear hfz16_2
  try clear hfz24_0
  try clear hfz24_1
  try clear hfz24_2
  try clear hfz24_3
  try clear hfz24_4
  try clear hfz27_0
  try clear hfz27_1
  try clear hfz27_2
  try clear hx780_0
  try clear hx780_1
  try clear hx780_2
  try clear hx780_3
  try clear hx780_4
  try clear p2
  try clear p780
  try clear q780
  obtain ⟨x6_2, x30_2, x782002_2, rfl, rfl, HA, HK2, HO_777001, BK771, BK772, BK776, BK781, HB⟩ := hrel
  cases gk with
  | zero => exact absurd HA.out (by simp [impl_Live_now.l1])
  | succ k2 =>
   have H := HA.out
   clear HA
   simp only [impl_Live_now.l1] at H
   by_cases c28 : x30_2 < (l0_2.length : Int)
   rotate_left
   ·rw [if_neg c28] at H
    have c28b0 : decide (x30_2 < (l0_2.length : Int)) = false := decide_eq_false c28
    clear c28
    obtain ⟨ji82, hji82⟩ : ∃ j_ : Int, (mn x782002_2 99) = j_ := ⟨_, rfl⟩
    replace H : (if x6_2 = true then (if x777001_1.length < 3518437208883 then (impl_Live_now.l0 k2 l0_1 (l0_1.length : Int) (wrap64 (x22_1 + 1)) a0_0 l0_1 l0_2 a0_0 (x777001_1 ++ [(⟨((rd_T31 l0_1 x22_1).f0), ((rd_T31 l0_1 x22_1).f1), ji82, ((rd_T31 l0_1 x22_1).f3), ((rd_T31 l0_1 x22_1).f4)⟩ : S31)])) else (none)) else (impl_Live_now.l0 k2 l0_1 (l0_1.length : Int) (wrap64 (x22_1 + 1)) a0_0 l0_1 l0_2 a0_0 x777001_1)) = some (r1, r2) := by first | (rw [hji82] at H; exact H) | (simp only [hji82] at H ⊢; exact H)
    have hji82_ : (if 99 < x782002_2 then 99 else x782002_2) = ji82 := hji82
    by_cases c83 : x6_2 = true
    rotate_left
    ·replace c83 := Bool.eq_false_iff.mpr c83
     subst c83
     rw [if_neg (show ¬ (false = true) by decide)] at H
     have H' := Aside0.mk H
     clear H
     have hnb95 := NB781_771.out
     have hnc95 := NB771_781.out
     have hnb96 := NB781_772.out
     have hnc96 := NB772_781.out
     have hnb97 := NB781_776.out
     have hnc97 := NB776_781.out
     have hcz98_0 := bc wr BK781 0 (.int .i64 ((rd_T31 l0_1 x22_1).f0)) rfl
     have hcz98_1 := bc wr BK781 1 (.int .i64 ((rd_T31 l0_1 x22_1).f1)) rfl
     have hcz98_2 := bc wr BK781 2 (.int .i64 x782002_2) rfl
     have hcz98_3 := bc wr BK781 3 (.int .i64 ((rd_T31 l0_1 x22_1).f3)) rfl
     have hcz98_4 := bc wr BK781 4 (.int .i64 ((rd_T31 l0_1 x22_1).f4)) rfl
     have hfz98_0 := fz BK781 0
     have hfz98_1 := fz BK781 1
     have hfz98_2 := fz BK781 2
     have hfz98_3 := fz BK781 3
     have hfz98_4 := fz BK781 4
     go_wp2
     go_roundg k2
     case measure => have := HK1.out; have := HK2.out; omega
     case rel => exact ⟨(wrap64 (x22_1 + 1)), (x777001_1), (u777001), (by first | rfl | (simp; done) | (simp [*]; done)), H', ⟨by have := HK1.out; have := HK2.out; omega⟩, ⟨by (with_reducible repeat (first | apply Kd.R_alloc | apply Kd.R_drewN | apply Kd.R_drew)); exact Kd.R_mono (Kd.R_far (p := ⟨gb781, 2, none⟩) (Kd.R_mono HO_777001.out (fun k_ hk => (⟨hk, hk⟩ : _ ∧ k_ ≠ gb781))) (fun _ hk => hk.2) (.int .i64 ji82)) (fun _ hk => trivial)⟩, ⟨by (with_reducible repeat (first | refine blk_drewN ?_ _ | refine blk_drew ?_ | refine blk_alloc ?_ _)); refine blk_far ?_ NB771_781.out _; (with_reducible repeat (first | refine blk_drewN ?_ _ | refine blk_drew ?_ | refine blk_alloc ?_ _)); exact BK771.out⟩, ⟨by (with_reducible repeat (first | refine blk_drewN ?_ _ | refine blk_drew ?_ | refine blk_alloc ?_ _)); refine blk_far ?_ NB772_781.out _; (with_reducible repeat (first | refine blk_drewN ?_ _ | refine blk_drew ?_ | refine blk_alloc ?_ _)); exact BK772.out⟩, ⟨by (with_reducible repeat (first | refine blk_drewN ?_ _ | refine blk_drew ?_ | refine blk_alloc ?_ _)); refine blk_far ?_ NB776_781.out _; (with_reducible repeat (first | refine blk_drewN ?_ _ | refine blk_drew ?_ | refine blk_alloc ?_ _)); exact BK776.out⟩, ⟨bl4 HB GE771 GE772 GE776 GE781⟩⟩
    subst c83
    rw [if_pos rfl] at H
    by_cases c84 : x777001_1.length < 3518437208883
    rotate_left
    ·rw [if_neg c84] at H
     exact absurd H (by simp)
    rw [if_pos c84] at H
    have LMc84 := Aside0.mk c84
    clear c84
    obtain ⟨y782, hy782⟩ : ∃ y_ : List (S31), y_ = (x777001_1 ++ [(⟨((rd_T31 l0_1 x22_1).f0), ((rd_T31 l0_1 x22_1).f1), ji82, ((rd_T31 l0_1 x22_1).f3), ((rd_T31 l0_1 x22_1).f4)⟩ : S31)]) := ⟨_, rfl⟩
    replace H : (impl_Live_now.l0 k2 l0_1 (l0_1.length : Int) (wrap64 (x22_1 + 1)) a0_0 l0_1 l0_2 a0_0 y782) = some (r1, r2) := by first | (rw [hy782]; with_reducible exact H) | (have H2_ := (Option.bind_some _ _).symm.trans H; rw [hy782]; with_reducible exact H2_) | (have H2_ := (Option.bind_some _ _).symm.trans H; with_reducible exact H2_) | with_reducible exact H | (rw [hy782]; exact H) | exact H
    have Ny782 := Aside0.mk hy782
    clear hy782
    have H' := Aside0.mk H
    clear H
    have hnb85 := NB781_771.out
    have hnc85 := NB771_781.out
    have hnb86 := NB781_772.out
    have hnc86 := NB772_781.out
    have hnb87 := NB781_776.out
    have hnc87 := NB776_781.out
    have hcz88_0 := bc wr BK781 0 (.int .i64 ((rd_T31 l0_1 x22_1).f0)) rfl
    have hcz88_1 := bc wr BK781 1 (.int .i64 ((rd_T31 l0_1 x22_1).f1)) rfl
    have hcz88_2 := bc wr BK781 2 (.int .i64 x782002_2) rfl
    have hcz88_3 := bc wr BK781 3 (.int .i64 ((rd_T31 l0_1 x22_1).f3)) rfl
    have hcz88_4 := bc wr BK781 4 (.int .i64 ((rd_T31 l0_1 x22_1).f4)) rfl
    have hfz88_0 := fz BK781 0
    have hfz88_1 := fz BK781 1
    have hfz88_2 := fz BK781 2
    have hfz88_3 := fz BK781 3
    have hfz88_4 := fz BK781 4
    have hnb89 := NB776_771.out
    have hnc89 := NB771_776.out
    have hnb90 := NB776_772.out
    have hnc90 := NB772_776.out
    have hcz91_0 := bc wr BK776 0 (.int .i64 a0_0) rfl
    have hcz91_1 := bc wr BK776 1 (u777001) rfl
    have hfz91_0 := fz BK776 0
    have hfz91_1 := fz BK776 1
    go_wp2_with (first | ((with_reducible refine gate_builtin (b := .append) (xs := #[.tmp 63, .tmp 65]) rfl ?_); at_builtin; refine Kd.R_append k31 (w0 := w) w.heap.size rfl (.tmp 63) (.tmp 65) 23 31 (.agg #[(.int .i64 0), (.int .i64 0), (.int .i64 0), (.int .i64 0), (.int .i64 0)]) 40 rfl Try.underlying23 info31 rfl (by decide) (by omega) u777001 x777001_1 (⟨((rd_T31 l0_1 x22_1).f0), ((rd_T31 l0_1 x22_1).f1), ji82, ((rd_T31 l0_1 x22_1).f3), ((rd_T31 l0_1 x22_1).f4)⟩ : S31) [.int .i64 ((rd_T31 l0_1 x22_1).f0), .int .i64 ((rd_T31 l0_1 x22_1).f1), .int .i64 ji82, .int .i64 ((rd_T31 l0_1 x22_1).f3), .int .i64 ((rd_T31 l0_1 x22_1).f4)] (fun k_ => k_ ≠ gb781) (fun _ => False) rfl (by first | (go_simp; done) | (go_simp; rfl)) ?aP (fun _ hk => hk.elim) ?aF ?aO ?aB ?aS ?aL ?_; (case aP => exact k31_mkM _ _ _ (⟨((rd_T31 l0_1 x22_1).f0), ((rd_T31 l0_1 x22_1).f1), ji82, ((rd_T31 l0_1 x22_1).f3), ((rd_T31 l0_1 x22_1).f4)⟩ : S31)); (case aB => exact (bl4 HB GE771 GE772 GE776 GE781)); (case aF => exact (fun k_ hk => Kd.freshB (g := gb781) (o := .cells #[.int .i64 ((rd_T31 l0_1 x22_1).f0), .int .i64 ((rd_T31 l0_1 x22_1).f1), .int .i64 ji82, .int .i64 ((rd_T31 l0_1 x22_1).f3), .int .i64 ((rd_T31 l0_1 x22_1).f4)] 31 (0, 0)) (by (with_reducible repeat (first | refine blk_drewN ?_ _ | refine blk_drew ?_ | refine blk_alloc ?_ _)); refine blk_put (cs := #[.int .i64 ((rd_T31 l0_1 x22_1).f0), .int .i64 ((rd_T31 l0_1 x22_1).f1), .int .i64 x782002_2, .int .i64 ((rd_T31 l0_1 x22_1).f3), .int .i64 ((rd_T31 l0_1 x22_1).f4)]) ?_ 2 _ rfl; (with_reducible repeat (first | refine blk_drewN ?_ _ | refine blk_drew ?_ | refine blk_alloc ?_ _)); exact BK781.out) k_ hk)); (case aO => exact (by (with_reducible repeat (first | apply Kd.R_alloc | apply Kd.R_drewN | apply Kd.R_drew)); exact Kd.R_mono (Kd.R_far (p := ⟨gb781, 2, none⟩) (Kd.R_mono HO_777001.out (fun k_ hk => (⟨hk, hk⟩ : _ ∧ k_ ≠ gb781))) (fun _ hk => hk.2) (.int .i64 ji82)) (fun _ hk => hk.1))); (case aS => exact (below_size (bl4 HB GE771 GE772 GE776 GE781))); (case aL => have := LMc84.out; omega); intro v783 w92 ho hb hg hat; rw [← Ny782.out] at ho; have n0_ := Aside0.mk (blk_grown (g := gb771) (o := .cells #[.int .i64 a0_0, .slice (some ad780) l0_1.length c0_1, .slice A0_2 l0_2.length c0_2] 57 (0, 0)) (by (with_reducible repeat (first | refine blk_drewN ?_ _ | refine blk_drew ?_ | refine blk_alloc ?_ _)); refine blk_far ?_ NB771_781.out _; (with_reducible repeat (first | refine blk_drewN ?_ _ | refine blk_drew ?_ | refine blk_alloc ?_ _)); exact BK771.out) hg (Kd.R_ne HO_777001.out BK771.out (by decide))); have n1_ := Aside0.mk (blk_grown (g := gb772) (o := .cells #[.int .i64 0, .slice none 0 0] 25 (0, 0)) (by (with_reducible repeat (first | refine blk_drewN ?_ _ | refine blk_drew ?_ | refine blk_alloc ?_ _)); refine blk_far ?_ NB772_781.out _; (with_reducible repeat (first | refine blk_drewN ?_ _ | refine blk_drew ?_ | refine blk_alloc ?_ _)); exact BK772.out) hg (Kd.R_ne HO_777001.out BK772.out (by decide))); have n2_ := Aside0.mk (blk_grown (g := gb776) (o := .cells #[.int .i64 a0_0, u777001] 25 (0, 0)) (by (with_reducible repeat (first | refine blk_drewN ?_ _ | refine blk_drew ?_ | refine blk_alloc ?_ _)); refine blk_far ?_ NB776_781.out _; (with_reducible repeat (first | refine blk_drewN ?_ _ | refine blk_drew ?_ | refine blk_alloc ?_ _)); exact BK776.out) hg (Kd.R_ne HO_777001.out BK776.out (by decide))); have n3_ := Aside0.mk (blk_grown (g := gb781) (o := .cells #[.int .i64 ((rd_T31 l0_1 x22_1).f0), .int .i64 ((rd_T31 l0_1 x22_1).f1), .int .i64 ji82, .int .i64 ((rd_T31 l0_1 x22_1).f3), .int .i64 ((rd_T31 l0_1 x22_1).f4)] 31 (0, 0)) (by (with_reducible repeat (first | refine blk_drewN ?_ _ | refine blk_drew ?_ | refine blk_alloc ?_ _)); refine blk_put (cs := #[.int .i64 ((rd_T31 l0_1 x22_1).f0), .int .i64 ((rd_T31 l0_1 x22_1).f1), .int .i64 x782002_2, .int .i64 ((rd_T31 l0_1 x22_1).f3), .int .i64 ((rd_T31 l0_1 x22_1).f4)]) ?_ 2 _ rfl; (with_reducible repeat (first | refine blk_drewN ?_ _ | refine blk_drew ?_ | refine blk_alloc ?_ _)); exact BK781.out) hg (Kd.R_away HO_777001.out (fun _ hk => hk))); have n4_ := Aside0.mk (hb); have n5_ := Aside0.mk (ho); clear BK771; clear BK772; clear BK776; clear BK781; clear HB; clear HO_777001; have BK771 := n0_; have BK772 := n1_; have BK776 := n2_; have BK781 := n3_; have HB := n4_; have HO784 := n5_; clear n0_ n1_ n2_ n3_ n4_ n5_; clear ho hb hg hat; obtain ⟨Ao93, co93, eo93⟩ := Kd.R_slice HO784.out; subst eo93; have hcz94_0 := bc w92 BK776 0 (.int .i64 a0_0) rfl; have hcz94_1 := bc w92 BK776 1 (u777001) rfl; have hfz94_0 := fz BK776 0; have hfz94_1 := fz BK776 1))
    go_roundg k2
    case measure => have := HK1.out; have := HK2.out; omega
    case rel => exact ⟨(wrap64 (x22_1 + 1)), (y782), (.slice Ao93 y782.length co93), (by first | rfl | (simp; done) | (simp [*]; done)), H', ⟨by have := HK1.out; have := HK2.out; omega⟩, ⟨by (with_reducible repeat (first | apply Kd.R_alloc | apply Kd.R_drewN | apply Kd.R_drew)); exact Kd.R_mono (Kd.R_far (p := ⟨gb776, 1, none⟩) (Kd.R_types HO784.out BK776.out (by decide)) (fun _ hk => hk.2) (.slice Ao93 y782.length co93)) (fun _ hk => trivial)⟩, ⟨by (with_reducible repeat (first | refine blk_drewN ?_ _ | refine blk_drew ?_ | refine blk_alloc ?_ _)); refine blk_far ?_ NB771_776.out _; (with_reducible repeat (first | refine blk_drewN ?_ _ | refine blk_drew ?_ | refine blk_alloc ?_ _)); exact BK771.out⟩, ⟨by (with_reducible repeat (first | refine blk_drewN ?_ _ | refine blk_drew ?_ | refine blk_alloc ?_ _)); refine blk_far ?_ NB772_776.out _; (with_reducible repeat (first | refine blk_drewN ?_ _ | refine blk_drew ?_ | refine blk_alloc ?_ _)); exact BK772.out⟩, ⟨by (with_reducible repeat (first | refine blk_drewN ?_ _ | refine blk_drew ?_ | refine blk_alloc ?_ _)); refine blk_put (cs := #[.int .i64 a0_0, u777001]) ?_ 1 _ rfl; (with_reducible repeat (first | refine blk_drewN ?_ _ | refine blk_drew ?_ | refine blk_alloc ?_ _)); exact BK776.out⟩, ⟨bl4 HB GE771 GE772 GE776 GE781⟩⟩
   rw [if_pos c28] at H
   have c28b0 : decide (x30_2 < (l0_2.length : Int)) = true := decide_eq_true c28
   clear c28
   by_cases c29 : 0 ≤ x30_2
   rotate_left
   ·rw [if_neg c29] at H
    exact absurd H (by simp)
   rw [if_pos c29] at H
   have c29b0 : decide (0 ≤ x30_2) = true := decide_eq_true c29
   clear c29
   by_cases c30 : x30_2 < (l0_2.length : Int)
   rotate_left
   ·rw [if_neg c30] at H
    exact absurd H (by simp)
   rw [if_pos c30] at H
   have c30b0 : decide (x30_2 < (l0_2.length : Int)) = true := decide_eq_true c30
   clear c30
   have HC31 := Aside0.mk H
   clear H
   have p785 : 0 ≤ (x30_2 : Int) := oT (by first | (with_reducible assumption) | assumption)
   have q785 : x30_2 < (l0_2.length : Int) := oT (by first | (with_reducible assumption) | assumption)
   obtain ⟨ad785, e785, hx785_0, hx785_1, hx785_2⟩ := at_T64 HR0_2.out x30_2 p785 q785
   cases e785
   replace hx785_0 := hcb HB.out hx785_0
   replace hx785_1 := hcb HB.out hx785_1
   replace hx785_2 := hcb HB.out hx785_2
   replace p785 := eq_true p785
   replace q785 := eq_true q785
   go_upto_region 9 with (first | ((with_reducible refine gate_dst (N := 8) rfl ?_); refine box_event ?hg (N := 8) ?hd (cs := #[.int .i64 0, .int .i64 0, .int .i64 0]) (t := 64) ?hr ?_; (case hd => rfl); (case hg => rfl); (case hr => first | (go_simp; done) | (go_simp; rfl)); intro gb786 hg w32 hbox hb; replace HO_777001 := Aside0.mk (Kd.R_below (rk HO_777001) hb); have BK786 := Aside0.mk (hbox); have GW786 := Aside0.mk ((by rw [hg]; exact (below_size (bl4 HB GE771 GE772 GE776 GE781)) : w.heap.size ≤ gb786)); have GE786 := Aside0.mk ((by rw [hg]; exact (below_size (bl4 HB GE771 GE772 GE776 GE781)) : w.heap.size ≤ gb786)); replace HB := Aside0.mk (below_step (bl4 HB GE771 GE772 GE776 GE781) hb); have NB771_786 := Aside0.mk ((by rw [hg]; exact Nat.ne_of_lt (blk_lt (bk BK771)) : gb771 ≠ gb786)); have NB786_771 := Aside0.mk ((by rw [hg]; exact Nat.ne_of_gt (blk_lt (bk BK771)) : gb786 ≠ gb771)); replace BK771 := Aside0.mk (blk_below (bk BK771) hb); have NB772_786 := Aside0.mk ((by rw [hg]; exact Nat.ne_of_lt (blk_lt (bk BK772)) : gb772 ≠ gb786)); have NB786_772 := Aside0.mk ((by rw [hg]; exact Nat.ne_of_gt (blk_lt (bk BK772)) : gb786 ≠ gb772)); replace BK772 := Aside0.mk (blk_below (bk BK772) hb); have NB776_786 := Aside0.mk ((by rw [hg]; exact Nat.ne_of_lt (blk_lt (bk BK776)) : gb776 ≠ gb786)); have NB786_776 := Aside0.mk ((by rw [hg]; exact Nat.ne_of_gt (blk_lt (bk BK776)) : gb786 ≠ gb776)); replace BK776 := Aside0.mk (blk_below (bk BK776) hb); have NB781_786 := Aside0.mk ((by rw [hg]; exact Nat.ne_of_lt (blk_lt (bk BK781)) : gb781 ≠ gb786)); have NB786_781 := Aside0.mk ((by rw [hg]; exact Nat.ne_of_gt (blk_lt (bk BK781)) : gb786 ≠ gb781)); replace BK781 := Aside0.mk (blk_below (bk BK781) hb); clear hb hbox hg; have hnb33 := NB786_771.out; have hnc33 := NB771_786.out; have hnb34 := NB786_772.out; have hnc34 := NB772_786.out; have hnb35 := NB786_776.out; have hnc35 := NB776_786.out; have hnb36 := NB786_781.out; have hnc36 := NB781_786.out; have hcz37_0 := bc w32 BK786 0 (.int .i64 0) rfl; have hcz37_1 := bc w32 BK786 1 (.int .i64 0) rfl; have hcz37_2 := bc w32 BK786 2 (.int .i64 0) rfl; have hfz37_0 := fz BK786 0; have hfz37_1 := fz BK786 1; have hfz37_2 := fz BK786 2))
   (try simp only [Act.put, List.setIfInBounds_toArray, List.set_cons_zero, List.set_cons_succ])
   go_cut [42] (fun v42 wc => ∃ (kq : Nat) (x42_30 : Bool), v42 = .bool x42_30 ∧ Aside0 (impl_Live_now.j2 kq x22_1 x6_2 l0_1 (l0_1.length : Int) x22_1 l0_2 (l0_2.length : Int) x30_2 x42_30 a0_0 l0_1 l0_2 a0_0 x777001_1 ((rd_T31 l0_1 x22_1).f0) ((rd_T31 l0_1 x22_1).f1) x782002_2 ((rd_T31 l0_1 x22_1).f3) ((rd_T31 l0_1 x22_1).f4) ((rd_T64 l0_2 x30_2).f0) ((rd_T64 l0_2 x30_2).f1) ((rd_T64 l0_2 x30_2).f2) = some (r1, r2)) ∧ Aside0 (kq ≤ k2) ∧ Aside0 (Kd.R k31 31 wc w.heap.size (fun k_ => k_ ≠ gb781) u777001 x777001_1) ∧ Aside0 (wc.heap[gb771]? = some (.cells #[.int .i64 a0_0, (.slice (some ad780) l0_1.length c0_1), (.slice (some ad785) l0_2.length c0_2)] 57 (0, 0))) ∧ Aside0 (wc.heap[gb772]? = some (.cells #[.int .i64 0, (.slice none 0 0)] 25 (0, 0))) ∧ Aside0 (wc.heap[gb776]? = some (.cells #[.int .i64 a0_0, u777001] 25 (0, 0))) ∧ Aside0 (wc.heap[gb781]? = some (.cells #[.int .i64 ((rd_T31 l0_1 x22_1).f0), .int .i64 ((rd_T31 l0_1 x22_1).f1), .int .i64 x782002_2, .int .i64 ((rd_T31 l0_1 x22_1).f3), .int .i64 ((rd_T31 l0_1 x22_1).f4)] 31 (0, 0))) ∧ Aside0 (wc.heap[gb786]? = some (.cells #[.int .i64 ((rd_T64 l0_2 x30_2).f0), .int .i64 ((rd_T64 l0_2 x30_2).f1), .int .i64 ((rd_T64 l0_2 x30_2).f2)] 64 (0, 0))) ∧ Aside0 (Below w.heap.size w wc))
   case first =>
    have H := HC31.out
    clear HC31
    by_cases c38 : ((rd_T64 l0_2 x30_2).f1) = x22_1
    rotate_left
    ·rw [if_neg c38] at H
     have c38b0 : (((rd_T64 l0_2 x30_2).f1) == x22_1) = false := beq_eq_false_iff_ne.mpr c38
     have c38b1 : (((rd_T64 l0_2 x30_2).f1) != x22_1) = true := bne_iff_ne.mpr c38
     (first | rw [c38b0] | (simp only [i64_w, i32_w]; rw [c38b0]) | skip)
     have H' := Aside0.mk H
     clear H
     have hnb44 := NB786_771.out
     have hnc44 := NB771_786.out
     have hnb45 := NB786_772.out
     have hnc45 := NB772_786.out
     have hnb46 := NB786_776.out
     have hnc46 := NB776_786.out
     have hnb47 := NB786_781.out
     have hnc47 := NB781_786.out
     have hcz48_0 := bc w32 BK786 0 (.int .i64 0) rfl
     have hcz48_1 := bc w32 BK786 1 (.int .i64 0) rfl
     have hcz48_2 := bc w32 BK786 2 (.int .i64 0) rfl
     have hfz48_0 := fz BK786 0
     have hfz48_1 := fz BK786 1
     have hfz48_2 := fz BK786 2
     go_wp2
     go_meet
     case rel => exact ⟨_, (false), (by first | rfl | (simp; done) | (simp [*]; done)), H', ⟨by have := HK1.out; have := HK2.out; first | omega | exact Nat.le_refl _⟩, ⟨by (with_reducible repeat (first | apply Kd.R_alloc | apply Kd.R_drewN | apply Kd.R_drew)); exact Kd.R_mono (Kd.R_far (p := ⟨gb786, 2, none⟩) (Kd.R_far (p := ⟨gb786, 1, none⟩) (Kd.R_far (p := ⟨gb786, 0, none⟩) (Kd.R_types HO_777001.out BK786.out (by decide)) (fun _ hk => hk.2) (.int .i64 ((rd_T64 l0_2 x30_2).f0))) (fun _ hk => hk.2) (.int .i64 ((rd_T64 l0_2 x30_2).f1))) (fun _ hk => hk.2) (.int .i64 ((rd_T64 l0_2 x30_2).f2))) (fun _ hk => hk.1)⟩, ⟨by (with_reducible repeat (first | refine blk_drewN ?_ _ | refine blk_drew ?_ | refine blk_alloc ?_ _)); refine blk_far ?_ NB771_786.out _; refine blk_far ?_ NB771_786.out _; refine blk_far ?_ NB771_786.out _; (with_reducible repeat (first | refine blk_drewN ?_ _ | refine blk_drew ?_ | refine blk_alloc ?_ _)); exact BK771.out⟩, ⟨by (with_reducible repeat (first | refine blk_drewN ?_ _ | refine blk_drew ?_ | refine blk_alloc ?_ _)); refine blk_far ?_ NB772_786.out _; refine blk_far ?_ NB772_786.out _; refine blk_far ?_ NB772_786.out _; (with_reducible repeat (first | refine blk_drewN ?_ _ | refine blk_drew ?_ | refine blk_alloc ?_ _)); exact BK772.out⟩, ⟨by (with_reducible repeat (first | refine blk_drewN ?_ _ | refine blk_drew ?_ | refine blk_alloc ?_ _)); refine blk_far ?_ NB776_786.out _; refine blk_far ?_ NB776_786.out _; refine blk_far ?_ NB776_786.out _; (with_reducible repeat (first | refine blk_drewN ?_ _ | refine blk_drew ?_ | refine blk_alloc ?_ _)); exact BK776.out⟩, ⟨by (with_reducible repeat (first | refine blk_drewN ?_ _ | refine blk_drew ?_ | refine blk_alloc ?_ _)); refine blk_far ?_ NB781_786.out _; refine blk_far ?_ NB781_786.out _; refine blk_far ?_ NB781_786.out _; (with_reducible repeat (first | refine blk_drewN ?_ _ | refine blk_drew ?_ | refine blk_alloc ?_ _)); exact BK781.out⟩, ⟨by (with_reducible repeat (first | refine blk_drewN ?_ _ | refine blk_drew ?_ | refine blk_alloc ?_ _)); refine blk_put (cs := #[.int .i64 ((rd_T64 l0_2 x30_2).f0), .int .i64 ((rd_T64 l0_2 x30_2).f1), .int .i64 0]) ?_ 2 _ rfl; refine blk_put (cs := #[.int .i64 ((rd_T64 l0_2 x30_2).f0), .int .i64 0, .int .i64 0]) ?_ 1 _ rfl; refine blk_put (cs := #[.int .i64 0, .int .i64 0, .int .i64 0]) ?_ 0 _ rfl; (with_reducible repeat (first | refine blk_drewN ?_ _ | refine blk_drew ?_ | refine blk_alloc ?_ _)); exact BK786.out⟩, ⟨by repeat (first | (with_reducible first | exact HB.out | apply below_alloc | apply pw_below_drewN | apply below_drew1 | refine below_set ?_ GE771.out | refine below_set ?_ GE772.out | refine below_set ?_ GE776.out | refine below_set ?_ GE781.out | refine below_set ?_ GE786.out) | exact HB.out)⟩⟩
    rw [if_pos c38] at H
    have c38b0 : (((rd_T64 l0_2 x30_2).f1) == x22_1) = true := beq_iff_eq.mpr c38
    have c38b1 : (((rd_T64 l0_2 x30_2).f1) != x22_1) = false := bne_eq_false_iff_eq.mpr c38
    clear c38
    (first | rw [c38b0] | (simp only [i64_w, i32_w]; rw [c38b0]) | skip)
    have H' := Aside0.mk H
    clear H
    have hnb39 := NB786_771.out
    have hnc39 := NB771_786.out
    have hnb40 := NB786_772.out
    have hnc40 := NB772_786.out
    have hnb41 := NB786_776.out
    have hnc41 := NB776_786.out
    have hnb42 := NB786_781.out
    have hnc42 := NB781_786.out
    have hcz43_0 := bc w32 BK786 0 (.int .i64 0) rfl
    have hcz43_1 := bc w32 BK786 1 (.int .i64 0) rfl
    have hcz43_2 := bc w32 BK786 2 (.int .i64 0) rfl
    have hfz43_0 := fz BK786 0
    have hfz43_1 := fz BK786 1
    have hfz43_2 := fz BK786 2
    go_wp2
    go_meet
    case rel => exact ⟨_, ((((rd_T64 l0_2 x30_2).f2) == (-1))), (by first | rfl | (simp; done) | (simp [*]; done)), H', ⟨by have := HK1.out; have := HK2.out; first | omega | exact Nat.le_refl _⟩, ⟨by (with_reducible repeat (first | apply Kd.R_alloc | apply Kd.R_drewN | apply Kd.R_drew)); exact Kd.R_mono (Kd.R_far (p := ⟨gb786, 2, none⟩) (Kd.R_far (p := ⟨gb786, 1, none⟩) (Kd.R_far (p := ⟨gb786, 0, none⟩) (Kd.R_types HO_777001.out BK786.out (by decide)) (fun _ hk => hk.2) (.int .i64 ((rd_T64 l0_2 x30_2).f0))) (fun _ hk => hk.2) (.int .i64 ((rd_T64 l0_2 x30_2).f1))) (fun _ hk => hk.2) (.int .i64 ((rd_T64 l0_2 x30_2).f2))) (fun _ hk => hk.1)⟩, ⟨by (with_reducible repeat (first | refine blk_drewN ?_ _ | refine blk_drew ?_ | refine blk_alloc ?_ _)); refine blk_far ?_ NB771_786.out _; refine blk_far ?_ NB771_786.out _; refine blk_far ?_ NB771_786.out _; (with_reducible repeat (first | refine blk_drewN ?_ _ | refine blk_drew ?_ | refine blk_alloc ?_ _)); exact BK771.out⟩, ⟨by (with_reducible repeat (first | refine blk_drewN ?_ _ | refine blk_drew ?_ | refine blk_alloc ?_ _)); refine blk_far ?_ NB772_786.out _; refine blk_far ?_ NB772_786.out _; refine blk_far ?_ NB772_786.out _; (with_reducible repeat (first | refine blk_drewN ?_ _ | refine blk_drew ?_ | refine blk_alloc ?_ _)); exact BK772.out⟩, ⟨by (with_reducible repeat (first | refine blk_drewN ?_ _ | refine blk_drew ?_ | refine blk_alloc ?_ _)); refine blk_far ?_ NB776_786.out _; refine blk_far ?_ NB776_786.out _; refine blk_far ?_ NB776_786.out _; (with_reducible repeat (first | refine blk_drewN ?_ _ | refine blk_drew ?_ | refine blk_alloc ?_ _)); exact BK776.out⟩, ⟨by (with_reducible repeat (first | refine blk_drewN ?_ _ | refine blk_drew ?_ | refine blk_alloc ?_ _)); refine blk_far ?_ NB781_786.out _; refine blk_far ?_ NB781_786.out _; refine blk_far ?_ NB781_786.out _; (with_reducible repeat (first | refine blk_drewN ?_ _ | refine blk_drew ?_ | refine blk_alloc ?_ _)); exact BK781.out⟩, ⟨by (with_reducible repeat (first | refine blk_drewN ?_ _ | refine blk_drew ?_ | refine blk_alloc ?_ _)); refine blk_put (cs := #[.int .i64 ((rd_T64 l0_2 x30_2).f0), .int .i64 ((rd_T64 l0_2 x30_2).f1), .int .i64 0]) ?_ 2 _ rfl; refine blk_put (cs := #[.int .i64 ((rd_T64 l0_2 x30_2).f0), .int .i64 0, .int .i64 0]) ?_ 1 _ rfl; refine blk_put (cs := #[.int .i64 0, .int .i64 0, .int .i64 0]) ?_ 0 _ rfl; (with_reducible repeat (first | refine blk_drewN ?_ _ | refine blk_drew ?_ | refine blk_alloc ?_ _)); exact BK786.out⟩, ⟨by repeat (first | (with_reducible first | exact HB.out | apply below_alloc | apply pw_below_drewN | apply below_drew1 | refine below_set ?_ GE771.out | refine below_set ?_ GE772.out | refine below_set ?_ GE776.out | refine below_set ?_ GE781.out | refine below_set ?_ GE786.out) | exact HB.out)⟩⟩
   clear HC31
   try clear c1
   try clear c2
   try clear c2b0
   try clear c2b1
   try clear p2
   try clear c3
   try clear c4
   try clear p7
   try clear q7
   try clear hx7
   try clear c8
   try clear c14
   try clear c15
   try clear c17
   try clear c17b0
   try clear c18
   try clear c18b0
   try clear c19
   try clear c19b0
   try clear c21
   try clear c22
   try clear c23
   try clear c25
   try clear c26
   try clear c28
   try clear c28b0
   try clear c29
   try clear c29b0
   try clear c30
   try clear c30b0
   try clear c33
   try clear c34
   try clear c35
   try clear c36
   try clear c38
   try clear c38b0
   try clear c38b1
   try clear c39
   try clear c40
   try clear c41
   try clear c42
   try clear c44
   try clear c45
   try clear c46
   try clear c47
   try clear hcz16_0
   try clear hcz16_1
   try clear hcz16_2
   try clear hcz24_0
   try clear hcz24_1
   try clear hcz24_2
   try clear hcz24_3
   try clear hcz24_4
   try clear hcz27_0
   try clear hcz27_1
   try clear hcz27_2
   try clear hcz37_0
   try clear hcz37_1
   try clear hcz37_2
   try clear hcz43_0
   try clear hcz43_1
   try clear hcz43_2
   try clear hcz48_0
   try clear hcz48_1
   try clear hcz48_2
   try clear hfz16_0
   try clear hfz16_1
   try clear hfz16_2
   try clear hfz24_0
   try clear hfz24_1
   try clear hfz24_2
   try clear hfz24_3
   try clear hfz24_4
   try clear hfz27_0
   try clear hfz27_1
   try clear hfz27_2
   try clear hfz37_0
   try clear hfz37_1
   try clear hfz37_2
   try clear hfz43_0
   try clear hfz43_1
   try clear hfz43_2
   try clear hfz48_0
   try clear hfz48_1
   try clear hfz48_2
   try clear hx780_0
   try clear hx780_1
   try clear hx780_2
   try clear hx780_3
   try clear hx780_4
   try clear hx785_0
   try clear hx785_1
   try clear hx785_2
   try clear p2
   try clear p7
   try clear p780
   try clear p785
   try clear q7
   try clear q780
   try clear q785
   obtain ⟨kq, x42_30, rfl, HA, HJ30, HO_777001, BK771, BK772, BK776, BK781, BK786, HB⟩ := hcut
   cases kq with
   | zero => exact absurd HA.out (by simp [impl_Live_now.j2])
   | succ kj30 =>
    have H := HA.out
    clear HA
    simp only [impl_Live_now.j2] at H
    by_cases c49 : x42_30 = true
    ·subst c49
     rw [if_pos rfl] at H
     by_cases c50 : ((rd_T64 l0_2 x30_2).f1) = x22_1
     rotate_left
     ·rw [if_neg c50] at H
      have c50b0 : (((rd_T64 l0_2 x30_2).f1) == x22_1) = false := beq_eq_false_iff_ne.mpr c50
      have c50b1 : (((rd_T64 l0_2 x30_2).f1) != x22_1) = true := bne_iff_ne.mpr c50
      have H' := Aside0.mk H
      clear H
      have hnb56 := NB786_771.out
      have hnc56 := NB771_786.out
      have hnb57 := NB786_772.out
      have hnc57 := NB772_786.out
      have hnb58 := NB786_776.out
      have hnc58 := NB776_786.out
      have hnb59 := NB786_781.out
      have hnc59 := NB781_786.out
      have hcz60_0 := bc wc BK786 0 (.int .i64 ((rd_T64 l0_2 x30_2).f0)) rfl
      have hcz60_1 := bc wc BK786 1 (.int .i64 ((rd_T64 l0_2 x30_2).f1)) rfl
      have hcz60_2 := bc wc BK786 2 (.int .i64 ((rd_T64 l0_2 x30_2).f2)) rfl
      have hfz60_0 := fz BK786 0
      have hfz60_1 := fz BK786 1
      have hfz60_2 := fz BK786 2
      go_wp2
      go_roundg kj30
      case measure => have := HK1.out; have := HK2.out; have := HJ30.out; omega
      case rel => exact ⟨(false), (wrap64 (x30_2 + 1)), (x782002_2), (by first | rfl | (simp; done) | (simp [*]; done)), (by first | rfl | (simp; done) | (simp [*]; done)), H', ⟨by have := HK1.out; have := HK2.out; have := HJ30.out; omega⟩, ⟨rk HO_777001⟩, ⟨bk BK771⟩, ⟨bk BK772⟩, ⟨bk BK776⟩, ⟨bk BK781⟩, ⟨by repeat (first | (with_reducible first | exact HB.out | apply below_alloc | apply pw_below_drewN | apply below_drew1 | refine below_set ?_ GE771.out | refine below_set ?_ GE772.out | refine below_set ?_ GE776.out | refine below_set ?_ GE781.out | refine below_set ?_ GE786.out) | exact HB.out)⟩⟩
     rw [if_pos c50] at H
     have c50b0 : (((rd_T64 l0_2 x30_2).f1) == x22_1) = true := beq_iff_eq.mpr c50
     have c50b1 : (((rd_T64 l0_2 x30_2).f1) != x22_1) = false := bne_eq_false_iff_eq.mpr c50
     clear c50
     have H' := Aside0.mk H
     clear H
     have hnb51 := NB786_771.out
     have hnc51 := NB771_786.out
     have hnb52 := NB786_772.out
     have hnc52 := NB772_786.out
     have hnb53 := NB786_776.out
     have hnc53 := NB776_786.out
     have hnb54 := NB786_781.out
     have hnc54 := NB781_786.out
     have hcz55_0 := bc wc BK786 0 (.int .i64 ((rd_T64 l0_2 x30_2).f0)) rfl
     have hcz55_1 := bc wc BK786 1 (.int .i64 ((rd_T64 l0_2 x30_2).f1)) rfl
     have hcz55_2 := bc wc BK786 2 (.int .i64 ((rd_T64 l0_2 x30_2).f2)) rfl
     have hfz55_0 := fz BK786 0
     have hfz55_1 := fz BK786 1
     have hfz55_2 := fz BK786 2
     go_wp2
     go_roundg kj30
     case measure => have := HK1.out; have := HK2.out; have := HJ30.out; omega
     case rel => exact ⟨(false), (wrap64 (x30_2 + 1)), (x782002_2), (by first | rfl | (simp; done) | (simp [*]; done)), (by first | rfl | (simp; done) | (simp [*]; done)), H', ⟨by have := HK1.out; have := HK2.out; have := HJ30.out; omega⟩, ⟨rk HO_777001⟩, ⟨bk BK771⟩, ⟨bk BK772⟩, ⟨bk BK776⟩, ⟨bk BK781⟩, ⟨by repeat (first | (with_reducible first | exact HB.out | apply below_alloc | apply pw_below_drewN | apply below_drew1 | refine below_set ?_ GE771.out | refine below_set ?_ GE772.out | refine below_set ?_ GE776.out | refine below_set ?_ GE781.out | refine below_set ?_ GE786.out) | exact HB.out)⟩⟩
    replace c49 := Bool.eq_false_iff.mpr c49
    subst c49
    rw [if_neg (show ¬ (false = true) by decide)] at H
    by_cases c61 : ((rd_T64 l0_2 x30_2).f1) = x22_1
    rotate_left
    ·rw [if_neg c61] at H
     have c61b0 : (((rd_T64 l0_2 x30_2).f1) == x22_1) = false := beq_eq_false_iff_ne.mpr c61
     have c61b1 : (((rd_T64 l0_2 x30_2).f1) != x22_1) = true := bne_iff_ne.mpr c61
     have H' := Aside0.mk H
     clear H
     have hnb77 := NB786_771.out
     have hnc77 := NB771_786.out
     have hnb78 := NB786_772.out
     have hnc78 := NB772_786.out
     have hnb79 := NB786_776.out
     have hnc79 := NB776_786.out
     have hnb80 := NB786_781.out
     have hnc80 := NB781_786.out
     have hcz81_0 := bc wc BK786 0 (.int .i64 ((rd_T64 l0_2 x30_2).f0)) rfl
     have hcz81_1 := bc wc BK786 1 (.int .i64 ((rd_T64 l0_2 x30_2).f1)) rfl
     have hcz81_2 := bc wc BK786 2 (.int .i64 ((rd_T64 l0_2 x30_2).f2)) rfl
     have hfz81_0 := fz BK786 0
     have hfz81_1 := fz BK786 1
     have hfz81_2 := fz BK786 2
     go_wp2
     go_roundg kj30
     case measure => have := HK1.out; have := HK2.out; have := HJ30.out; omega
     case rel => exact ⟨(x6_2), (wrap64 (x30_2 + 1)), (x782002_2), (by first | rfl | (simp; done) | (simp [*]; done)), (by first | rfl | (simp; done) | (simp [*]; done)), H', ⟨by have := HK1.out; have := HK2.out; have := HJ30.out; omega⟩, ⟨rk HO_777001⟩, ⟨bk BK771⟩, ⟨bk BK772⟩, ⟨bk BK776⟩, ⟨bk BK781⟩, ⟨by repeat (first | (with_reducible first | exact HB.out | apply below_alloc | apply pw_below_drewN | apply below_drew1 | refine below_set ?_ GE771.out | refine below_set ?_ GE772.out | refine below_set ?_ GE776.out | refine below_set ?_ GE781.out | refine below_set ?_ GE786.out) | exact HB.out)⟩⟩
    rw [if_pos c61] at H
    have c61b0 : (((rd_T64 l0_2 x30_2).f1) == x22_1) = true := beq_iff_eq.mpr c61
    have c61b1 : (((rd_T64 l0_2 x30_2).f1) != x22_1) = false := bne_eq_false_iff_eq.mpr c61
    clear c61
    by_cases c62 : x6_2 = true
    rotate_left
    ·replace c62 := Bool.eq_false_iff.mpr c62
     subst c62
     rw [if_neg (show ¬ (false = true) by decide)] at H
     have H' := Aside0.mk H
     clear H
     have hnb72 := NB786_771.out
     have hnc72 := NB771_786.out
     have hnb73 := NB786_772.out
     have hnc73 := NB772_786.out
     have hnb74 := NB786_776.out
     have hnc74 := NB776_786.out
     have hnb75 := NB786_781.out
     have hnc75 := NB781_786.out
     have hcz76_0 := bc wc BK786 0 (.int .i64 ((rd_T64 l0_2 x30_2).f0)) rfl
     have hcz76_1 := bc wc BK786 1 (.int .i64 ((rd_T64 l0_2 x30_2).f1)) rfl
     have hcz76_2 := bc wc BK786 2 (.int .i64 ((rd_T64 l0_2 x30_2).f2)) rfl
     have hfz76_0 := fz BK786 0
     have hfz76_1 := fz BK786 1
     have hfz76_2 := fz BK786 2
     go_wp2
     go_roundg kj30
     case measure => have := HK1.out; have := HK2.out; have := HJ30.out; omega
     case rel => exact ⟨(false), (wrap64 (x30_2 + 1)), (x782002_2), (by first | rfl | (simp; done) | (simp [*]; done)), (by first | rfl | (simp; done) | (simp [*]; done)), H', ⟨by have := HK1.out; have := HK2.out; have := HJ30.out; omega⟩, ⟨rk HO_777001⟩, ⟨bk BK771⟩, ⟨bk BK772⟩, ⟨bk BK776⟩, ⟨bk BK781⟩, ⟨by repeat (first | (with_reducible first | exact HB.out | apply below_alloc | apply pw_below_drewN | apply below_drew1 | refine below_set ?_ GE771.out | refine below_set ?_ GE772.out | refine below_set ?_ GE776.out | refine below_set ?_ GE781.out | refine below_set ?_ GE786.out) | exact HB.out)⟩⟩
    subst c62
    rw [if_pos rfl] at H
    have H' := Aside0.mk H
    clear H
    have hnb63 := NB786_771.out
    have hnc63 := NB771_786.out
    have hnb64 := NB786_772.out
    have hnc64 := NB772_786.out
    have hnb65 := NB786_776.out
    have hnc65 := NB776_786.out
    have hnb66 := NB786_781.out
    have hnc66 := NB781_786.out
    have hcz67_0 := bc wc BK786 0 (.int .i64 ((rd_T64 l0_2 x30_2).f0)) rfl
    have hcz67_1 := bc wc BK786 1 (.int .i64 ((rd_T64 l0_2 x30_2).f1)) rfl
    have hcz67_2 := bc wc BK786 2 (.int .i64 ((rd_T64 l0_2 x30_2).f2)) rfl
    have hfz67_0 := fz BK786 0
    have hfz67_1 := fz BK786 1
    have hfz67_2 := fz BK786 2
    have hnb68 := NB781_771.out
    have hnc68 := NB771_781.out
    have hnb69 := NB781_772.out
    have hnc69 := NB772_781.out
    have hnb70 := NB781_776.out
    have hnc70 := NB776_781.out
    have hcz71_0 := bc wc BK781 0 (.int .i64 ((rd_T31 l0_1 x22_1).f0)) rfl
    have hcz71_1 := bc wc BK781 1 (.int .i64 ((rd_T31 l0_1 x22_1).f1)) rfl
    have hcz71_2 := bc wc BK781 2 (.int .i64 x782002_2) rfl
    have hcz71_3 := bc wc BK781 3 (.int .i64 ((rd_T31 l0_1 x22_1).f3)) rfl
    have hcz71_4 := bc wc BK781 4 (.int .i64 ((rd_T31 l0_1 x22_1).f4)) rfl
    have hfz71_0 := fz BK781 0
    have hfz71_1 := fz BK781 1
    have hfz71_2 := fz BK781 2
    have hfz71_3 := fz BK781 3
    have hfz71_4 := fz BK781 4
    go_wp2
    go_roundg kj30
    case measure => have := HK1.out; have := HK2.out; have := HJ30.out; omega
    case rel => exact ⟨(true), (wrap64 (x30_2 + 1)), (wrap64 (x782002_2 + ((rd_T64 l0_2 x30_2).f2))), (by first | rfl | (simp; done) | (simp [*]; done)), (by first | rfl | (simp; done) | (simp [*]; done)), H', ⟨by have := HK1.out; have := HK2.out; have := HJ30.out; omega⟩, ⟨by (with_reducible repeat (first | apply Kd.R_alloc | apply Kd.R_drewN | apply Kd.R_drew)); exact Kd.R_mono (Kd.R_far (p := ⟨gb781, 2, none⟩) (Kd.R_mono HO_777001.out (fun k_ hk => (⟨hk, hk⟩ : _ ∧ k_ ≠ gb781))) (fun _ hk => hk.2) (.int .i64 (wrap64 (x782002_2 + ((rd_T64 l0_2 x30_2).f2))))) (fun _ hk => hk.1)⟩, ⟨by (with_reducible repeat (first | refine blk_drewN ?_ _ | refine blk_drew ?_ | refine blk_alloc ?_ _)); refine blk_far ?_ NB771_781.out _; (with_reducible repeat (first | refine blk_drewN ?_ _ | refine blk_drew ?_ | refine blk_alloc ?_ _)); exact BK771.out⟩, ⟨by (with_reducible repeat (first | refine blk_drewN ?_ _ | refine blk_drew ?_ | refine blk_alloc ?_ _)); refine blk_far ?_ NB772_781.out _; (with_reducible repeat (first | refine blk_drewN ?_ _ | refine blk_drew ?_ | refine blk_alloc ?_ _)); exact BK772.out⟩, ⟨by (with_reducible repeat (first | refine blk_drewN ?_ _ | refine blk_drew ?_ | refine blk_alloc ?_ _)); refine blk_far ?_ NB776_781.out _; (with_reducible repeat (first | refine blk_drewN ?_ _ | refine blk_drew ?_ | refine blk_alloc ?_ _)); exact BK776.out⟩, ⟨by (with_reducible repeat (first | refine blk_drewN ?_ _ | refine blk_drew ?_ | refine blk_alloc ?_ _)); refine blk_put (cs := #[.int .i64 ((rd_T31 l0_1 x22_1).f0), .int .i64 ((rd_T31 l0_1 x22_1).f1), .int .i64 x782002_2, .int .i64 ((rd_T31 l0_1 x22_1).f3), .int .i64 ((rd_T31 l0_1 x22_1).f4)]) ?_ 2 _ rfl; (with_reducible repeat (first | refine blk_drewN ?_ _ | refine blk_drew ?_ | refine blk_alloc ?_ _)); exact BK781.out⟩, ⟨by repeat (first | (with_reducible first | exact HB.out | apply below_alloc | apply pw_below_drewN | apply below_drew1 | refine below_set ?_ GE771.out | refine below_set ?_ GE772.out | refine below_set ?_ GE776.out | refine below_set ?_ GE781.out | refine below_set ?_ GE786.out) | exact HB.out)⟩⟩

end Go.Proofs.Ythgihpbpebbebaa.F
