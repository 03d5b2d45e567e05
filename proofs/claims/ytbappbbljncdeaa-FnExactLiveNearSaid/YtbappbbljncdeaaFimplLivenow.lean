-- Printed by wip/px/px.py of this claim's repository (the kit's printer, extended there). Lean checks it.
import Derived.Test.YtbappbbljncdeaaFKinds
import Derived.Test.YtbappbbljncdeaaFimplArc127
namespace Go.Proofs.Ytbappbbljncdeaa.F
open Go.RowKit Go.Proofs.YtbappbbljncdeaaW.PrintWords Go.Proofs.YtbappbbljncdeaaW.PrintLast Go.Proofs.YtbappbbljncdeaaW.PrintMore
attribute [local go_sem] max2_int min2_int max_two min_two max_three min_three max_four min_four   -- for this text's walks alone
set_option linter.unusedVariables false
set_option linter.unusedSimpArgs false

/-! ### impl_Live_now: function 80 -/
mutual
def impl_Live_now.l0 : Nat → List (S100) → Int → Int → Int → List (S100) → List (S70) → Int → List (S100) → Option (Int × (List (S100)))
 | 0, _, _, _, _, _, _, _, _ => none
 | k + 1, x20, x21, x22, x217000, x217001, x217002, x222000, x222001 => if x22 < x21 then (if 0 ≤ x22 then (if x22 < (x20.length : Int) then (impl_Live_now.l1 k x22 true x20 x21 x22 x217002 (x217002.length : Int) 0 x217000 x217001 x217002 x222000 x222001 ((rd_T100 x20 x22).f0) ((rd_T100 x20 x22).f1) ((rd_T100 x20 x22).f2) ((rd_T100 x20 x22).f3) ((rd_T100 x20 x22).f4)) else (none)) else (none)) else ((impl_Arc_127.f x222001).bind fun t222 => (some (x222000, t222)))
def impl_Live_now.l1 : Nat → Int → Bool → List (S100) → Int → Int → List (S70) → Int → Int → Int → List (S100) → List (S70) → Int → List (S100) → Int → Int → Int → Int → Int → Option (Int × (List (S100)))
 | 0, _, _, _, _, _, _, _, _, _, _, _, _, _, _, _, _, _, _ => none
 | k + 1, x4, x6, x20, x21, x22, x28, x29, x30, x217000, x217001, x217002, x222000, x222001, x227000, x227001, x227002, x227003, x227004 => if x30 < x29 then (if 0 ≤ x30 then (if x30 < (x28.length : Int) then (if ((rd_T70 x28 x30).f1) = x4 then (impl_Live_now.j2 k x4 x6 x20 x21 x22 x28 x29 x30 (((rd_T70 x28 x30).f2) == (-1)) x217000 x217001 x217002 x222000 x222001 x227000 x227001 x227002 x227003 x227004 ((rd_T70 x28 x30).f0) ((rd_T70 x28 x30).f1) ((rd_T70 x28 x30).f2)) else (impl_Live_now.j2 k x4 x6 x20 x21 x22 x28 x29 x30 false x217000 x217001 x217002 x222000 x222001 x227000 x227001 x227002 x227003 x227004 ((rd_T70 x28 x30).f0) ((rd_T70 x28 x30).f1) ((rd_T70 x28 x30).f2))) else (none)) else (none)) else (if x6 = true then (if x222001.length < 3518437208883 then (impl_Live_now.l0 k x20 x21 (wrap64 (x22 + 1)) x217000 x217001 x217002 x222000 (x222001 ++ [(⟨x227000, x227001, mn x227002 99, x227003, x227004⟩ : S100)])) else (none)) else (impl_Live_now.l0 k x20 x21 (wrap64 (x22 + 1)) x217000 x217001 x217002 x222000 x222001))
def impl_Live_now.j2 : Nat → Int → Bool → List (S100) → Int → Int → List (S70) → Int → Int → Bool → Int → List (S100) → List (S70) → Int → List (S100) → Int → Int → Int → Int → Int → Int → Int → Int → Option (Int × (List (S100)))
 | 0, _, _, _, _, _, _, _, _, _, _, _, _, _, _, _, _, _, _, _, _, _, _ => none
 | k + 1, x4, x6, x20, x21, x22, x28, x29, x30, x42, x217000, x217001, x217002, x222000, x222001, x227000, x227001, x227002, x227003, x227004, x232000, x232001, x232002 => if x42 = true then (if x232001 = x4 then (impl_Live_now.l1 k x4 false x20 x21 x22 x28 x29 (wrap64 (x30 + 1)) x217000 x217001 x217002 x222000 x222001 x227000 x227001 x227002 x227003 x227004) else (impl_Live_now.l1 k x4 false x20 x21 x22 x28 x29 (wrap64 (x30 + 1)) x217000 x217001 x217002 x222000 x222001 x227000 x227001 x227002 x227003 x227004)) else (if x232001 = x4 then (if x6 = true then (impl_Live_now.l1 k x4 x6 x20 x21 x22 x28 x29 (wrap64 (x30 + 1)) x217000 x217001 x217002 x222000 x222001 x227000 x227001 (wrap64 (x227002 + x232002)) x227003 x227004) else (impl_Live_now.l1 k x4 x6 x20 x21 x22 x28 x29 (wrap64 (x30 + 1)) x217000 x217001 x217002 x222000 x222001 x227000 x227001 x227002 x227003 x227004)) else (impl_Live_now.l1 k x4 x6 x20 x21 x22 x28 x29 (wrap64 (x30 + 1)) x217000 x217001 x217002 x222000 x222001 x227000 x227001 x227002 x227003 x227004))
end
def impl_Live_now.f (k : Nat) (a0_0 : Int) (l0_1 : List (S100)) (l0_2 : List (S70)) : Option (Int × (List (S100))) := if ((l0_1.length : Int) : Int).toNat ≤ 7036874417766 then (impl_Live_now.l0 k l0_1 (l0_1.length : Int) 0 a0_0 l0_1 l0_2 a0_0 (([] : List (S100)))) else (none)
theorem impl_Live_now.mono_l : ∀ k, (∀ y0 y1 y2 y3 y4 y5 y6 y7, LeO (impl_Live_now.l0 k y0 y1 y2 y3 y4 y5 y6 y7) (impl_Live_now.l0 (k + 1) y0 y1 y2 y3 y4 y5 y6 y7)) ∧ (∀ y0 y1 y2 y3 y4 y5 y6 y7 y8 y9 y10 y11 y12 y13 y14 y15 y16 y17, LeO (impl_Live_now.l1 k y0 y1 y2 y3 y4 y5 y6 y7 y8 y9 y10 y11 y12 y13 y14 y15 y16 y17) (impl_Live_now.l1 (k + 1) y0 y1 y2 y3 y4 y5 y6 y7 y8 y9 y10 y11 y12 y13 y14 y15 y16 y17)) ∧ (∀ y0 y1 y2 y3 y4 y5 y6 y7 y8 y9 y10 y11 y12 y13 y14 y15 y16 y17 y18 y19 y20 y21, LeO (impl_Live_now.j2 k y0 y1 y2 y3 y4 y5 y6 y7 y8 y9 y10 y11 y12 y13 y14 y15 y16 y17 y18 y19 y20 y21) (impl_Live_now.j2 (k + 1) y0 y1 y2 y3 y4 y5 y6 y7 y8 y9 y10 y11 y12 y13 y14 y15 y16 y17 y18 y19 y20 y21))
 | 0 => ⟨fun _ _ _ _ _ _ _ _ r h => by simp [impl_Live_now.l0] at h, fun _ _ _ _ _ _ _ _ _ _ _ _ _ _ _ _ _ _ r h => by simp [impl_Live_now.l1] at h, fun _ _ _ _ _ _ _ _ _ _ _ _ _ _ _ _ _ _ _ _ _ _ r h => by simp [impl_Live_now.j2] at h⟩
 | k + 1 => by
  obtain ⟨ih0, ih1, ih2⟩ := impl_Live_now.mono_l k
  refine ⟨?_, ?_, ?_⟩
  ·intro y0 y1 y2 y3 y4 y5 y6 y7
   unfold impl_Live_now.l0
   repeat' first
   | (with_reducible exact ih0 _ _ _ _ _ _ _ _)
   | (with_reducible exact ih1 _ _ _ _ _ _ _ _ _ _ _ _ _ _ _ _ _ _)
   | (with_reducible exact ih2 _ _ _ _ _ _ _ _ _ _ _ _ _ _ _ _ _ _ _ _ _ _)
   | (with_reducible exact LeO.refl _)
   | (with_reducible exact LeO.none _)
   | (with_reducible refine LeO.ite ?_ ?_)
   | (with_reducible refine LeO.bind ?_ (fun _ => ?_))
   | exact ih0 _ _ _ _ _ _ _ _
   | exact ih1 _ _ _ _ _ _ _ _ _ _ _ _ _ _ _ _ _ _
   | exact ih2 _ _ _ _ _ _ _ _ _ _ _ _ _ _ _ _ _ _ _ _ _ _
   | exact LeO.none _
   | refine LeO.ite ?_ ?_
   | refine LeO.bind ?_ (fun _ => ?_)
  ·intro y0 y1 y2 y3 y4 y5 y6 y7 y8 y9 y10 y11 y12 y13 y14 y15 y16 y17
   unfold impl_Live_now.l1
   repeat' first
   | (with_reducible exact ih0 _ _ _ _ _ _ _ _)
   | (with_reducible exact ih1 _ _ _ _ _ _ _ _ _ _ _ _ _ _ _ _ _ _)
   | (with_reducible exact ih2 _ _ _ _ _ _ _ _ _ _ _ _ _ _ _ _ _ _ _ _ _ _)
   | (with_reducible exact LeO.refl _)
   | (with_reducible exact LeO.none _)
   | (with_reducible refine LeO.ite ?_ ?_)
   | (with_reducible refine LeO.bind ?_ (fun _ => ?_))
   | exact ih0 _ _ _ _ _ _ _ _
   | exact ih1 _ _ _ _ _ _ _ _ _ _ _ _ _ _ _ _ _ _
   | exact ih2 _ _ _ _ _ _ _ _ _ _ _ _ _ _ _ _ _ _ _ _ _ _
   | exact LeO.none _
   | refine LeO.ite ?_ ?_
   | refine LeO.bind ?_ (fun _ => ?_)
  ·intro y0 y1 y2 y3 y4 y5 y6 y7 y8 y9 y10 y11 y12 y13 y14 y15 y16 y17 y18 y19 y20 y21
   unfold impl_Live_now.j2
   repeat' first
   | (with_reducible exact ih0 _ _ _ _ _ _ _ _)
   | (with_reducible exact ih1 _ _ _ _ _ _ _ _ _ _ _ _ _ _ _ _ _ _)
   | (with_reducible exact ih2 _ _ _ _ _ _ _ _ _ _ _ _ _ _ _ _ _ _ _ _ _ _)
   | (with_reducible exact LeO.refl _)
   | (with_reducible exact LeO.none _)
   | (with_reducible refine LeO.ite ?_ ?_)
   | (with_reducible refine LeO.bind ?_ (fun _ => ?_))
   | exact ih0 _ _ _ _ _ _ _ _
   | exact ih1 _ _ _ _ _ _ _ _ _ _ _ _ _ _ _ _ _ _
   | exact ih2 _ _ _ _ _ _ _ _ _ _ _ _ _ _ _ _ _ _ _ _ _ _
   | exact LeO.none _
   | refine LeO.ite ?_ ?_
   | refine LeO.bind ?_ (fun _ => ?_)
theorem impl_Live_now.mono : ∀ a0 a1 a2 k, LeO (impl_Live_now.f k a0 a1 a2) (impl_Live_now.f (k + 1) a0 a1 a2) := by
 intro a0 a1 a2 k
 obtain ⟨ih0, ih1, ih2⟩ := impl_Live_now.mono_l k
 unfold impl_Live_now.f
 repeat' first
   | (with_reducible exact ih0 _ _ _ _ _ _ _ _)
   | (with_reducible exact ih1 _ _ _ _ _ _ _ _ _ _ _ _ _ _ _ _ _ _)
   | (with_reducible exact ih2 _ _ _ _ _ _ _ _ _ _ _ _ _ _ _ _ _ _ _ _ _ _)
   | (with_reducible exact LeO.refl _)
   | (with_reducible exact LeO.none _)
   | (with_reducible refine LeO.ite ?_ ?_)
   | (with_reducible refine LeO.bind ?_ (fun _ => ?_))
   | exact ih0 _ _ _ _ _ _ _ _
   | exact ih1 _ _ _ _ _ _ _ _ _ _ _ _ _ _ _ _ _ _
   | exact ih2 _ _ _ _ _ _ _ _ _ _ _ _ _ _ _ _ _ _ _ _ _ _
   | exact LeO.none _
   | refine LeO.ite ?_ ?_
   | refine LeO.bind ?_ (fun _ => ?_)
def impl_Live_now.T1 : Bool × List (List Nat × List Nat) := (true, [([], []), ([0], [0]), ([1], [1]), ([], []), ([3], [3]), ([4], [4]), ([5], [5]), ([6], [6]), ([2, 7], [2, 7]), ([], []), ([9, 8, 0, 1, 2, 3, 4, 5, 6, 7, 8, 9], [8, 9])])
def impl_Live_now.B1 : List Nat := [0, 1, 3, 0, 8, 24, 56, 120, 255, 0, 1023]
theorem impl_Live_now.tab1 : rtab .any (opsOf Try.f80 1) = impl_Live_now.T1 := by kernel_rfl
theorem impl_Live_now.bits1 : waitsOk impl_Live_now.T1.2 impl_Live_now.B1 = true := by kernel_rfl
set_option maxHeartbeats 8000000 in
set_option maxRecDepth 100000 in
theorem impl_Live_now.calls (k : Nat) (a0_0 : Int) (A0_1 : Option Addr) (c0_1 : Nat) (l0_1 : List (S100)) (A0_2 : Option Addr) (c0_2 : Nat) (l0_2 : List (S70)) (r1 : Int) (r2 : List (S100)) (w : World) (hr0_1 : Kd.C k100 w A0_1 l0_1.length l0_1) (hc0_1 : l0_1.length ≤ c0_1) (hr0_2 : Kd.C k70 w A0_2 l0_2.length l0_2) (hc0_2 : l0_2.length ≤ c0_2) (h : impl_Live_now.f k a0_0 l0_1 l0_2 = some (r1, r2)) :
  Calls Try.prog 80 #[.agg #[.int .i64 a0_0, .slice A0_1 l0_1.length c0_1, .slice A0_2 l0_2.length c0_2]] w fun e w' => ∃ v1_ : Value, e = .returned (.agg #[.int .i64 r1, v1_]) ∧ Kd.R k100 100 w' w.heap.size (fun _ => True) v1_ r2 ∧ Below w.heap.size w w' := by
 have hu49 := Try.underlying49
 have hu30 := Try.underlying30
 have hu100 := Try.underlying100
 have hu70 := Try.underlying70
 have HR0_1 := Aside0.mk hr0_1
 have HC0_1 := Aside0.mk hc0_1
 clear hr0_1 hc0_1
 have HR0_2 := Aside0.mk hr0_2
 have HC0_2 := Aside0.mk hc0_2
 clear hr0_2 hc0_2
 have HB := Aside0.mk (Below.refl w.heap.size w)
 have H : (if ((l0_1.length : Int) : Int).toNat ≤ 7036874417766 then (impl_Live_now.l0 k l0_1 (l0_1.length : Int) 0 a0_0 l0_1 l0_2 a0_0 (([] : List (S100)))) else (none)) = some (r1, r2) := h
 clear h
 by_cases c2 : ((l0_1.length : Int) : Int).toNat ≤ 7036874417766
 rotate_left
 ·rw [if_neg c2] at H
  exact absurd H (by simp)
 rw [if_pos c2] at H
 have c2b0 := eq_true c2
 have c2b1 : decide (((l0_1.length : Int) : Int).toNat ≤ 7036874417766) = true := decide_eq_true c2
 clear c2
 obtain ⟨y218, hy218⟩ : ∃ y_ : List (S100), y_ = (([] : List (S100))) := ⟨_, rfl⟩
 replace H : (impl_Live_now.l0 k l0_1 (l0_1.length : Int) 0 a0_0 l0_1 l0_2 a0_0 y218) = some (r1, r2) := by first | (rw [hy218]; with_reducible exact H) | (have H2_ := (Option.bind_some _ _).symm.trans H; rw [hy218]; with_reducible exact H2_) | (have H2_ := (Option.bind_some _ _).symm.trans H; with_reducible exact H2_) | with_reducible exact H | (rw [hy218]; exact H) | exact H
 have Ny218 := Aside0.mk hy218
 clear hy218
 have H' := Aside0.mk H
 clear H
 go_enter Try.func80, Try.ntmps80
 try go_wp2_with (first | ((with_reducible refine gate_dst (N := 1) rfl ?_); refine box_event ?hg (N := 1) ?hd (cs := #[.int .i64 a0_0, .slice A0_1 l0_1.length c0_1, .slice A0_2 l0_2.length c0_2]) (t := 49) ?hr ?_; (case hd => rfl); (case hg => rfl); (case hr => first | (go_simp; done) | (go_simp; rfl)); intro gb216 hg w3 hbox hb; have BK216 := Aside0.mk (hbox); have GW216 := Aside0.mk ((by rw [hg]; exact (below_size (bl HB)) : w.heap.size ≤ gb216)); have GE216 := Aside0.mk ((by rw [hg]; exact (below_size (bl HB)) : w.heap.size ≤ gb216)); replace HB := Aside0.mk (below_step (bl HB) hb); clear hb hbox hg) | ((with_reducible refine gate_dst (N := 2) rfl ?_); refine box_event ?hg (N := 2) ?hd (cs := #[.int .i64 0, .slice none 0 0]) (t := 30) ?hr ?_; (case hd => rfl); (case hg => rfl); (case hr => first | (go_simp; done) | (go_simp; rfl)); intro gb217 hg w4 hbox hb; have BK217 := Aside0.mk (hbox); have GW217 := Aside0.mk ((by rw [hg]; exact (below_size (bl1 HB GE216)) : w.heap.size ≤ gb217)); have GE217 := Aside0.mk ((by rw [hg]; exact (below_size (bl1 HB GE216)) : w.heap.size ≤ gb217)); replace HB := Aside0.mk (below_step (bl1 HB GE216) hb); have NB216_217 := Aside0.mk ((by rw [hg]; exact Nat.ne_of_lt (blk_lt (bk BK216)) : gb216 ≠ gb217)); have NB217_216 := Aside0.mk ((by rw [hg]; exact Nat.ne_of_gt (blk_lt (bk BK216)) : gb217 ≠ gb216)); replace BK216 := Aside0.mk (blk_below (bk BK216) hb); clear hb hbox hg))
 replace BK216 := Aside0.mk (blk_drew BK216.out)
 replace BK217 := Aside0.mk (blk_drew BK217.out)
 replace HB := Aside0.mk (below_drew1 HB.out)
 refine start_ (n := 11) (S := fun w' => w'.cell? ⟨gb216, 0, none⟩ = some (.int .i64 a0_0) ∧ w'.cell? ⟨gb216, 1, none⟩ = some (.slice A0_1 l0_1.length c0_1) ∧ w'.cell? ⟨gb216, 2, none⟩ = some (.slice A0_2 l0_2.length c0_2)) (ds := []) (ms 11 0) (by kernel_rfl) rfl (by kernel_rfl) ⟨(blk_cell BK216.out 0).trans rfl, (blk_cell BK216.out 1).trans rfl, (blk_cell BK216.out 2).trans rfl⟩ (fun hHeld => ?_); refine with_tabW impl_Live_now.tab1 impl_Live_now.bits1 (fun HT_ HW_ => ?_)
 generalize w4.drew = w5 at BK216 BK217 HB hHeld ⊢
 refine pure_ (i := 0) (N := some 9) (v := ?_) (a' := ?_) (ms 11 1) rfl rfl (any_of HT_.out (by kernel_rfl)) (fun _ _ _ h => h) (Or.inl ⟨by rfl, ?_⟩) ?_ ?_
 rotate_left
 ·intro w'
  go_simp
  with_reducible rfl
 rotate_left
 ·simp only [Act.put, sA, sB, sC, i64_w, i32_w]
  rfl
 refine pure_ (i := 1) (N := some 10) (v := ?_) (a' := ?_) (ms 11 3) rfl rfl (any_of HT_.out (by kernel_rfl)) (fun _ _ _ h => h) (Or.inl ⟨by rfl, ?_⟩) ?_ ?_
 rotate_left
 ·intro w'
  go_simp
  with_reducible rfl
 rotate_left
 ·simp only [Act.put, sA, sB, sC, i64_w, i32_w]
  rfl
 refine pure_ (i := 3) (N := some 12) (v := ?_) (a' := ?_) (ms 11 11) rfl rfl (any_of HT_.out (by kernel_rfl)) (fun _ _ _ h => h) (Or.inl ⟨by rfl, ?_⟩) ?_ ?_
 rotate_left
 ·intro w'
  go_simp
  with_reducible rfl
 rotate_left
 ·simp only [Act.put, sA, sB, sC, i64_w, i32_w]
  rfl
 refine pure_ (i := 4) (N := some 13) (v := ?_) (a' := ?_) (ms 11 27) rfl rfl (any_of HT_.out (by kernel_rfl)) (fun _ _ _ h => h) (Or.inl ⟨by rfl, ?_⟩) ?_ ?_
 rotate_left
 ·intro w'
  go_simp
  with_reducible rfl
 rotate_left
 ·simp only [Act.put, sA, sB, sC, i64_w, i32_w]
  rfl
 refine take_ (i := 2) (N := some 11) (v := ?_) (a' := ?_) (ms 11 31) rfl rfl (take_ofW HT_.out HW_.out (by kernel_rfl)) (fun _ _ _ h => h) (Or.inl ⟨by rfl, ?_⟩) hHeld ?_ ?_
 rotate_left
 ·rintro w' ⟨s0, s1, s2⟩
  go_simp
  with_reducible rfl
 rotate_left
 ·simp only [Act.put, sA, sB, sC, i64_w, i32_w]
  rfl
 refine take_ (i := 5) (N := some 14) (v := ?_) (a' := ?_) (ms 11 63) rfl rfl (take_ofW HT_.out HW_.out (by kernel_rfl)) (fun _ _ _ h => h) (Or.inl ⟨by rfl, ?_⟩) hHeld ?_ ?_
 rotate_left
 ·rintro w' ⟨s0, s1, s2⟩
  go_simp
  with_reducible rfl
 rotate_left
 ·simp only [Act.put, sA, sB, sC, i64_w, i32_w]
  rfl
 refine pure_ (i := 6) (N := some 15) (v := ?_) (a' := ?_) (ms 11 127) rfl rfl (any_of HT_.out (by kernel_rfl)) (fun _ _ _ h => h) (Or.inl ⟨by rfl, ?_⟩) ?_ ?_
 rotate_left
 ·intro w'
  go_simp
  with_reducible rfl
 rotate_left
 ·simp only [Act.put, sA, sB, sC, i64_w, i32_w]
  rfl
 refine join_ (σ := Value × Nat) 1 (ms 11 1023) (fun s_ => [(16, s_.1), (3, .pointer (some ⟨s_.2, 0, none⟩)), (17, .agg #[.int .i64 a0_0, s_.1])]) (fun s_ w' => (w'.cell? ⟨gb216, 0, none⟩ = some (.int .i64 a0_0) ∧ w'.cell? ⟨gb216, 1, none⟩ = some (.slice A0_1 l0_1.length c0_1) ∧ w'.cell? ⟨gb216, 2, none⟩ = some (.slice A0_2 l0_2.length c0_2)) ∧ (Kd.R k100 100 w' w.heap.size (fun _ => True) s_.1 y218) ∧ (w'.heap[gb216]? = some (.cells #[.int .i64 a0_0, .slice A0_1 l0_1.length c0_1, .slice A0_2 l0_2.length c0_2] 49 (0, 0))) ∧ (w'.heap[gb217]? = some (.cells #[.int .i64 0, .slice none 0 0] 30 (0, 0))) ∧ (w'.heap[s_.2]? = some (.cells #[.int .i64 0, .slice none 0 0] 30 (0, 0))) ∧ (w.heap.size ≤ s_.2) ∧ (w.heap.size ≤ s_.2) ∧ (gb216 ≠ s_.2) ∧ (s_.2 ≠ gb216) ∧ (gb217 ≠ s_.2) ∧ (s_.2 ≠ gb217) ∧ (Below w.heap.size w w')) ?_ ?_
 rotate_left
 ·intro hCont
  refine two_ (i := 7) (j := 9) (Ni := some 16) (Nj := some 3) (ms 11 255) (ms 11 639) rfl rfl rfl rfl (two_of HT_.out (by kernel_rfl)) (by decide) (by decide) (fun K hK => ?_) (fun K hK => ?_)
  ·skip
   refine Kd.R_make0_step k100 _ 100 (by rfl) (N := 16) rfl 28 _ _ rfl (l0_1.length : Int) rfl rfl Try.underlying28 (.agg #[(.int .i64 0), (.int .i64 0), (.int .i64 0), (.int .i64 0), (.int .i64 0)]) 40 info100 (by decide) (ok := fun _ => True) trivial (by omega) (Nat.le_trans (Nat.mul_le_mul_right _ (oT (by first | (with_reducible assumption) | assumption) : (l0_1.length : Int).toNat ≤ 7036874417766)) (by omega)) (Below.refl _ _) (Nat.le_refl _) ?_
   intro v219 w6 ho7 hb hg_ hnew_
   clear hg_ hnew_
   (first | rw [← Ny218.out] at ho7 | (simp only [Int.reduceToNat] at ho7; rw [← Ny218.out] at ho7))
   have HO220 := Aside0.mk (Kd.R_lower ho7 (below_size (bl2 HB GE216 GE217)))
   replace BK216 := Aside0.mk (blk_below (bk BK216) hb)
   replace BK217 := Aside0.mk (blk_below (bk BK217) hb)
   replace HB := Aside0.mk (below_step (bl2 HB GE216 GE217) hb)
   clear hb ho7
   obtain ⟨Ao8, co8, eo8⟩ := Kd.R_slice HO220.out
   (first | subst eo8 | (injection eo8 with f1_ f2_ f3_; have f4_ := f1_.symm; have f5_ := f3_.symm; clear f1_ f2_ f3_; subst f4_; subst f5_))
   refine hK.out _ _ ⟨(blk_cell BK216.out 0).trans rfl, (blk_cell BK216.out 1).trans rfl, (blk_cell BK216.out 2).trans rfl⟩ (fun hHeld => ?_)
   clear hK K
   refine norm_ (a' := ?_) ?_ ?_
   rotate_left
   ·show Act.put _ (some 16) _ = _
    simp only [Act.put, sA, sB, sC, i64_w, i32_w]
    rfl
   refine pure_ (i := 8) (N := some 17) (v := ?_) (a' := ?_) (ms 11 511) rfl rfl (any_of HT_.out (by kernel_rfl)) (fun _ _ _ h => h) (Or.inl ⟨by rfl, ?_⟩) ?_ ?_
   rotate_left
   ·intro w'
    go_simp
    with_reducible rfl
   rotate_left
   ·simp only [Act.put, sA, sB, sC, i64_w, i32_w]
    rfl
   refine one_ (i := 9) (N := some 3) (ms 11 1023) rfl rfl (one_of HT_.out (by kernel_rfl)) (by decide) (fun K hK => ?_)
   refine box_step ?hg (N := 3) ?hd (cs := #[.int .i64 0, .slice none 0 0]) (t := 30) ?hr ?_; (case hd => rfl); (case hg => rfl); (case hr => first | (go_simp; done) | (go_simp; rfl))
   intro gb221 hg w9 hbox hb
   replace HO220 := Aside0.mk (Kd.R_below (rk HO220) hb)
   have BK221 := Aside0.mk (hbox)
   have GW221 := Aside0.mk ((by rw [hg]; exact (below_size (bl2 HB GE216 GE217)) : w.heap.size ≤ gb221))
   have GE221 := Aside0.mk ((by rw [hg]; exact (below_size (bl2 HB GE216 GE217)) : w.heap.size ≤ gb221))
   replace HB := Aside0.mk (below_step (bl2 HB GE216 GE217) hb)
   have NB216_221 := Aside0.mk ((by rw [hg]; exact Nat.ne_of_lt (blk_lt (bk BK216)) : gb216 ≠ gb221))
   have NB221_216 := Aside0.mk ((by rw [hg]; exact Nat.ne_of_gt (blk_lt (bk BK216)) : gb221 ≠ gb216))
   replace BK216 := Aside0.mk (blk_below (bk BK216) hb)
   have NB217_221 := Aside0.mk ((by rw [hg]; exact Nat.ne_of_lt (blk_lt (bk BK217)) : gb217 ≠ gb221))
   have NB221_217 := Aside0.mk ((by rw [hg]; exact Nat.ne_of_gt (blk_lt (bk BK217)) : gb221 ≠ gb217))
   replace BK217 := Aside0.mk (blk_below (bk BK217) hb)
   clear hb hbox hg
   refine hK.out _ _ ⟨(blk_cell BK216.out 0).trans rfl, (blk_cell BK216.out 1).trans rfl, (blk_cell BK216.out 2).trans rfl⟩ (fun hHeld => ?_)
   clear hK K
   refine norm_ (a' := ?_) ?_ ?_
   rotate_left
   ·show Act.put _ (some 3) _ = _
    simp only [Act.put, sA, sB, sC, i64_w, i32_w]
    rfl
   exact norm_ (by simp only [putAll, Act.put, List.setIfInBounds_toArray, List.set_cons_zero, List.set_cons_succ]) (hCont (.slice Ao8 y218.length co8, gb221) _ ⟨hHeld, (rk HO220), (bk BK216), (bk BK217), (bk BK221), GW221.out, GE221.out, NB216_221.out, NB221_216.out, NB217_221.out, NB221_217.out, (bl3 HB GE216 GE217 GE221)⟩)
  skip
  refine box_step ?hg (N := 3) ?hd (cs := #[.int .i64 0, .slice none 0 0]) (t := 30) ?hr ?_; (case hd => rfl); (case hg => rfl); (case hr => first | (go_simp; done) | (go_simp; rfl))
  intro gb221 hg w6 hbox hb
  have BK221 := Aside0.mk (hbox)
  have GW221 := Aside0.mk ((by rw [hg]; exact (below_size (bl2 HB GE216 GE217)) : w.heap.size ≤ gb221))
  have GE221 := Aside0.mk ((by rw [hg]; exact (below_size (bl2 HB GE216 GE217)) : w.heap.size ≤ gb221))
  replace HB := Aside0.mk (below_step (bl2 HB GE216 GE217) hb)
  have NB216_221 := Aside0.mk ((by rw [hg]; exact Nat.ne_of_lt (blk_lt (bk BK216)) : gb216 ≠ gb221))
  have NB221_216 := Aside0.mk ((by rw [hg]; exact Nat.ne_of_gt (blk_lt (bk BK216)) : gb221 ≠ gb216))
  replace BK216 := Aside0.mk (blk_below (bk BK216) hb)
  have NB217_221 := Aside0.mk ((by rw [hg]; exact Nat.ne_of_lt (blk_lt (bk BK217)) : gb217 ≠ gb221))
  have NB221_217 := Aside0.mk ((by rw [hg]; exact Nat.ne_of_gt (blk_lt (bk BK217)) : gb221 ≠ gb217))
  replace BK217 := Aside0.mk (blk_below (bk BK217) hb)
  clear hb hbox hg
  refine hK.out _ _ ⟨(blk_cell BK216.out 0).trans rfl, (blk_cell BK216.out 1).trans rfl, (blk_cell BK216.out 2).trans rfl⟩ (fun hHeld => ?_)
  clear hK K
  refine norm_ (a' := ?_) ?_ ?_
  rotate_left
  ·show Act.put _ (some 3) _ = _
   simp only [Act.put, sA, sB, sC, i64_w, i32_w]
   rfl
  refine one_ (i := 7) (N := some 16) (ms 11 767) rfl rfl (one_of HT_.out (by kernel_rfl)) (by decide) (fun K hK => ?_)
  refine Kd.R_make0_step k100 _ 100 (by rfl) (N := 16) rfl 28 _ _ rfl (l0_1.length : Int) rfl rfl Try.underlying28 (.agg #[(.int .i64 0), (.int .i64 0), (.int .i64 0), (.int .i64 0), (.int .i64 0)]) 40 info100 (by decide) (ok := fun _ => True) trivial (by omega) (Nat.le_trans (Nat.mul_le_mul_right _ (oT (by first | (with_reducible assumption) | assumption) : (l0_1.length : Int).toNat ≤ 7036874417766)) (by omega)) (Below.refl _ _) (Nat.le_refl _) ?_
  intro v219 w7 ho8 hb hg_ hnew_
  clear hg_ hnew_
  (first | rw [← Ny218.out] at ho8 | (simp only [Int.reduceToNat] at ho8; rw [← Ny218.out] at ho8))
  have HO220 := Aside0.mk (Kd.R_lower ho8 (below_size (bl3 HB GE216 GE217 GE221)))
  replace BK216 := Aside0.mk (blk_below (bk BK216) hb)
  replace BK217 := Aside0.mk (blk_below (bk BK217) hb)
  replace BK221 := Aside0.mk (blk_below (bk BK221) hb)
  replace HB := Aside0.mk (below_step (bl3 HB GE216 GE217 GE221) hb)
  clear hb ho8
  obtain ⟨Ao9, co9, eo9⟩ := Kd.R_slice HO220.out
  (first | subst eo9 | (injection eo9 with f1_ f2_ f3_; have f4_ := f1_.symm; have f5_ := f3_.symm; clear f1_ f2_ f3_; subst f4_; subst f5_))
  refine hK.out _ _ ⟨(blk_cell BK216.out 0).trans rfl, (blk_cell BK216.out 1).trans rfl, (blk_cell BK216.out 2).trans rfl⟩ (fun hHeld => ?_)
  clear hK K
  refine norm_ (a' := ?_) ?_ ?_
  rotate_left
  ·show Act.put _ (some 16) _ = _
   simp only [Act.put, sA, sB, sC, i64_w, i32_w]
   rfl
  refine pure_ (i := 8) (N := some 17) (v := ?_) (a' := ?_) (ms 11 1023) rfl rfl (any_of HT_.out (by kernel_rfl)) (fun _ _ _ h => h) (Or.inl ⟨by rfl, ?_⟩) ?_ ?_
  rotate_left
  ·intro w'
   go_simp
   with_reducible rfl
  rotate_left
  ·simp only [Act.put, sA, sB, sC, i64_w, i32_w]
   rfl
  exact norm_ (by simp only [putAll, Act.put, List.setIfInBounds_toArray, List.set_cons_zero, List.set_cons_succ]) (hCont (.slice Ao9 y218.length co9, gb221) _ ⟨hHeld, (rk HO220), (bk BK216), (bk BK217), (bk BK221), GW221.out, GE221.out, NB216_221.out, NB221_216.out, NB217_221.out, NB221_217.out, (bl3 HB GE216 GE217 GE221)⟩)
 rintro ⟨v219, gb221⟩ w10 ⟨hS_, h0_, h1_, h2_, h3_, h4_, h5_, h6_, h7_, h8_, h9_, h10_⟩
 have HO220 : Aside0 (Kd.R k100 100 w10 w.heap.size (fun _ => True) v219 y218) := ⟨h0_⟩
 replace BK216 : Aside0 (w10.heap[gb216]? = some (.cells #[.int .i64 a0_0, .slice A0_1 l0_1.length c0_1, .slice A0_2 l0_2.length c0_2] 49 (0, 0))) := ⟨h1_⟩
 replace BK217 : Aside0 (w10.heap[gb217]? = some (.cells #[.int .i64 0, .slice none 0 0] 30 (0, 0))) := ⟨h2_⟩
 have BK221 : Aside0 (w10.heap[gb221]? = some (.cells #[.int .i64 0, .slice none 0 0] 30 (0, 0))) := ⟨h3_⟩
 have GW221 : Aside0 (w.heap.size ≤ gb221) := ⟨h4_⟩
 have GE221 : Aside0 (w.heap.size ≤ gb221) := ⟨h5_⟩
 have NB216_221 : Aside0 (gb216 ≠ gb221) := ⟨h6_⟩
 have NB221_216 : Aside0 (gb221 ≠ gb216) := ⟨h7_⟩
 have NB217_221 : Aside0 (gb217 ≠ gb221) := ⟨h8_⟩
 have NB221_217 : Aside0 (gb221 ≠ gb217) := ⟨h9_⟩
 replace HB : Aside0 (Below w.heap.size w w10) := ⟨h10_⟩
 clear h0_ h1_ h2_ h3_ h4_ h5_ h6_ h7_ h8_ h9_ h10_
 have hHeld : w10.cell? ⟨gb216, 0, none⟩ = some (.int .i64 a0_0) ∧ w10.cell? ⟨gb216, 1, none⟩ = some (.slice A0_1 l0_1.length c0_1) ∧ w10.cell? ⟨gb216, 2, none⟩ = some (.slice A0_2 l0_2.length c0_2) := hS_
 obtain ⟨Ao11, co11, eo11⟩ := Kd.R_slice HO220.out
 (first | subst eo11 | (injection eo11 with f1_ f2_ f3_; have f4_ := f1_.symm; have f5_ := f3_.symm; clear f1_ f2_ f3_; subst f4_; subst f5_))
 refine norm_ (a' := ?_) ?_ ?_
 rotate_left
 ·simp only [putAll, Act.put, List.setIfInBounds_toArray, List.set_cons_zero, List.set_cons_succ]
  rfl
 refine one_ (i := 10) (N := none) (ms 11 2047) rfl rfl (one_of HT_.out (by kernel_rfl)) (by decide) (fun K hK => ?_)
 have hs12 : w10.cell? ⟨gb221, 0, none⟩ = some (.int .i64 0) := (blk_cell BK221.out 0).trans rfl
 have hfs12 := blk_frozen BK221.out 0
 have hns12_0 := NB216_221.out
 have hns12_1 := NB217_221.out
 have hms12_0 := NB221_216.out
 have hms12_1 := NB221_217.out
 have hs13 : w10.cell? ⟨gb221, 1, none⟩ = some (.slice none 0 0) := (blk_cell BK221.out 1).trans rfl
 have hfs13 := blk_frozen BK221.out 1
 have hns13_0 := NB216_221.out
 have hns13_1 := NB217_221.out
 have hms13_0 := NB221_216.out
 have hms13_1 := NB221_217.out
 refine skip_ (w1 := ?_) (by rfl) rfl ?_ ?_
 rotate_left
 ·go_simp
  rfl
 refine hK.out _ _ ⟨((cell_far (p := ⟨gb221, _, none⟩) NB216_221.out _).trans (((cell_far (p := ⟨gb221, _, none⟩) NB216_221.out _).trans (hHeld.1)))), ((cell_far (p := ⟨gb221, _, none⟩) NB216_221.out _).trans (((cell_far (p := ⟨gb221, _, none⟩) NB216_221.out _).trans (hHeld.2.1)))), ((cell_far (p := ⟨gb221, _, none⟩) NB216_221.out _).trans (((cell_far (p := ⟨gb221, _, none⟩) NB216_221.out _).trans (hHeld.2.2))))⟩ (fun hHeld => ?_)
 clear hK K
 refine done_ (done_of HT_.out (by kernel_rfl)) ?_
 have hnb14 := NB216_217.out
 have hnc14 := NB217_216.out
 have hnb15 := NB216_221.out
 have hnc15 := NB221_216.out
 have hcz16_0 : w10.cell? ⟨gb216, 0, none⟩ = some (.int .i64 a0_0) := (blk_cell BK216.out 0).trans rfl
 have hcz16_1 : w10.cell? ⟨gb216, 1, none⟩ = some (.slice A0_1 l0_1.length c0_1) := (blk_cell BK216.out 1).trans rfl
 have hcz16_2 : w10.cell? ⟨gb216, 2, none⟩ = some (.slice A0_2 l0_2.length c0_2) := (blk_cell BK216.out 2).trans rfl
 have hfz16_0 := blk_frozen BK216.out 0
 have hfz16_1 := blk_frozen BK216.out 1
 have hfz16_2 := blk_frozen BK216.out 2
 try go_wp2
 go_loopg [22] k (fun kq v22 w' => ∃ (x22_1 : Int) (x222001_1 : List (S100)) (u222001 : Value), v22 = .int .i64 x22_1 ∧ Aside0 (impl_Live_now.l0 kq l0_1 (l0_1.length : Int) x22_1 a0_0 l0_1 l0_2 a0_0 x222001_1 = some (r1, r2)) ∧ Aside0 (kq ≤ k) ∧ Aside0 (Kd.R k100 100 w' w.heap.size (fun _ => True) u222001 x222001_1) ∧ Aside0 (w'.heap[gb216]? = some (.cells #[.int .i64 a0_0, (.slice A0_1 l0_1.length c0_1), (.slice A0_2 l0_2.length c0_2)] 49 (0, 0))) ∧ Aside0 (w'.heap[gb217]? = some (.cells #[.int .i64 0, (.slice none 0 0)] 30 (0, 0))) ∧ Aside0 (w'.heap[gb221]? = some (.cells #[.int .i64 a0_0, u222001] 30 (0, 0))) ∧ Aside0 (Below w.heap.size w w'))
 case atStart => exact ⟨(0), (y218), (.slice Ao11 y218.length co11), (by first | rfl | (simp; done) | (simp [*]; done)), H', ⟨Nat.le_refl _⟩, ⟨by (with_reducible repeat (first | apply Kd.R_alloc | apply Kd.R_drewN | apply Kd.R_drew)); exact Kd.R_mono (Kd.R_far (p := ⟨gb221, 1, none⟩) (Kd.R_far (p := ⟨gb221, 0, none⟩) (Kd.R_types HO220.out BK221.out (by decide)) (fun _ hk => hk.2) (.int .i64 a0_0)) (fun _ hk => hk.2) (.slice Ao11 y218.length co11)) (fun _ hk => trivial)⟩, ⟨by (with_reducible repeat (first | refine blk_drewN ?_ _ | refine blk_drew ?_ | refine blk_alloc ?_ _)); refine blk_far ?_ NB216_221.out _; refine blk_far ?_ NB216_221.out _; (with_reducible repeat (first | refine blk_drewN ?_ _ | refine blk_drew ?_ | refine blk_alloc ?_ _)); exact BK216.out⟩, ⟨by (with_reducible repeat (first | refine blk_drewN ?_ _ | refine blk_drew ?_ | refine blk_alloc ?_ _)); refine blk_far ?_ NB217_221.out _; refine blk_far ?_ NB217_221.out _; (with_reducible repeat (first | refine blk_drewN ?_ _ | refine blk_drew ?_ | refine blk_alloc ?_ _)); exact BK217.out⟩, ⟨by (with_reducible repeat (first | refine blk_drewN ?_ _ | refine blk_drew ?_ | refine blk_alloc ?_ _)); refine blk_put (cs := #[.int .i64 a0_0, .slice none 0 0]) ?_ 1 _ rfl; refine blk_put (cs := #[.int .i64 0, .slice none 0 0]) ?_ 0 _ rfl; (with_reducible repeat (first | refine blk_drewN ?_ _ | refine blk_drew ?_ | refine blk_alloc ?_ _)); exact BK221.out⟩, ⟨bl3 HB GE216 GE217 GE221⟩⟩
 clear H'
 try clear c1
 try clear c2
 try clear c2b0
 try clear c2b1
 try clear p2
 try clear c8
 try clear c14
 try clear c15
 try clear hcz16_0
 try clear hcz16_1
 try clear hcz16_2
 try clear hfz16_0
 try clear hfz16_1
 try clear hfz16_2
 obtain ⟨x22_1, x222001_1, u222001, rfl, HA, HK1, HO_222001, BK216, BK217, BK221, HB⟩ := hrel
 cases gk with
 | zero => exact absurd HA.out (by simp [impl_Live_now.l0])
 | succ k1 =>
  have H := HA.out
  clear HA
  simp only [impl_Live_now.l0] at H
  by_cases c17 : x22_1 < (l0_1.length : Int)
  ·rw [if_pos c17] at H
   have c17b0 : decide (x22_1 < (l0_1.length : Int)) = true := decide_eq_true c17
   clear c17
   by_cases c18 : 0 ≤ x22_1
   ·rw [if_pos c18] at H
    have c18b0 : decide (0 ≤ x22_1) = true := decide_eq_true c18
    clear c18
    by_cases c19 : x22_1 < (l0_1.length : Int)
    ·rw [if_pos c19] at H
     have c19b0 : decide (x22_1 < (l0_1.length : Int)) = true := decide_eq_true c19
     clear c19
     have H' := Aside0.mk H
     clear H
     have p225 : 0 ≤ (x22_1 : Int) := oT (by first | (with_reducible assumption) | assumption)
     have q225 : x22_1 < (l0_1.length : Int) := oT (by first | (with_reducible assumption) | assumption)
     obtain ⟨ad225, e225, hx225_0, hx225_1, hx225_2, hx225_3, hx225_4⟩ := at_T100 HR0_1.out x22_1 p225 q225
     cases e225
     replace hx225_0 := hcb HB.out hx225_0
     replace hx225_1 := hcb HB.out hx225_1
     replace hx225_2 := hcb HB.out hx225_2
     replace hx225_3 := hcb HB.out hx225_3
     replace hx225_4 := hcb HB.out hx225_4
     replace p225 := eq_true p225
     replace q225 := eq_true q225
     go_wp2_with (first | ((with_reducible refine gate_dst (N := 5) rfl ?_); refine box_event ?hg (N := 5) ?hd (cs := #[.int .i64 0, .int .i64 0, .int .i64 0, .int .i64 0, .int .i64 0]) (t := 100) ?hr ?_; (case hd => rfl); (case hg => rfl); (case hr => first | (go_simp; done) | (go_simp; rfl)); intro gb226 hg w20 hbox hb; replace HO_222001 := Aside0.mk (Kd.R_below (Kd.R_elderB (rk HO_222001) gb226 (Nat.le_of_eq hg.symm)) hb); have BK226 := Aside0.mk (hbox); have GW226 := Aside0.mk ((by rw [hg]; exact (below_size (bl3 HB GE216 GE217 GE221)) : w.heap.size ≤ gb226)); have GE226 := Aside0.mk ((by rw [hg]; exact (below_size (bl3 HB GE216 GE217 GE221)) : w.heap.size ≤ gb226)); replace HB := Aside0.mk (below_step (bl3 HB GE216 GE217 GE221) hb); have NB216_226 := Aside0.mk ((by rw [hg]; exact Nat.ne_of_lt (blk_lt (bk BK216)) : gb216 ≠ gb226)); have NB226_216 := Aside0.mk ((by rw [hg]; exact Nat.ne_of_gt (blk_lt (bk BK216)) : gb226 ≠ gb216)); replace BK216 := Aside0.mk (blk_below (bk BK216) hb); have NB217_226 := Aside0.mk ((by rw [hg]; exact Nat.ne_of_lt (blk_lt (bk BK217)) : gb217 ≠ gb226)); have NB226_217 := Aside0.mk ((by rw [hg]; exact Nat.ne_of_gt (blk_lt (bk BK217)) : gb226 ≠ gb217)); replace BK217 := Aside0.mk (blk_below (bk BK217) hb); have NB221_226 := Aside0.mk ((by rw [hg]; exact Nat.ne_of_lt (blk_lt (bk BK221)) : gb221 ≠ gb226)); have NB226_221 := Aside0.mk ((by rw [hg]; exact Nat.ne_of_gt (blk_lt (bk BK221)) : gb226 ≠ gb221)); replace BK221 := Aside0.mk (blk_below (bk BK221) hb); clear hb hbox hg; have hnb21 := NB226_216.out; have hnc21 := NB216_226.out; have hnb22 := NB226_217.out; have hnc22 := NB217_226.out; have hnb23 := NB226_221.out; have hnc23 := NB221_226.out; have hcz24_0 : w20.cell? ⟨gb226, 0, none⟩ = some (.int .i64 0) := (blk_cell BK226.out 0).trans rfl; have hcz24_1 : w20.cell? ⟨gb226, 1, none⟩ = some (.int .i64 0) := (blk_cell BK226.out 1).trans rfl; have hcz24_2 : w20.cell? ⟨gb226, 2, none⟩ = some (.int .i64 0) := (blk_cell BK226.out 2).trans rfl; have hcz24_3 : w20.cell? ⟨gb226, 3, none⟩ = some (.int .i64 0) := (blk_cell BK226.out 3).trans rfl; have hcz24_4 : w20.cell? ⟨gb226, 4, none⟩ = some (.int .i64 0) := (blk_cell BK226.out 4).trans rfl; have hfz24_0 := blk_frozen BK226.out 0; have hfz24_1 := blk_frozen BK226.out 1; have hfz24_2 := blk_frozen BK226.out 2; have hfz24_3 := blk_frozen BK226.out 3; have hfz24_4 := blk_frozen BK226.out 4; have hnb25 := NB216_217.out; have hnc25 := NB217_216.out; have hnb26 := NB216_221.out; have hnc26 := NB221_216.out; have hcz27_0 : w20.cell? ⟨gb216, 0, none⟩ = some (.int .i64 a0_0) := (blk_cell BK216.out 0).trans rfl; have hcz27_1 : w20.cell? ⟨gb216, 1, none⟩ = some (.slice (some ad225) l0_1.length c0_1) := (blk_cell BK216.out 1).trans rfl; have hcz27_2 : w20.cell? ⟨gb216, 2, none⟩ = some (.slice A0_2 l0_2.length c0_2) := (blk_cell BK216.out 2).trans rfl; have hfz27_0 := blk_frozen BK216.out 0; have hfz27_1 := blk_frozen BK216.out 1; have hfz27_2 := blk_frozen BK216.out 2))
     go_loopg [6, 30] k1 (fun kq v6 v30 w' => ∃ (x6_2 : Bool) (x30_2 : Int) (x227002_2 : Int), v6 = .bool x6_2 ∧ v30 = .int .i64 x30_2 ∧ Aside0 (impl_Live_now.l1 kq x22_1 x6_2 l0_1 (l0_1.length : Int) x22_1 l0_2 (l0_2.length : Int) x30_2 a0_0 l0_1 l0_2 a0_0 x222001_1 ((rd_T100 l0_1 x22_1).f0) ((rd_T100 l0_1 x22_1).f1) x227002_2 ((rd_T100 l0_1 x22_1).f3) ((rd_T100 l0_1 x22_1).f4) = some (r1, r2)) ∧ Aside0 (kq ≤ k1) ∧ Aside0 (Kd.R k100 100 w' w.heap.size (fun k_ => k_ ≠ gb226) u222001 x222001_1) ∧ Aside0 (w'.heap[gb216]? = some (.cells #[.int .i64 a0_0, (.slice (some ad225) l0_1.length c0_1), (.slice A0_2 l0_2.length c0_2)] 49 (0, 0))) ∧ Aside0 (w'.heap[gb217]? = some (.cells #[.int .i64 0, (.slice none 0 0)] 30 (0, 0))) ∧ Aside0 (w'.heap[gb221]? = some (.cells #[.int .i64 a0_0, u222001] 30 (0, 0))) ∧ Aside0 (w'.heap[gb226]? = some (.cells #[.int .i64 ((rd_T100 l0_1 x22_1).f0), .int .i64 ((rd_T100 l0_1 x22_1).f1), .int .i64 x227002_2, .int .i64 ((rd_T100 l0_1 x22_1).f3), .int .i64 ((rd_T100 l0_1 x22_1).f4)] 100 (0, 0))) ∧ Aside0 (Below w.heap.size w w'))
     case atStart => exact ⟨(true), (0), ((rd_T100 l0_1 x22_1).f2), (by first | rfl | (simp; done) | (simp [*]; done)), (by first | rfl | (simp; done) | (simp [*]; done)), H', ⟨Nat.le_refl _⟩, ⟨by (with_reducible repeat (first | apply Kd.R_alloc | apply Kd.R_drewN | apply Kd.R_drew)); exact Kd.R_mono (Kd.R_far (p := ⟨gb226, 4, none⟩) (Kd.R_far (p := ⟨gb226, 3, none⟩) (Kd.R_far (p := ⟨gb226, 2, none⟩) (Kd.R_far (p := ⟨gb226, 1, none⟩) (Kd.R_far (p := ⟨gb226, 0, none⟩) (Kd.R_mono HO_222001.out (fun k_ hk => (⟨hk, hk.2⟩ : _ ∧ k_ ≠ gb226))) (fun _ hk => hk.2) (.int .i64 ((rd_T100 l0_1 x22_1).f0))) (fun _ hk => hk.2) (.int .i64 ((rd_T100 l0_1 x22_1).f1))) (fun _ hk => hk.2) (.int .i64 ((rd_T100 l0_1 x22_1).f2))) (fun _ hk => hk.2) (.int .i64 ((rd_T100 l0_1 x22_1).f3))) (fun _ hk => hk.2) (.int .i64 ((rd_T100 l0_1 x22_1).f4))) (fun _ hk => hk.1.2)⟩, ⟨by (with_reducible repeat (first | refine blk_drewN ?_ _ | refine blk_drew ?_ | refine blk_alloc ?_ _)); refine blk_far ?_ NB216_226.out _; refine blk_far ?_ NB216_226.out _; refine blk_far ?_ NB216_226.out _; refine blk_far ?_ NB216_226.out _; refine blk_far ?_ NB216_226.out _; (with_reducible repeat (first | refine blk_drewN ?_ _ | refine blk_drew ?_ | refine blk_alloc ?_ _)); exact BK216.out⟩, ⟨by (with_reducible repeat (first | refine blk_drewN ?_ _ | refine blk_drew ?_ | refine blk_alloc ?_ _)); refine blk_far ?_ NB217_226.out _; refine blk_far ?_ NB217_226.out _; refine blk_far ?_ NB217_226.out _; refine blk_far ?_ NB217_226.out _; refine blk_far ?_ NB217_226.out _; (with_reducible repeat (first | refine blk_drewN ?_ _ | refine blk_drew ?_ | refine blk_alloc ?_ _)); exact BK217.out⟩, ⟨by (with_reducible repeat (first | refine blk_drewN ?_ _ | refine blk_drew ?_ | refine blk_alloc ?_ _)); refine blk_far ?_ NB221_226.out _; refine blk_far ?_ NB221_226.out _; refine blk_far ?_ NB221_226.out _; refine blk_far ?_ NB221_226.out _; refine blk_far ?_ NB221_226.out _; (with_reducible repeat (first | refine blk_drewN ?_ _ | refine blk_drew ?_ | refine blk_alloc ?_ _)); exact BK221.out⟩, ⟨by (with_reducible repeat (first | refine blk_drewN ?_ _ | refine blk_drew ?_ | refine blk_alloc ?_ _)); refine blk_put (cs := #[.int .i64 ((rd_T100 l0_1 x22_1).f0), .int .i64 ((rd_T100 l0_1 x22_1).f1), .int .i64 ((rd_T100 l0_1 x22_1).f2), .int .i64 ((rd_T100 l0_1 x22_1).f3), .int .i64 0]) ?_ 4 _ rfl; refine blk_put (cs := #[.int .i64 ((rd_T100 l0_1 x22_1).f0), .int .i64 ((rd_T100 l0_1 x22_1).f1), .int .i64 ((rd_T100 l0_1 x22_1).f2), .int .i64 0, .int .i64 0]) ?_ 3 _ rfl; refine blk_put (cs := #[.int .i64 ((rd_T100 l0_1 x22_1).f0), .int .i64 ((rd_T100 l0_1 x22_1).f1), .int .i64 0, .int .i64 0, .int .i64 0]) ?_ 2 _ rfl; refine blk_put (cs := #[.int .i64 ((rd_T100 l0_1 x22_1).f0), .int .i64 0, .int .i64 0, .int .i64 0, .int .i64 0]) ?_ 1 _ rfl; refine blk_put (cs := #[.int .i64 0, .int .i64 0, .int .i64 0, .int .i64 0, .int .i64 0]) ?_ 0 _ rfl; (with_reducible repeat (first | refine blk_drewN ?_ _ | refine blk_drew ?_ | refine blk_alloc ?_ _)); exact BK226.out⟩, ⟨bl4 HB GE216 GE217 GE221 GE226⟩⟩
     case round =>
      clear H'
      try clear c1
      try clear c2
      try clear c2b0
      try clear c2b1
      try clear p2
      try clear q2
      try clear hx2
      try clear c8
      try clear c14
      try clear c15
      try clear c17
      try clear c17b0
      try clear c18
      try clear c18b0
      try clear c19
      try clear c19b0
      try clear c21
      try clear c22
      try clear p22
      try clear q22
      try clear hx22
      try clear c23
      try clear c25
      try clear c26
      try clear hcz16_0
      try clear hcz16_1
      try clear hcz16_2
      try clear hcz24_0
      try clear hcz24_1
      try clear hcz24_2
      try clear hcz24_3
      try clear hcz24_4
      try clear hcz27_0
      try clear hcz27_1
      try clear hcz27_2
      try clear hfz16_0
      try clear hfz16_1
      try clear hfz16_2
      try clear hfz24_0
      try clear hfz24_1
      try clear hfz24_2
      try clear hfz24_3
      try clear hfz24_4
      try clear hfz27_0
      try clear hfz27_1
      try clear hfz27_2
      try clear hx225_0
      try clear hx225_1
      try clear hx225_2
      try clear hx225_3
      try clear hx225_4
      try clear p2
      try clear p225
      try clear q225
      obtain ⟨x6_2, x30_2, x227002_2, rfl, rfl, HA, HK2, HO_222001, BK216, BK217, BK221, BK226, HB⟩ := hrel
      cases gk with
      | zero => exact absurd HA.out (by simp [impl_Live_now.l1])
      | succ k2 =>
       have H := HA.out
       clear HA
       simp only [impl_Live_now.l1] at H
       by_cases c28 : x30_2 < (l0_2.length : Int)
       ·rw [if_pos c28] at H
        have c28b0 : decide (x30_2 < (l0_2.length : Int)) = true := decide_eq_true c28
        clear c28
        by_cases c29 : 0 ≤ x30_2
        ·rw [if_pos c29] at H
         have c29b0 : decide (0 ≤ x30_2) = true := decide_eq_true c29
         clear c29
         by_cases c30 : x30_2 < (l0_2.length : Int)
         ·rw [if_pos c30] at H
          have c30b0 : decide (x30_2 < (l0_2.length : Int)) = true := decide_eq_true c30
          clear c30
          have HC31 := Aside0.mk H
          clear H
          have p230 : 0 ≤ (x30_2 : Int) := oT (by first | (with_reducible assumption) | assumption)
          have q230 : x30_2 < (l0_2.length : Int) := oT (by first | (with_reducible assumption) | assumption)
          obtain ⟨ad230, e230, hx230_0, hx230_1, hx230_2⟩ := at_T70 HR0_2.out x30_2 p230 q230
          cases e230
          replace hx230_0 := hcb HB.out hx230_0
          replace hx230_1 := hcb HB.out hx230_1
          replace hx230_2 := hcb HB.out hx230_2
          replace p230 := eq_true p230
          replace q230 := eq_true q230
          go_upto_region 9 with (first | ((with_reducible refine gate_dst (N := 8) rfl ?_); refine box_event ?hg (N := 8) ?hd (cs := #[.int .i64 0, .int .i64 0, .int .i64 0]) (t := 70) ?hr ?_; (case hd => rfl); (case hg => rfl); (case hr => first | (go_simp; done) | (go_simp; rfl)); intro gb231 hg w32 hbox hb; replace HO_222001 := Aside0.mk (Kd.R_below (rk HO_222001) hb); have BK231 := Aside0.mk (hbox); have GW231 := Aside0.mk ((by rw [hg]; exact (below_size (bl4 HB GE216 GE217 GE221 GE226)) : w.heap.size ≤ gb231)); have GE231 := Aside0.mk ((by rw [hg]; exact (below_size (bl4 HB GE216 GE217 GE221 GE226)) : w.heap.size ≤ gb231)); replace HB := Aside0.mk (below_step (bl4 HB GE216 GE217 GE221 GE226) hb); have NB216_231 := Aside0.mk ((by rw [hg]; exact Nat.ne_of_lt (blk_lt (bk BK216)) : gb216 ≠ gb231)); have NB231_216 := Aside0.mk ((by rw [hg]; exact Nat.ne_of_gt (blk_lt (bk BK216)) : gb231 ≠ gb216)); replace BK216 := Aside0.mk (blk_below (bk BK216) hb); have NB217_231 := Aside0.mk ((by rw [hg]; exact Nat.ne_of_lt (blk_lt (bk BK217)) : gb217 ≠ gb231)); have NB231_217 := Aside0.mk ((by rw [hg]; exact Nat.ne_of_gt (blk_lt (bk BK217)) : gb231 ≠ gb217)); replace BK217 := Aside0.mk (blk_below (bk BK217) hb); have NB221_231 := Aside0.mk ((by rw [hg]; exact Nat.ne_of_lt (blk_lt (bk BK221)) : gb221 ≠ gb231)); have NB231_221 := Aside0.mk ((by rw [hg]; exact Nat.ne_of_gt (blk_lt (bk BK221)) : gb231 ≠ gb221)); replace BK221 := Aside0.mk (blk_below (bk BK221) hb); have NB226_231 := Aside0.mk ((by rw [hg]; exact Nat.ne_of_lt (blk_lt (bk BK226)) : gb226 ≠ gb231)); have NB231_226 := Aside0.mk ((by rw [hg]; exact Nat.ne_of_gt (blk_lt (bk BK226)) : gb231 ≠ gb226)); replace BK226 := Aside0.mk (blk_below (bk BK226) hb); clear hb hbox hg; have hnb33 := NB231_216.out; have hnc33 := NB216_231.out; have hnb34 := NB231_217.out; have hnc34 := NB217_231.out; have hnb35 := NB231_221.out; have hnc35 := NB221_231.out; have hnb36 := NB231_226.out; have hnc36 := NB226_231.out; have hcz37_0 : w32.cell? ⟨gb231, 0, none⟩ = some (.int .i64 0) := (blk_cell BK231.out 0).trans rfl; have hcz37_1 : w32.cell? ⟨gb231, 1, none⟩ = some (.int .i64 0) := (blk_cell BK231.out 1).trans rfl; have hcz37_2 : w32.cell? ⟨gb231, 2, none⟩ = some (.int .i64 0) := (blk_cell BK231.out 2).trans rfl; have hfz37_0 := blk_frozen BK231.out 0; have hfz37_1 := blk_frozen BK231.out 1; have hfz37_2 := blk_frozen BK231.out 2))
          (try simp only [Act.put, List.setIfInBounds_toArray, List.set_cons_zero, List.set_cons_succ])
          go_cut [42] (fun v42 wc => ∃ (kq : Nat) (x42_30 : Bool), v42 = .bool x42_30 ∧ Aside0 (impl_Live_now.j2 kq x22_1 x6_2 l0_1 (l0_1.length : Int) x22_1 l0_2 (l0_2.length : Int) x30_2 x42_30 a0_0 l0_1 l0_2 a0_0 x222001_1 ((rd_T100 l0_1 x22_1).f0) ((rd_T100 l0_1 x22_1).f1) x227002_2 ((rd_T100 l0_1 x22_1).f3) ((rd_T100 l0_1 x22_1).f4) ((rd_T70 l0_2 x30_2).f0) ((rd_T70 l0_2 x30_2).f1) ((rd_T70 l0_2 x30_2).f2) = some (r1, r2)) ∧ Aside0 (kq ≤ k2) ∧ Aside0 (Kd.R k100 100 wc w.heap.size (fun k_ => k_ ≠ gb226) u222001 x222001_1) ∧ Aside0 (wc.heap[gb216]? = some (.cells #[.int .i64 a0_0, (.slice (some ad225) l0_1.length c0_1), (.slice (some ad230) l0_2.length c0_2)] 49 (0, 0))) ∧ Aside0 (wc.heap[gb217]? = some (.cells #[.int .i64 0, (.slice none 0 0)] 30 (0, 0))) ∧ Aside0 (wc.heap[gb221]? = some (.cells #[.int .i64 a0_0, u222001] 30 (0, 0))) ∧ Aside0 (wc.heap[gb226]? = some (.cells #[.int .i64 ((rd_T100 l0_1 x22_1).f0), .int .i64 ((rd_T100 l0_1 x22_1).f1), .int .i64 x227002_2, .int .i64 ((rd_T100 l0_1 x22_1).f3), .int .i64 ((rd_T100 l0_1 x22_1).f4)] 100 (0, 0))) ∧ Aside0 (wc.heap[gb231]? = some (.cells #[.int .i64 ((rd_T70 l0_2 x30_2).f0), .int .i64 ((rd_T70 l0_2 x30_2).f1), .int .i64 ((rd_T70 l0_2 x30_2).f2)] 70 (0, 0))) ∧ Aside0 (Below w.heap.size w wc))
          case first =>
           have H := HC31.out
           clear HC31
           by_cases c38 : ((rd_T70 l0_2 x30_2).f1) = x22_1
           ·rw [if_pos c38] at H
            have c38b0 : (((rd_T70 l0_2 x30_2).f1) == x22_1) = true := beq_iff_eq.mpr c38
            have c38b1 : (((rd_T70 l0_2 x30_2).f1) != x22_1) = false := bne_eq_false_iff_eq.mpr c38
            clear c38
            (first | rw [c38b0] | (simp only [i64_w, i32_w]; rw [c38b0]) | skip)
            have H' := Aside0.mk H
            clear H
            have hnb39 := NB231_216.out
            have hnc39 := NB216_231.out
            have hnb40 := NB231_217.out
            have hnc40 := NB217_231.out
            have hnb41 := NB231_221.out
            have hnc41 := NB221_231.out
            have hnb42 := NB231_226.out
            have hnc42 := NB226_231.out
            have hcz43_0 : w32.cell? ⟨gb231, 0, none⟩ = some (.int .i64 0) := (blk_cell BK231.out 0).trans rfl
            have hcz43_1 : w32.cell? ⟨gb231, 1, none⟩ = some (.int .i64 0) := (blk_cell BK231.out 1).trans rfl
            have hcz43_2 : w32.cell? ⟨gb231, 2, none⟩ = some (.int .i64 0) := (blk_cell BK231.out 2).trans rfl
            have hfz43_0 := blk_frozen BK231.out 0
            have hfz43_1 := blk_frozen BK231.out 1
            have hfz43_2 := blk_frozen BK231.out 2
            go_wp2
            go_meet
            case rel => exact ⟨_, ((((rd_T70 l0_2 x30_2).f2) == (-1))), (by first | rfl | (simp; done) | (simp [*]; done)), H', ⟨by have := HK1.out; have := HK2.out; first | omega | exact Nat.le_refl _⟩, ⟨by (with_reducible repeat (first | apply Kd.R_alloc | apply Kd.R_drewN | apply Kd.R_drew)); exact Kd.R_mono (Kd.R_far (p := ⟨gb231, 2, none⟩) (Kd.R_far (p := ⟨gb231, 1, none⟩) (Kd.R_far (p := ⟨gb231, 0, none⟩) (Kd.R_types HO_222001.out BK231.out (by decide)) (fun _ hk => hk.2) (.int .i64 ((rd_T70 l0_2 x30_2).f0))) (fun _ hk => hk.2) (.int .i64 ((rd_T70 l0_2 x30_2).f1))) (fun _ hk => hk.2) (.int .i64 ((rd_T70 l0_2 x30_2).f2))) (fun _ hk => hk.1)⟩, ⟨by (with_reducible repeat (first | refine blk_drewN ?_ _ | refine blk_drew ?_ | refine blk_alloc ?_ _)); refine blk_far ?_ NB216_231.out _; refine blk_far ?_ NB216_231.out _; refine blk_far ?_ NB216_231.out _; (with_reducible repeat (first | refine blk_drewN ?_ _ | refine blk_drew ?_ | refine blk_alloc ?_ _)); exact BK216.out⟩, ⟨by (with_reducible repeat (first | refine blk_drewN ?_ _ | refine blk_drew ?_ | refine blk_alloc ?_ _)); refine blk_far ?_ NB217_231.out _; refine blk_far ?_ NB217_231.out _; refine blk_far ?_ NB217_231.out _; (with_reducible repeat (first | refine blk_drewN ?_ _ | refine blk_drew ?_ | refine blk_alloc ?_ _)); exact BK217.out⟩, ⟨by (with_reducible repeat (first | refine blk_drewN ?_ _ | refine blk_drew ?_ | refine blk_alloc ?_ _)); refine blk_far ?_ NB221_231.out _; refine blk_far ?_ NB221_231.out _; refine blk_far ?_ NB221_231.out _; (with_reducible repeat (first | refine blk_drewN ?_ _ | refine blk_drew ?_ | refine blk_alloc ?_ _)); exact BK221.out⟩, ⟨by (with_reducible repeat (first | refine blk_drewN ?_ _ | refine blk_drew ?_ | refine blk_alloc ?_ _)); refine blk_far ?_ NB226_231.out _; refine blk_far ?_ NB226_231.out _; refine blk_far ?_ NB226_231.out _; (with_reducible repeat (first | refine blk_drewN ?_ _ | refine blk_drew ?_ | refine blk_alloc ?_ _)); exact BK226.out⟩, ⟨by (with_reducible repeat (first | refine blk_drewN ?_ _ | refine blk_drew ?_ | refine blk_alloc ?_ _)); refine blk_put (cs := #[.int .i64 ((rd_T70 l0_2 x30_2).f0), .int .i64 ((rd_T70 l0_2 x30_2).f1), .int .i64 0]) ?_ 2 _ rfl; refine blk_put (cs := #[.int .i64 ((rd_T70 l0_2 x30_2).f0), .int .i64 0, .int .i64 0]) ?_ 1 _ rfl; refine blk_put (cs := #[.int .i64 0, .int .i64 0, .int .i64 0]) ?_ 0 _ rfl; (with_reducible repeat (first | refine blk_drewN ?_ _ | refine blk_drew ?_ | refine blk_alloc ?_ _)); exact BK231.out⟩, ⟨by repeat (first | (with_reducible first | exact HB.out | apply below_alloc | apply pw_below_drewN | apply below_drew1 | refine below_set ?_ GE216.out | refine below_set ?_ GE217.out | refine below_set ?_ GE221.out | refine below_set ?_ GE226.out | refine below_set ?_ GE231.out) | exact HB.out)⟩⟩
           ·rw [if_neg c38] at H
            have c38b0 : (((rd_T70 l0_2 x30_2).f1) == x22_1) = false := beq_eq_false_iff_ne.mpr c38
            have c38b1 : (((rd_T70 l0_2 x30_2).f1) != x22_1) = true := bne_iff_ne.mpr c38
            (first | rw [c38b0] | (simp only [i64_w, i32_w]; rw [c38b0]) | skip)
            have H' := Aside0.mk H
            clear H
            have hnb44 := NB231_216.out
            have hnc44 := NB216_231.out
            have hnb45 := NB231_217.out
            have hnc45 := NB217_231.out
            have hnb46 := NB231_221.out
            have hnc46 := NB221_231.out
            have hnb47 := NB231_226.out
            have hnc47 := NB226_231.out
            have hcz48_0 : w32.cell? ⟨gb231, 0, none⟩ = some (.int .i64 0) := (blk_cell BK231.out 0).trans rfl
            have hcz48_1 : w32.cell? ⟨gb231, 1, none⟩ = some (.int .i64 0) := (blk_cell BK231.out 1).trans rfl
            have hcz48_2 : w32.cell? ⟨gb231, 2, none⟩ = some (.int .i64 0) := (blk_cell BK231.out 2).trans rfl
            have hfz48_0 := blk_frozen BK231.out 0
            have hfz48_1 := blk_frozen BK231.out 1
            have hfz48_2 := blk_frozen BK231.out 2
            go_wp2
            go_meet
            case rel => exact ⟨_, (false), (by first | rfl | (simp; done) | (simp [*]; done)), H', ⟨by have := HK1.out; have := HK2.out; first | omega | exact Nat.le_refl _⟩, ⟨by (with_reducible repeat (first | apply Kd.R_alloc | apply Kd.R_drewN | apply Kd.R_drew)); exact Kd.R_mono (Kd.R_far (p := ⟨gb231, 2, none⟩) (Kd.R_far (p := ⟨gb231, 1, none⟩) (Kd.R_far (p := ⟨gb231, 0, none⟩) (Kd.R_types HO_222001.out BK231.out (by decide)) (fun _ hk => hk.2) (.int .i64 ((rd_T70 l0_2 x30_2).f0))) (fun _ hk => hk.2) (.int .i64 ((rd_T70 l0_2 x30_2).f1))) (fun _ hk => hk.2) (.int .i64 ((rd_T70 l0_2 x30_2).f2))) (fun _ hk => hk.1)⟩, ⟨by (with_reducible repeat (first | refine blk_drewN ?_ _ | refine blk_drew ?_ | refine blk_alloc ?_ _)); refine blk_far ?_ NB216_231.out _; refine blk_far ?_ NB216_231.out _; refine blk_far ?_ NB216_231.out _; (with_reducible repeat (first | refine blk_drewN ?_ _ | refine blk_drew ?_ | refine blk_alloc ?_ _)); exact BK216.out⟩, ⟨by (with_reducible repeat (first | refine blk_drewN ?_ _ | refine blk_drew ?_ | refine blk_alloc ?_ _)); refine blk_far ?_ NB217_231.out _; refine blk_far ?_ NB217_231.out _; refine blk_far ?_ NB217_231.out _; (with_reducible repeat (first | refine blk_drewN ?_ _ | refine blk_drew ?_ | refine blk_alloc ?_ _)); exact BK217.out⟩, ⟨by (with_reducible repeat (first | refine blk_drewN ?_ _ | refine blk_drew ?_ | refine blk_alloc ?_ _)); refine blk_far ?_ NB221_231.out _; refine blk_far ?_ NB221_231.out _; refine blk_far ?_ NB221_231.out _; (with_reducible repeat (first | refine blk_drewN ?_ _ | refine blk_drew ?_ | refine blk_alloc ?_ _)); exact BK221.out⟩, ⟨by (with_reducible repeat (first | refine blk_drewN ?_ _ | refine blk_drew ?_ | refine blk_alloc ?_ _)); refine blk_far ?_ NB226_231.out _; refine blk_far ?_ NB226_231.out _; refine blk_far ?_ NB226_231.out _; (with_reducible repeat (first | refine blk_drewN ?_ _ | refine blk_drew ?_ | refine blk_alloc ?_ _)); exact BK226.out⟩, ⟨by (with_reducible repeat (first | refine blk_drewN ?_ _ | refine blk_drew ?_ | refine blk_alloc ?_ _)); refine blk_put (cs := #[.int .i64 ((rd_T70 l0_2 x30_2).f0), .int .i64 ((rd_T70 l0_2 x30_2).f1), .int .i64 0]) ?_ 2 _ rfl; refine blk_put (cs := #[.int .i64 ((rd_T70 l0_2 x30_2).f0), .int .i64 0, .int .i64 0]) ?_ 1 _ rfl; refine blk_put (cs := #[.int .i64 0, .int .i64 0, .int .i64 0]) ?_ 0 _ rfl; (with_reducible repeat (first | refine blk_drewN ?_ _ | refine blk_drew ?_ | refine blk_alloc ?_ _)); exact BK231.out⟩, ⟨by repeat (first | (with_reducible first | exact HB.out | apply below_alloc | apply pw_below_drewN | apply below_drew1 | refine below_set ?_ GE216.out | refine below_set ?_ GE217.out | refine below_set ?_ GE221.out | refine below_set ?_ GE226.out | refine below_set ?_ GE231.out) | exact HB.out)⟩⟩
          case rest =>
           clear HC31
           try clear c1
           try clear c2
           try clear c2b0
           try clear c2b1
           try clear p2
           try clear q2
           try clear hx2
           try clear c3
           try clear c4
           try clear c8
           try clear c14
           try clear c15
           try clear c17
           try clear c17b0
           try clear c18
           try clear c18b0
           try clear c19
           try clear c19b0
           try clear c21
           try clear c22
           try clear p22
           try clear q22
           try clear hx22
           try clear c23
           try clear p23
           try clear q23
           try clear hx23
           try clear c25
           try clear c26
           try clear c28
           try clear c28b0
           try clear c29
           try clear c29b0
           try clear c30
           try clear c30b0
           try clear c33
           try clear c34
           try clear c35
           try clear c36
           try clear c38
           try clear c38b0
           try clear c38b1
           try clear c39
           try clear c40
           try clear c41
           try clear c42
           try clear c44
           try clear c45
           try clear c46
           try clear c47
           try clear hcz16_0
           try clear hcz16_1
           try clear hcz16_2
           try clear hcz24_0
           try clear hcz24_1
           try clear hcz24_2
           try clear hcz24_3
           try clear hcz24_4
           try clear hcz27_0
           try clear hcz27_1
           try clear hcz27_2
           try clear hcz37_0
           try clear hcz37_1
           try clear hcz37_2
           try clear hcz43_0
           try clear hcz43_1
           try clear hcz43_2
           try clear hcz48_0
           try clear hcz48_1
           try clear hcz48_2
           try clear hfz16_0
           try clear hfz16_1
           try clear hfz16_2
           try clear hfz24_0
           try clear hfz24_1
           try clear hfz24_2
           try clear hfz24_3
           try clear hfz24_4
           try clear hfz27_0
           try clear hfz27_1
           try clear hfz27_2
           try clear hfz37_0
           try clear hfz37_1
           try clear hfz37_2
           try clear hfz43_0
           try clear hfz43_1
           try clear hfz43_2
           try clear hfz48_0
           try clear hfz48_1
           try clear hfz48_2
           try clear hx225_0
           try clear hx225_1
           try clear hx225_2
           try clear hx225_3
           try clear hx225_4
           try clear hx230_0
           try clear hx230_1
           try clear hx230_2
           try clear p2
           try clear p22
           try clear p225
           try clear p230
           try clear q2
           try clear q22
           try clear q225
           try clear q230
           obtain ⟨kq, x42_30, rfl, HA, HJ30, HO_222001, BK216, BK217, BK221, BK226, BK231, HB⟩ := hcut
           cases kq with
           | zero => exact absurd HA.out (by simp [impl_Live_now.j2])
           | succ kj30 =>
            have H := HA.out
            clear HA
            simp only [impl_Live_now.j2] at H
            by_cases c49 : x42_30 = true
            ·subst c49
             rw [if_pos rfl] at H
             by_cases c50 : ((rd_T70 l0_2 x30_2).f1) = x22_1
             ·rw [if_pos c50] at H
              have c50b0 : (((rd_T70 l0_2 x30_2).f1) == x22_1) = true := beq_iff_eq.mpr c50
              have c50b1 : (((rd_T70 l0_2 x30_2).f1) != x22_1) = false := bne_eq_false_iff_eq.mpr c50
              clear c50
              have H' := Aside0.mk H
              clear H
              have hnb51 := NB231_216.out
              have hnc51 := NB216_231.out
              have hnb52 := NB231_217.out
              have hnc52 := NB217_231.out
              have hnb53 := NB231_221.out
              have hnc53 := NB221_231.out
              have hnb54 := NB231_226.out
              have hnc54 := NB226_231.out
              have hcz55_0 : wc.cell? ⟨gb231, 0, none⟩ = some (.int .i64 ((rd_T70 l0_2 x30_2).f0)) := (blk_cell BK231.out 0).trans rfl
              have hcz55_1 : wc.cell? ⟨gb231, 1, none⟩ = some (.int .i64 ((rd_T70 l0_2 x30_2).f1)) := (blk_cell BK231.out 1).trans rfl
              have hcz55_2 : wc.cell? ⟨gb231, 2, none⟩ = some (.int .i64 ((rd_T70 l0_2 x30_2).f2)) := (blk_cell BK231.out 2).trans rfl
              have hfz55_0 := blk_frozen BK231.out 0
              have hfz55_1 := blk_frozen BK231.out 1
              have hfz55_2 := blk_frozen BK231.out 2
              go_wp2
              go_roundg kj30
              case measure => have := HK1.out; have := HK2.out; have := HJ30.out; omega
              case rel => exact ⟨(false), (wrap64 (x30_2 + 1)), (x227002_2), (by first | rfl | (simp; done) | (simp [*]; done)), (by first | rfl | (simp; done) | (simp [*]; done)), H', ⟨by have := HK1.out; have := HK2.out; have := HJ30.out; omega⟩, ⟨rk HO_222001⟩, ⟨bk BK216⟩, ⟨bk BK217⟩, ⟨bk BK221⟩, ⟨bk BK226⟩, ⟨by repeat (first | (with_reducible first | exact HB.out | apply below_alloc | apply pw_below_drewN | apply below_drew1 | refine below_set ?_ GE216.out | refine below_set ?_ GE217.out | refine below_set ?_ GE221.out | refine below_set ?_ GE226.out | refine below_set ?_ GE231.out) | exact HB.out)⟩⟩
             ·rw [if_neg c50] at H
              have c50b0 : (((rd_T70 l0_2 x30_2).f1) == x22_1) = false := beq_eq_false_iff_ne.mpr c50
              have c50b1 : (((rd_T70 l0_2 x30_2).f1) != x22_1) = true := bne_iff_ne.mpr c50
              have H' := Aside0.mk H
              clear H
              have hnb56 := NB231_216.out
              have hnc56 := NB216_231.out
              have hnb57 := NB231_217.out
              have hnc57 := NB217_231.out
              have hnb58 := NB231_221.out
              have hnc58 := NB221_231.out
              have hnb59 := NB231_226.out
              have hnc59 := NB226_231.out
              have hcz60_0 : wc.cell? ⟨gb231, 0, none⟩ = some (.int .i64 ((rd_T70 l0_2 x30_2).f0)) := (blk_cell BK231.out 0).trans rfl
              have hcz60_1 : wc.cell? ⟨gb231, 1, none⟩ = some (.int .i64 ((rd_T70 l0_2 x30_2).f1)) := (blk_cell BK231.out 1).trans rfl
              have hcz60_2 : wc.cell? ⟨gb231, 2, none⟩ = some (.int .i64 ((rd_T70 l0_2 x30_2).f2)) := (blk_cell BK231.out 2).trans rfl
              have hfz60_0 := blk_frozen BK231.out 0
              have hfz60_1 := blk_frozen BK231.out 1
              have hfz60_2 := blk_frozen BK231.out 2
              go_wp2
              go_roundg kj30
              case measure => have := HK1.out; have := HK2.out; have := HJ30.out; omega
              case rel => exact ⟨(false), (wrap64 (x30_2 + 1)), (x227002_2), (by first | rfl | (simp; done) | (simp [*]; done)), (by first | rfl | (simp; done) | (simp [*]; done)), H', ⟨by have := HK1.out; have := HK2.out; have := HJ30.out; omega⟩, ⟨rk HO_222001⟩, ⟨bk BK216⟩, ⟨bk BK217⟩, ⟨bk BK221⟩, ⟨bk BK226⟩, ⟨by repeat (first | (with_reducible first | exact HB.out | apply below_alloc | apply pw_below_drewN | apply below_drew1 | refine below_set ?_ GE216.out | refine below_set ?_ GE217.out | refine below_set ?_ GE221.out | refine below_set ?_ GE226.out | refine below_set ?_ GE231.out) | exact HB.out)⟩⟩
            ·replace c49 := Bool.eq_false_iff.mpr c49
             subst c49
             rw [if_neg (show ¬ (false = true) by decide)] at H
             by_cases c61 : ((rd_T70 l0_2 x30_2).f1) = x22_1
             ·rw [if_pos c61] at H
              have c61b0 : (((rd_T70 l0_2 x30_2).f1) == x22_1) = true := beq_iff_eq.mpr c61
              have c61b1 : (((rd_T70 l0_2 x30_2).f1) != x22_1) = false := bne_eq_false_iff_eq.mpr c61
              clear c61
              by_cases c62 : x6_2 = true
              ·subst c62
               rw [if_pos rfl] at H
               have H' := Aside0.mk H
               clear H
               have hnb63 := NB231_216.out
               have hnc63 := NB216_231.out
               have hnb64 := NB231_217.out
               have hnc64 := NB217_231.out
               have hnb65 := NB231_221.out
               have hnc65 := NB221_231.out
               have hnb66 := NB231_226.out
               have hnc66 := NB226_231.out
               have hcz67_0 : wc.cell? ⟨gb231, 0, none⟩ = some (.int .i64 ((rd_T70 l0_2 x30_2).f0)) := (blk_cell BK231.out 0).trans rfl
               have hcz67_1 : wc.cell? ⟨gb231, 1, none⟩ = some (.int .i64 ((rd_T70 l0_2 x30_2).f1)) := (blk_cell BK231.out 1).trans rfl
               have hcz67_2 : wc.cell? ⟨gb231, 2, none⟩ = some (.int .i64 ((rd_T70 l0_2 x30_2).f2)) := (blk_cell BK231.out 2).trans rfl
               have hfz67_0 := blk_frozen BK231.out 0
               have hfz67_1 := blk_frozen BK231.out 1
               have hfz67_2 := blk_frozen BK231.out 2
               have hnb68 := NB226_216.out
               have hnc68 := NB216_226.out
               have hnb69 := NB226_217.out
               have hnc69 := NB217_226.out
               have hnb70 := NB226_221.out
               have hnc70 := NB221_226.out
               have hcz71_0 : wc.cell? ⟨gb226, 0, none⟩ = some (.int .i64 ((rd_T100 l0_1 x22_1).f0)) := (blk_cell BK226.out 0).trans rfl
               have hcz71_1 : wc.cell? ⟨gb226, 1, none⟩ = some (.int .i64 ((rd_T100 l0_1 x22_1).f1)) := (blk_cell BK226.out 1).trans rfl
               have hcz71_2 : wc.cell? ⟨gb226, 2, none⟩ = some (.int .i64 x227002_2) := (blk_cell BK226.out 2).trans rfl
               have hcz71_3 : wc.cell? ⟨gb226, 3, none⟩ = some (.int .i64 ((rd_T100 l0_1 x22_1).f3)) := (blk_cell BK226.out 3).trans rfl
               have hcz71_4 : wc.cell? ⟨gb226, 4, none⟩ = some (.int .i64 ((rd_T100 l0_1 x22_1).f4)) := (blk_cell BK226.out 4).trans rfl
               have hfz71_0 := blk_frozen BK226.out 0
               have hfz71_1 := blk_frozen BK226.out 1
               have hfz71_2 := blk_frozen BK226.out 2
               have hfz71_3 := blk_frozen BK226.out 3
               have hfz71_4 := blk_frozen BK226.out 4
               go_wp2
               go_roundg kj30
               case measure => have := HK1.out; have := HK2.out; have := HJ30.out; omega
               case rel => exact ⟨(true), (wrap64 (x30_2 + 1)), (wrap64 (x227002_2 + ((rd_T70 l0_2 x30_2).f2))), (by first | rfl | (simp; done) | (simp [*]; done)), (by first | rfl | (simp; done) | (simp [*]; done)), H', ⟨by have := HK1.out; have := HK2.out; have := HJ30.out; omega⟩, ⟨by (with_reducible repeat (first | apply Kd.R_alloc | apply Kd.R_drewN | apply Kd.R_drew)); exact Kd.R_mono (Kd.R_far (p := ⟨gb226, 2, none⟩) (Kd.R_mono HO_222001.out (fun k_ hk => (⟨hk, hk⟩ : _ ∧ k_ ≠ gb226))) (fun _ hk => hk.2) (.int .i64 (wrap64 (x227002_2 + ((rd_T70 l0_2 x30_2).f2))))) (fun _ hk => hk.1)⟩, ⟨by (with_reducible repeat (first | refine blk_drewN ?_ _ | refine blk_drew ?_ | refine blk_alloc ?_ _)); refine blk_far ?_ NB216_226.out _; (with_reducible repeat (first | refine blk_drewN ?_ _ | refine blk_drew ?_ | refine blk_alloc ?_ _)); exact BK216.out⟩, ⟨by (with_reducible repeat (first | refine blk_drewN ?_ _ | refine blk_drew ?_ | refine blk_alloc ?_ _)); refine blk_far ?_ NB217_226.out _; (with_reducible repeat (first | refine blk_drewN ?_ _ | refine blk_drew ?_ | refine blk_alloc ?_ _)); exact BK217.out⟩, ⟨by (with_reducible repeat (first | refine blk_drewN ?_ _ | refine blk_drew ?_ | refine blk_alloc ?_ _)); refine blk_far ?_ NB221_226.out _; (with_reducible repeat (first | refine blk_drewN ?_ _ | refine blk_drew ?_ | refine blk_alloc ?_ _)); exact BK221.out⟩, ⟨by (with_reducible repeat (first | refine blk_drewN ?_ _ | refine blk_drew ?_ | refine blk_alloc ?_ _)); refine blk_put (cs := #[.int .i64 ((rd_T100 l0_1 x22_1).f0), .int .i64 ((rd_T100 l0_1 x22_1).f1), .int .i64 x227002_2, .int .i64 ((rd_T100 l0_1 x22_1).f3), .int .i64 ((rd_T100 l0_1 x22_1).f4)]) ?_ 2 _ rfl; (with_reducible repeat (first | refine blk_drewN ?_ _ | refine blk_drew ?_ | refine blk_alloc ?_ _)); exact BK226.out⟩, ⟨by repeat (first | (with_reducible first | exact HB.out | apply below_alloc | apply pw_below_drewN | apply below_drew1 | refine below_set ?_ GE216.out | refine below_set ?_ GE217.out | refine below_set ?_ GE221.out | refine below_set ?_ GE226.out | refine below_set ?_ GE231.out) | exact HB.out)⟩⟩
              ·replace c62 := Bool.eq_false_iff.mpr c62
               subst c62
               rw [if_neg (show ¬ (false = true) by decide)] at H
               have H' := Aside0.mk H
               clear H
               have hnb72 := NB231_216.out
               have hnc72 := NB216_231.out
               have hnb73 := NB231_217.out
               have hnc73 := NB217_231.out
               have hnb74 := NB231_221.out
               have hnc74 := NB221_231.out
               have hnb75 := NB231_226.out
               have hnc75 := NB226_231.out
               have hcz76_0 : wc.cell? ⟨gb231, 0, none⟩ = some (.int .i64 ((rd_T70 l0_2 x30_2).f0)) := (blk_cell BK231.out 0).trans rfl
               have hcz76_1 : wc.cell? ⟨gb231, 1, none⟩ = some (.int .i64 ((rd_T70 l0_2 x30_2).f1)) := (blk_cell BK231.out 1).trans rfl
               have hcz76_2 : wc.cell? ⟨gb231, 2, none⟩ = some (.int .i64 ((rd_T70 l0_2 x30_2).f2)) := (blk_cell BK231.out 2).trans rfl
               have hfz76_0 := blk_frozen BK231.out 0
               have hfz76_1 := blk_frozen BK231.out 1
               have hfz76_2 := blk_frozen BK231.out 2
               go_wp2
               go_roundg kj30
               case measure => have := HK1.out; have := HK2.out; have := HJ30.out; omega
               case rel => exact ⟨(false), (wrap64 (x30_2 + 1)), (x227002_2), (by first | rfl | (simp; done) | (simp [*]; done)), (by first | rfl | (simp; done) | (simp [*]; done)), H', ⟨by have := HK1.out; have := HK2.out; have := HJ30.out; omega⟩, ⟨rk HO_222001⟩, ⟨bk BK216⟩, ⟨bk BK217⟩, ⟨bk BK221⟩, ⟨bk BK226⟩, ⟨by repeat (first | (with_reducible first | exact HB.out | apply below_alloc | apply pw_below_drewN | apply below_drew1 | refine below_set ?_ GE216.out | refine below_set ?_ GE217.out | refine below_set ?_ GE221.out | refine below_set ?_ GE226.out | refine below_set ?_ GE231.out) | exact HB.out)⟩⟩
             ·rw [if_neg c61] at H
              have c61b0 : (((rd_T70 l0_2 x30_2).f1) == x22_1) = false := beq_eq_false_iff_ne.mpr c61
              have c61b1 : (((rd_T70 l0_2 x30_2).f1) != x22_1) = true := bne_iff_ne.mpr c61
              have H' := Aside0.mk H
              clear H
              have hnb77 := NB231_216.out
              have hnc77 := NB216_231.out
              have hnb78 := NB231_217.out
              have hnc78 := NB217_231.out
              have hnb79 := NB231_221.out
              have hnc79 := NB221_231.out
              have hnb80 := NB231_226.out
              have hnc80 := NB226_231.out
              have hcz81_0 : wc.cell? ⟨gb231, 0, none⟩ = some (.int .i64 ((rd_T70 l0_2 x30_2).f0)) := (blk_cell BK231.out 0).trans rfl
              have hcz81_1 : wc.cell? ⟨gb231, 1, none⟩ = some (.int .i64 ((rd_T70 l0_2 x30_2).f1)) := (blk_cell BK231.out 1).trans rfl
              have hcz81_2 : wc.cell? ⟨gb231, 2, none⟩ = some (.int .i64 ((rd_T70 l0_2 x30_2).f2)) := (blk_cell BK231.out 2).trans rfl
              have hfz81_0 := blk_frozen BK231.out 0
              have hfz81_1 := blk_frozen BK231.out 1
              have hfz81_2 := blk_frozen BK231.out 2
              go_wp2
              go_roundg kj30
              case measure => have := HK1.out; have := HK2.out; have := HJ30.out; omega
              case rel => exact ⟨(x6_2), (wrap64 (x30_2 + 1)), (x227002_2), (by first | rfl | (simp; done) | (simp [*]; done)), (by first | rfl | (simp; done) | (simp [*]; done)), H', ⟨by have := HK1.out; have := HK2.out; have := HJ30.out; omega⟩, ⟨rk HO_222001⟩, ⟨bk BK216⟩, ⟨bk BK217⟩, ⟨bk BK221⟩, ⟨bk BK226⟩, ⟨by repeat (first | (with_reducible first | exact HB.out | apply below_alloc | apply pw_below_drewN | apply below_drew1 | refine below_set ?_ GE216.out | refine below_set ?_ GE217.out | refine below_set ?_ GE221.out | refine below_set ?_ GE226.out | refine below_set ?_ GE231.out) | exact HB.out)⟩⟩
         ·rw [if_neg c30] at H
          exact absurd H (by simp)
        ·rw [if_neg c29] at H
         exact absurd H (by simp)
       ·rw [if_neg c28] at H
        have c28b0 : decide (x30_2 < (l0_2.length : Int)) = false := decide_eq_false c28
        clear c28
        obtain ⟨ji82, hji82⟩ : ∃ j_ : Int, (mn x227002_2 99) = j_ := ⟨_, rfl⟩
        replace H : (if x6_2 = true then (if x222001_1.length < 3518437208883 then (impl_Live_now.l0 k2 l0_1 (l0_1.length : Int) (wrap64 (x22_1 + 1)) a0_0 l0_1 l0_2 a0_0 (x222001_1 ++ [(⟨((rd_T100 l0_1 x22_1).f0), ((rd_T100 l0_1 x22_1).f1), ji82, ((rd_T100 l0_1 x22_1).f3), ((rd_T100 l0_1 x22_1).f4)⟩ : S100)])) else (none)) else (impl_Live_now.l0 k2 l0_1 (l0_1.length : Int) (wrap64 (x22_1 + 1)) a0_0 l0_1 l0_2 a0_0 x222001_1)) = some (r1, r2) := by first | (rw [hji82] at H; exact H) | (simp only [hji82] at H ⊢; exact H)
        have hji82_ : (if 99 < x227002_2 then 99 else x227002_2) = ji82 := hji82
        by_cases c83 : x6_2 = true
        ·subst c83
         rw [if_pos rfl] at H
         by_cases c84 : x222001_1.length < 3518437208883
         ·rw [if_pos c84] at H
          have LMc84 := Aside0.mk c84
          clear c84
          obtain ⟨y227, hy227⟩ : ∃ y_ : List (S100), y_ = (x222001_1 ++ [(⟨((rd_T100 l0_1 x22_1).f0), ((rd_T100 l0_1 x22_1).f1), ji82, ((rd_T100 l0_1 x22_1).f3), ((rd_T100 l0_1 x22_1).f4)⟩ : S100)]) := ⟨_, rfl⟩
          replace H : (impl_Live_now.l0 k2 l0_1 (l0_1.length : Int) (wrap64 (x22_1 + 1)) a0_0 l0_1 l0_2 a0_0 y227) = some (r1, r2) := by first | (rw [hy227]; with_reducible exact H) | (have H2_ := (Option.bind_some _ _).symm.trans H; rw [hy227]; with_reducible exact H2_) | (have H2_ := (Option.bind_some _ _).symm.trans H; with_reducible exact H2_) | with_reducible exact H | (rw [hy227]; exact H) | exact H
          have Ny227 := Aside0.mk hy227
          clear hy227
          have H' := Aside0.mk H
          clear H
          have hnb85 := NB226_216.out
          have hnc85 := NB216_226.out
          have hnb86 := NB226_217.out
          have hnc86 := NB217_226.out
          have hnb87 := NB226_221.out
          have hnc87 := NB221_226.out
          have hcz88_0 : wr.cell? ⟨gb226, 0, none⟩ = some (.int .i64 ((rd_T100 l0_1 x22_1).f0)) := (blk_cell BK226.out 0).trans rfl
          have hcz88_1 : wr.cell? ⟨gb226, 1, none⟩ = some (.int .i64 ((rd_T100 l0_1 x22_1).f1)) := (blk_cell BK226.out 1).trans rfl
          have hcz88_2 : wr.cell? ⟨gb226, 2, none⟩ = some (.int .i64 x227002_2) := (blk_cell BK226.out 2).trans rfl
          have hcz88_3 : wr.cell? ⟨gb226, 3, none⟩ = some (.int .i64 ((rd_T100 l0_1 x22_1).f3)) := (blk_cell BK226.out 3).trans rfl
          have hcz88_4 : wr.cell? ⟨gb226, 4, none⟩ = some (.int .i64 ((rd_T100 l0_1 x22_1).f4)) := (blk_cell BK226.out 4).trans rfl
          have hfz88_0 := blk_frozen BK226.out 0
          have hfz88_1 := blk_frozen BK226.out 1
          have hfz88_2 := blk_frozen BK226.out 2
          have hfz88_3 := blk_frozen BK226.out 3
          have hfz88_4 := blk_frozen BK226.out 4
          have hnb89 := NB221_216.out
          have hnc89 := NB216_221.out
          have hnb90 := NB221_217.out
          have hnc90 := NB217_221.out
          have hcz91_0 : wr.cell? ⟨gb221, 0, none⟩ = some (.int .i64 a0_0) := (blk_cell BK221.out 0).trans rfl
          have hcz91_1 : wr.cell? ⟨gb221, 1, none⟩ = some (u222001) := (blk_cell BK221.out 1).trans rfl
          have hfz91_0 := blk_frozen BK221.out 0
          have hfz91_1 := blk_frozen BK221.out 1
          go_wp2_with (first | ((with_reducible refine gate_builtin (b := .append) (xs := #[.tmp 63, .tmp 65]) rfl ?_); at_builtin; refine Kd.R_append k100 (w0 := w) w.heap.size rfl (.tmp 63) (.tmp 65) 28 100 (.agg #[(.int .i64 0), (.int .i64 0), (.int .i64 0), (.int .i64 0), (.int .i64 0)]) 40 rfl Try.underlying28 info100 rfl (by decide) (by omega) u222001 x222001_1 (⟨((rd_T100 l0_1 x22_1).f0), ((rd_T100 l0_1 x22_1).f1), ji82, ((rd_T100 l0_1 x22_1).f3), ((rd_T100 l0_1 x22_1).f4)⟩ : S100) [.int .i64 ((rd_T100 l0_1 x22_1).f0), .int .i64 ((rd_T100 l0_1 x22_1).f1), .int .i64 ji82, .int .i64 ((rd_T100 l0_1 x22_1).f3), .int .i64 ((rd_T100 l0_1 x22_1).f4)] (fun k_ => k_ ≠ gb226) (fun _ => False) rfl (by first | (go_simp; done) | (go_simp; rfl)) ?aP (fun _ hk => hk.elim) ?aF ?aO ?aB ?aS ?aL ?_; (case aP => exact k100_mkM _ _ _ (⟨((rd_T100 l0_1 x22_1).f0), ((rd_T100 l0_1 x22_1).f1), ji82, ((rd_T100 l0_1 x22_1).f3), ((rd_T100 l0_1 x22_1).f4)⟩ : S100)); (case aB => exact (bl4 HB GE216 GE217 GE221 GE226)); (case aF => exact (fun k_ hk => Kd.freshB (g := gb226) (o := .cells #[.int .i64 ((rd_T100 l0_1 x22_1).f0), .int .i64 ((rd_T100 l0_1 x22_1).f1), .int .i64 ji82, .int .i64 ((rd_T100 l0_1 x22_1).f3), .int .i64 ((rd_T100 l0_1 x22_1).f4)] 100 (0, 0)) (by (with_reducible repeat (first | refine blk_drewN ?_ _ | refine blk_drew ?_ | refine blk_alloc ?_ _)); refine blk_put (cs := #[.int .i64 ((rd_T100 l0_1 x22_1).f0), .int .i64 ((rd_T100 l0_1 x22_1).f1), .int .i64 x227002_2, .int .i64 ((rd_T100 l0_1 x22_1).f3), .int .i64 ((rd_T100 l0_1 x22_1).f4)]) ?_ 2 _ rfl; (with_reducible repeat (first | refine blk_drewN ?_ _ | refine blk_drew ?_ | refine blk_alloc ?_ _)); exact BK226.out) k_ hk)); (case aO => exact (by (with_reducible repeat (first | apply Kd.R_alloc | apply Kd.R_drewN | apply Kd.R_drew)); exact Kd.R_mono (Kd.R_far (p := ⟨gb226, 2, none⟩) (Kd.R_mono HO_222001.out (fun k_ hk => (⟨hk, hk⟩ : _ ∧ k_ ≠ gb226))) (fun _ hk => hk.2) (.int .i64 ji82)) (fun _ hk => hk.1))); (case aS => exact (below_size (bl4 HB GE216 GE217 GE221 GE226))); (case aL => have := LMc84.out; omega); intro v228 w92 ho hb hg hat; rw [← Ny227.out] at ho; have n0_ := Aside0.mk (blk_grown (g := gb216) (o := .cells #[.int .i64 a0_0, .slice (some ad225) l0_1.length c0_1, .slice A0_2 l0_2.length c0_2] 49 (0, 0)) (by (with_reducible repeat (first | refine blk_drewN ?_ _ | refine blk_drew ?_ | refine blk_alloc ?_ _)); refine blk_far ?_ NB216_226.out _; (with_reducible repeat (first | refine blk_drewN ?_ _ | refine blk_drew ?_ | refine blk_alloc ?_ _)); exact BK216.out) hg (Kd.R_ne HO_222001.out BK216.out (by decide))); have n1_ := Aside0.mk (blk_grown (g := gb217) (o := .cells #[.int .i64 0, .slice none 0 0] 30 (0, 0)) (by (with_reducible repeat (first | refine blk_drewN ?_ _ | refine blk_drew ?_ | refine blk_alloc ?_ _)); refine blk_far ?_ NB217_226.out _; (with_reducible repeat (first | refine blk_drewN ?_ _ | refine blk_drew ?_ | refine blk_alloc ?_ _)); exact BK217.out) hg (Kd.R_ne HO_222001.out BK217.out (by decide))); have n2_ := Aside0.mk (blk_grown (g := gb221) (o := .cells #[.int .i64 a0_0, u222001] 30 (0, 0)) (by (with_reducible repeat (first | refine blk_drewN ?_ _ | refine blk_drew ?_ | refine blk_alloc ?_ _)); refine blk_far ?_ NB221_226.out _; (with_reducible repeat (first | refine blk_drewN ?_ _ | refine blk_drew ?_ | refine blk_alloc ?_ _)); exact BK221.out) hg (Kd.R_ne HO_222001.out BK221.out (by decide))); have n3_ := Aside0.mk (blk_grown (g := gb226) (o := .cells #[.int .i64 ((rd_T100 l0_1 x22_1).f0), .int .i64 ((rd_T100 l0_1 x22_1).f1), .int .i64 ji82, .int .i64 ((rd_T100 l0_1 x22_1).f3), .int .i64 ((rd_T100 l0_1 x22_1).f4)] 100 (0, 0)) (by (with_reducible repeat (first | refine blk_drewN ?_ _ | refine blk_drew ?_ | refine blk_alloc ?_ _)); refine blk_put (cs := #[.int .i64 ((rd_T100 l0_1 x22_1).f0), .int .i64 ((rd_T100 l0_1 x22_1).f1), .int .i64 x227002_2, .int .i64 ((rd_T100 l0_1 x22_1).f3), .int .i64 ((rd_T100 l0_1 x22_1).f4)]) ?_ 2 _ rfl; (with_reducible repeat (first | refine blk_drewN ?_ _ | refine blk_drew ?_ | refine blk_alloc ?_ _)); exact BK226.out) hg (Kd.R_away HO_222001.out (fun _ hk => hk))); have n4_ := Aside0.mk (hb); have n5_ := Aside0.mk (ho); clear BK216; clear BK217; clear BK221; clear BK226; clear HB; clear HO_222001; have BK216 := n0_; have BK217 := n1_; have BK221 := n2_; have BK226 := n3_; have HB := n4_; have HO229 := n5_; clear n0_ n1_ n2_ n3_ n4_ n5_; clear ho hb hg hat; obtain ⟨Ao93, co93, eo93⟩ := Kd.R_slice HO229.out; subst eo93; have hcz94_0 : w92.cell? ⟨gb221, 0, none⟩ = some (.int .i64 a0_0) := (blk_cell BK221.out 0).trans rfl; have hcz94_1 : w92.cell? ⟨gb221, 1, none⟩ = some (u222001) := (blk_cell BK221.out 1).trans rfl; have hfz94_0 := blk_frozen BK221.out 0; have hfz94_1 := blk_frozen BK221.out 1))
          go_roundg k2
          case measure => have := HK1.out; have := HK2.out; omega
          case rel => exact ⟨(wrap64 (x22_1 + 1)), (y227), (.slice Ao93 y227.length co93), (by first | rfl | (simp; done) | (simp [*]; done)), H', ⟨by have := HK1.out; have := HK2.out; omega⟩, ⟨by (with_reducible repeat (first | apply Kd.R_alloc | apply Kd.R_drewN | apply Kd.R_drew)); exact Kd.R_mono (Kd.R_far (p := ⟨gb221, 1, none⟩) (Kd.R_types HO229.out BK221.out (by decide)) (fun _ hk => hk.2) (.slice Ao93 y227.length co93)) (fun _ hk => trivial)⟩, ⟨by (with_reducible repeat (first | refine blk_drewN ?_ _ | refine blk_drew ?_ | refine blk_alloc ?_ _)); refine blk_far ?_ NB216_221.out _; (with_reducible repeat (first | refine blk_drewN ?_ _ | refine blk_drew ?_ | refine blk_alloc ?_ _)); exact BK216.out⟩, ⟨by (with_reducible repeat (first | refine blk_drewN ?_ _ | refine blk_drew ?_ | refine blk_alloc ?_ _)); refine blk_far ?_ NB217_221.out _; (with_reducible repeat (first | refine blk_drewN ?_ _ | refine blk_drew ?_ | refine blk_alloc ?_ _)); exact BK217.out⟩, ⟨by (with_reducible repeat (first | refine blk_drewN ?_ _ | refine blk_drew ?_ | refine blk_alloc ?_ _)); refine blk_put (cs := #[.int .i64 a0_0, u222001]) ?_ 1 _ rfl; (with_reducible repeat (first | refine blk_drewN ?_ _ | refine blk_drew ?_ | refine blk_alloc ?_ _)); exact BK221.out⟩, ⟨bl4 HB GE216 GE217 GE221 GE226⟩⟩
         ·rw [if_neg c84] at H
          exact absurd H (by simp)
        ·replace c83 := Bool.eq_false_iff.mpr c83
         subst c83
         rw [if_neg (show ¬ (false = true) by decide)] at H
         have H' := Aside0.mk H
         clear H
         have hnb95 := NB226_216.out
         have hnc95 := NB216_226.out
         have hnb96 := NB226_217.out
         have hnc96 := NB217_226.out
         have hnb97 := NB226_221.out
         have hnc97 := NB221_226.out
         have hcz98_0 : wr.cell? ⟨gb226, 0, none⟩ = some (.int .i64 ((rd_T100 l0_1 x22_1).f0)) := (blk_cell BK226.out 0).trans rfl
         have hcz98_1 : wr.cell? ⟨gb226, 1, none⟩ = some (.int .i64 ((rd_T100 l0_1 x22_1).f1)) := (blk_cell BK226.out 1).trans rfl
         have hcz98_2 : wr.cell? ⟨gb226, 2, none⟩ = some (.int .i64 x227002_2) := (blk_cell BK226.out 2).trans rfl
         have hcz98_3 : wr.cell? ⟨gb226, 3, none⟩ = some (.int .i64 ((rd_T100 l0_1 x22_1).f3)) := (blk_cell BK226.out 3).trans rfl
         have hcz98_4 : wr.cell? ⟨gb226, 4, none⟩ = some (.int .i64 ((rd_T100 l0_1 x22_1).f4)) := (blk_cell BK226.out 4).trans rfl
         have hfz98_0 := blk_frozen BK226.out 0
         have hfz98_1 := blk_frozen BK226.out 1
         have hfz98_2 := blk_frozen BK226.out 2
         have hfz98_3 := blk_frozen BK226.out 3
         have hfz98_4 := blk_frozen BK226.out 4
         go_wp2
         go_roundg k2
         case measure => have := HK1.out; have := HK2.out; omega
         case rel => exact ⟨(wrap64 (x22_1 + 1)), (x222001_1), (u222001), (by first | rfl | (simp; done) | (simp [*]; done)), H', ⟨by have := HK1.out; have := HK2.out; omega⟩, ⟨by (with_reducible repeat (first | apply Kd.R_alloc | apply Kd.R_drewN | apply Kd.R_drew)); exact Kd.R_mono (Kd.R_far (p := ⟨gb226, 2, none⟩) (Kd.R_mono HO_222001.out (fun k_ hk => (⟨hk, hk⟩ : _ ∧ k_ ≠ gb226))) (fun _ hk => hk.2) (.int .i64 ji82)) (fun _ hk => trivial)⟩, ⟨by (with_reducible repeat (first | refine blk_drewN ?_ _ | refine blk_drew ?_ | refine blk_alloc ?_ _)); refine blk_far ?_ NB216_226.out _; (with_reducible repeat (first | refine blk_drewN ?_ _ | refine blk_drew ?_ | refine blk_alloc ?_ _)); exact BK216.out⟩, ⟨by (with_reducible repeat (first | refine blk_drewN ?_ _ | refine blk_drew ?_ | refine blk_alloc ?_ _)); refine blk_far ?_ NB217_226.out _; (with_reducible repeat (first | refine blk_drewN ?_ _ | refine blk_drew ?_ | refine blk_alloc ?_ _)); exact BK217.out⟩, ⟨by (with_reducible repeat (first | refine blk_drewN ?_ _ | refine blk_drew ?_ | refine blk_alloc ?_ _)); refine blk_far ?_ NB221_226.out _; (with_reducible repeat (first | refine blk_drewN ?_ _ | refine blk_drew ?_ | refine blk_alloc ?_ _)); exact BK221.out⟩, ⟨bl4 HB GE216 GE217 GE221 GE226⟩⟩
    ·rw [if_neg c19] at H
     exact absurd H (by simp)
   ·rw [if_neg c18] at H
    exact absurd H (by simp)
  ·rw [if_neg c17] at H
   have c17b0 : decide (x22_1 < (l0_1.length : Int)) = false := decide_eq_false c17
   clear c17
   replace H := Option.bind_eq_some_iff.mp H
   obtain ⟨t222, A990, H⟩ := H
   have A99 := Aside0.mk A990
   clear A990
   simp only [Option.some.injEq, Prod.mk.injEq] at H
   obtain ⟨rfl, rfl⟩ := H
   have hnb100 := NB221_216.out
   have hnc100 := NB216_221.out
   have hnb101 := NB221_217.out
   have hnc101 := NB217_221.out
   have hcz102_0 : wr.cell? ⟨gb221, 0, none⟩ = some (.int .i64 a0_0) := (blk_cell BK221.out 0).trans rfl
   have hcz102_1 : wr.cell? ⟨gb221, 1, none⟩ = some (u222001) := (blk_cell BK221.out 1).trans rfl
   have hfz102_0 := blk_frozen BK221.out 0
   have hfz102_1 := blk_frozen BK221.out 1
   obtain ⟨Ao103, co103, eo103⟩ := Kd.R_slice HO_222001.out
   subst eo103
   go_wp2_with (first | ((with_reducible refine gate_callee (f := 127) rfl ?_); refine goesL_ (some 71) rfl rfl Try.func127 (by kernel_rfl) rfl #[.slice Ao103 x222001_1.length co103] rfl (by (try simp only [List.map_toArray, List.map_cons, List.map_nil]); first | done | rfl | (simp only [List.length_drop, List.length_take]; rfl)) ?_; (with_reducible refine (impl_Arc_127.calls (fun k_ => some k_ = (.slice Ao103 x222001_1.length co103 : Value).ownBlock) (.slice Ao103 x222001_1.length co103) x222001_1 t222 w _ ?side1 ?side2 A99.out).mono ?_); (case side1 => repeat (first | (with_reducible first | exact HB.out | apply below_alloc | apply pw_below_drewN | apply below_drew1 | refine below_set ?_ GE216.out | refine below_set ?_ GE217.out | refine below_set ?_ GE221.out) | exact HB.out)); (case side2 => exact Kd.R_tight rfl HO_222001.out); rintro e w104 ⟨v223, rfl, ho0, hb, hkp⟩; refine ⟨_, rfl, ?_⟩; have n0_ := Aside0.mk (blk_kept (bk BK216) hkp (fun hs_ => (fun e_ => (Kd.R_ne HO_222001.out BK216.out (by decide)) e_) hs_)); have n1_ := Aside0.mk (blk_kept (bk BK217) hkp (fun hs_ => (fun e_ => (Kd.R_ne HO_222001.out BK217.out (by decide)) e_) hs_)); have n2_ := Aside0.mk (blk_kept (bk BK221) hkp (fun hs_ => (fun e_ => (Kd.R_ne HO_222001.out BK221.out (by decide)) e_) hs_)); have n3_ := Aside0.mk (Kd.R_mono (ok' := fun k_ => True) ho0 (fun k_ hk_ => trivial)); have n4_ := Aside0.mk (hb); clear BK216; clear BK217; clear BK221; clear HB; clear HO_222001; have BK216 := n0_; have BK217 := n1_; have BK221 := n2_; have HO224 := n3_; have HB := n4_; clear n0_ n1_ n2_ n3_ n4_; (try clear hb); (try clear hkp); (try clear ho0); obtain ⟨Ao105, co105, eo105⟩ := Kd.R_slice HO224.out; subst eo105; have hcz106_0 : w104.cell? ⟨gb221, 0, none⟩ = some (.int .i64 a0_0) := (blk_cell BK221.out 0).trans rfl; have hcz106_1 : w104.cell? ⟨gb221, 1, none⟩ = some (.slice Ao103 x222001_1.length co103) := (blk_cell BK221.out 1).trans rfl; have hfz106_0 := blk_frozen BK221.out 0; have hfz106_1 := blk_frozen BK221.out 1; have hnb107 := NB217_216.out; have hnc107 := NB216_217.out; have hcz108_0 : w104.cell? ⟨gb217, 0, none⟩ = some (.int .i64 0) := (blk_cell BK217.out 0).trans rfl; have hcz108_1 : w104.cell? ⟨gb217, 1, none⟩ = some (.slice none 0 0) := (blk_cell BK217.out 1).trans rfl; have hfz108_0 := blk_frozen BK217.out 0; have hfz108_1 := blk_frozen BK217.out 1))
   refine bodyPost_ret (results_cell_row rfl _ _ gb217 30 #[.int .i64 a0_0, .slice Ao105 t222.length co105] (0, 0) _ rfl (by (with_reducible repeat (first | refine blk_drewN ?_ _ | refine blk_drew ?_ | refine blk_alloc ?_ _)); refine blk_put (cs := #[.int .i64 a0_0, .slice none 0 0]) ?_ 1 _ rfl; refine blk_put (cs := #[.int .i64 0, .slice none 0 0]) ?_ 0 _ rfl; refine blk_far ?_ NB217_221.out _; (with_reducible repeat (first | refine blk_drewN ?_ _ | refine blk_drew ?_ | refine blk_alloc ?_ _)); exact BK217.out) Try.underlying30 rfl (by kernel_rfl)) rfl ?_
   exact ⟨_, by first | rfl | (simp [errW_none, errW_some] <;> rfl) | (simp [*, errW_none, errW_some] <;> rfl), by (with_reducible repeat (first | apply Kd.R_alloc | apply Kd.R_drewN | apply Kd.R_drew)); exact Kd.R_mono (Kd.R_far (p := ⟨gb217, 1, none⟩) (Kd.R_far (p := ⟨gb217, 0, none⟩) (Kd.R_far (p := ⟨gb221, 1, none⟩) (Kd.R_types (Kd.R_types HO224.out BK221.out (by decide)) BK217.out (by decide)) (fun _ hk => hk.1.2) (.slice Ao105 t222.length co105)) (fun _ hk => hk.2) (.int .i64 a0_0)) (fun _ hk => hk.2) (.slice Ao105 t222.length co105)) (fun _ hk => trivial), bl3 HB GE216 GE217 GE221⟩

end Go.Proofs.Ytbappbbljncdeaa.F
