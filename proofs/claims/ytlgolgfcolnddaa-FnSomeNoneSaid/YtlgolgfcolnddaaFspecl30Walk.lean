-- Printed by wip/px/px.py of this claim's repository (the kit's printer, extended there). Lean checks it.
import Derived.Test.YtlgolgfcolnddaaFKinds
import Derived.Test.YtlgolgfcolnddaaFspecl30Open
import Derived.Test.YtlgolgfcolnddaaFspecl30Rdpick
namespace Go.Proofs.Ytlgolgfcolnddaa.F
open Go.RowKit Go.Proofs.YtlgolgfcolnddaaW.PrintWords Go.Proofs.YtlgolgfcolnddaaW.PrintLast Go.Proofs.YtlgolgfcolnddaaW.PrintMore
attribute [local go_sem] max2_int min2_int max_two min_two max_three min_three max_four min_four   -- for this text's walks alone
set_option linter.unusedVariables false
set_option linter.unusedSimpArgs false

/-! ### spec_l30Walk: function 122 -/
mutual
def spec_l30Walk.l0 : Nat → List Int → Int → Int → List Int → Int → Int → List (S58) → Option (List Int × Int)
 | 0, _, _, _, _, _, _, _ => none
 | k + 1, x9, x10, x11, x1000, x1001, x524000, x524001 => if x11 > 0 then (spec_l30Walk.l1 k x9 x10 x11 (([] : List Int)) 0 x1000 x1001 x524000 x524001) else (some (x9, x1001))
def spec_l30Walk.l1 : Nat → List Int → Int → Int → List Int → Int → List Int → Int → Int → List (S58) → Option (List Int × Int)
 | 0, _, _, _, _, _, _, _, _, _ => none
 | k + 1, x9, x10, x11, x12, x13, x1000, x1001, x524000, x524001 => if x13 < (x524001.length : Int) then (if 0 ≤ x13 then (if ((rd_T58 x524001 x13).f0) = x10 then (if x12.length < 17592186044416 then (spec_l30Walk.l1 k x9 x10 x11 (x12 ++ [x13]) (wrap64 (x13 + 1)) x1000 x1001 x524000 x524001) else (none)) else (spec_l30Walk.l1 k x9 x10 x11 x12 (wrap64 (x13 + 1)) x1000 x1001 x524000 x524001)) else (none)) else (if (x12.length : Int) = 0 then (some (x9, x1001)) else ((spec_l30Rd_pick.f k x1000 x1001 (x12.length : Int)).bind fun bt536 => (if 0 ≤ bt536.1 then (if bt536.1 < (x12.length : Int) then (if x9.length < 17592186044416 then (if 0 ≤ (rd x12 bt536.1) then (if (rd x12 bt536.1) < (x524001.length : Int) then (spec_l30Walk.l0 k (x9 ++ [rd x12 bt536.1]) ((rd_T58 x524001 (rd x12 bt536.1)).f1) (wrap64 (x11 - 1)) x1000 bt536.2 x524000 x524001) else (none)) else (none)) else (none)) else (none)) else (none))))
end
def spec_l30Walk.f (k : Nat) (s0_0 : List Int) (s0_1 : Int) (a1_0 : Int) (l1_1 : List (S58)) (a2 : Int) (a3 : Int) : Option (List Int × Int) := (spec_l30Rd_pick.f k s0_0 s0_1 (wrap64 (a3 + 1))).bind fun bt527 => (spec_l30Walk.l0 k (([] : List Int)) a2 bt527.1 s0_0 bt527.2 a1_0 l1_1)
theorem spec_l30Walk.mono_l : ∀ k, (∀ y0 y1 y2 y3 y4 y5 y6, LeO (spec_l30Walk.l0 k y0 y1 y2 y3 y4 y5 y6) (spec_l30Walk.l0 (k + 1) y0 y1 y2 y3 y4 y5 y6)) ∧ (∀ y0 y1 y2 y3 y4 y5 y6 y7 y8, LeO (spec_l30Walk.l1 k y0 y1 y2 y3 y4 y5 y6 y7 y8) (spec_l30Walk.l1 (k + 1) y0 y1 y2 y3 y4 y5 y6 y7 y8))
 | 0 => ⟨fun _ _ _ _ _ _ _ r h => by simp [spec_l30Walk.l0] at h, fun _ _ _ _ _ _ _ _ _ r h => by simp [spec_l30Walk.l1] at h⟩
 | k + 1 => by
  obtain ⟨ih0, ih1⟩ := spec_l30Walk.mono_l k
  refine ⟨?_, ?_⟩
  ·intro y0 y1 y2 y3 y4 y5 y6
   unfold spec_l30Walk.l0
   repeat' first
   | (with_reducible exact ih0 _ _ _ _ _ _ _)
   | (with_reducible exact ih1 _ _ _ _ _ _ _ _ _)
   | (with_reducible exact spec_l30Rd_pick.mono _ _ _ _)
   | (with_reducible exact LeO.refl _)
   | (with_reducible exact LeO.none _)
   | (with_reducible refine LeO.ite ?_ ?_)
   | (with_reducible refine LeO.bind ?_ (fun _ => ?_))
   | exact ih0 _ _ _ _ _ _ _
   | exact ih1 _ _ _ _ _ _ _ _ _
   | exact spec_l30Rd_pick.mono _ _ _ _
   | exact LeO.none _
   | refine LeO.ite ?_ ?_
   | refine LeO.bind ?_ (fun _ => ?_)
  ·intro y0 y1 y2 y3 y4 y5 y6 y7 y8
   unfold spec_l30Walk.l1
   repeat' first
   | (with_reducible exact ih0 _ _ _ _ _ _ _)
   | (with_reducible exact ih1 _ _ _ _ _ _ _ _ _)
   | (with_reducible exact spec_l30Rd_pick.mono _ _ _ _)
   | (with_reducible exact LeO.refl _)
   | (with_reducible exact LeO.none _)
   | (with_reducible refine LeO.ite ?_ ?_)
   | (with_reducible refine LeO.bind ?_ (fun _ => ?_))
   | exact ih0 _ _ _ _ _ _ _
   | exact ih1 _ _ _ _ _ _ _ _ _
   | exact spec_l30Rd_pick.mono _ _ _ _
   | exact LeO.none _
   | refine LeO.ite ?_ ?_
   | refine LeO.bind ?_ (fun _ => ?_)
theorem spec_l30Walk.mono : ∀ a0 a1 a2 a3 a4 a5 k, LeO (spec_l30Walk.f k a0 a1 a2 a3 a4 a5) (spec_l30Walk.f (k + 1) a0 a1 a2 a3 a4 a5) := by
 intro a0 a1 a2 a3 a4 a5 k
 obtain ⟨ih0, ih1⟩ := spec_l30Walk.mono_l k
 unfold spec_l30Walk.f
 repeat' first
   | (with_reducible exact ih0 _ _ _ _ _ _ _)
   | (with_reducible exact ih1 _ _ _ _ _ _ _ _ _)
   | (with_reducible exact spec_l30Rd_pick.mono _ _ _ _)
   | (with_reducible exact LeO.refl _)
   | (with_reducible exact LeO.none _)
   | (with_reducible refine LeO.ite ?_ ?_)
   | (with_reducible refine LeO.bind ?_ (fun _ => ?_))
   | exact ih0 _ _ _ _ _ _ _
   | exact ih1 _ _ _ _ _ _ _ _ _
   | exact spec_l30Rd_pick.mono _ _ _ _
   | exact LeO.none _
   | refine LeO.ite ?_ ?_
   | refine LeO.bind ?_ (fun _ => ?_)
set_option maxHeartbeats 8000000 in
set_option maxRecDepth 100000 in
theorem spec_l30Walk.calls (k : Nat) (g : Nat) (s0_0 : List Int) (s0_1 : Int) (a1_0 : Int) (A1_1 : Option Addr) (c1_1 : Nat) (l1_1 : List (S58)) (a2 : Int) (a3 : Int) (r1 : List Int) (r2 : Int) (w0 w : World) (hI : IsS95 w0 w g s0_0 s0_1) (hB : Below w0.heap.size w0 w) (hr1_1 : ∀ W_, KeepBut w W_ g none → Kd.C k58 W_ A1_1 l1_1.length l1_1) (hc1_1 : l1_1.length ≤ c1_1) (h : spec_l30Walk.f k s0_0 s0_1 a1_0 l1_1 a2 a3 = some (r1, r2)) :
  Calls Try.prog 122 #[.pointer (some ⟨g, 0, none⟩), .agg #[.int .i64 a1_0, .slice A1_1 l1_1.length c1_1], .int .i64 a2, .int .i64 a3] w fun e w' => ∃ v0_ : Value, e = .returned (v0_) ∧ Kd.R (Kd.int .i64) 3 w' w.heap.size (fun _ => True) v0_ r1 ∧ IsS95 w0 w' g s0_0 r2 ∧ Below w0.heap.size w0 w' ∧ KeepBut w w' g none := by
 have hu25 := Try.underlying25
 have HR1_1 := ak hr1_1
 have HC1_1 := ak hc1_1
 clear hr1_1 hc1_1
 have HI0 := ak hI
 have HK := ak (KeepBut.refl w g none)
 have HL := ak hB.size
 clear hI
 have HW0 := ak hB.size
 have HB := ak hB
 clear hB
 have H : ((spec_l30Rd_pick.f k s0_0 s0_1 (wrap64 (a3 + 1))).bind fun bt527 => (spec_l30Walk.l0 k (([] : List Int)) a2 bt527.1 s0_0 bt527.2 a1_0 l1_1)) = some (r1, r2) := h
 clear h
 obtain ⟨y524, hy524⟩ : ∃ y_ : List Int, y_ = (([] : List Int)) := ⟨_, rfl⟩
 replace H : ((spec_l30Rd_pick.f k s0_0 s0_1 (wrap64 (a3 + 1))).bind fun bt527 => (spec_l30Walk.l0 k y524 a2 bt527.1 s0_0 bt527.2 a1_0 l1_1)) = some (r1, r2) := by first | (rw [hy524]; with_reducible exact H) | (have H2_ := (Option.bind_some _ _).symm.trans H; rw [hy524]; with_reducible exact H2_) | (have H2_ := (Option.bind_some _ _).symm.trans H; with_reducible exact H2_) | with_reducible exact H | (rw [hy524]; exact H) | exact H
 have Ny524 := ak hy524
 clear hy524
 replace H := Option.bind_eq_some_iff.mp H
 obtain ⟨⟨t527, t528⟩, A50, H⟩ := H
 have A5 := ak A50
 clear A50
 have H' := ak H
 clear H
 go_enter Try.func122, Try.ntmps122
 go_wp2_with (first | ((with_reducible refine gate_dst (N := 5) rfl ?_); refine box_event ?hg (N := 5) ?hd (cs := #[.int .i64 a1_0, .slice A1_1 l1_1.length c1_1]) (t := 25) ?hr ?_; (case hd => rfl); (case hg => rfl); (case hr => first | (go_simp; done) | (go_simp; rfl)); intro gb523 hg w6 hbox hb; replace HB := ak (below_step (by repeat (first | (with_reducible first | exact HB.out | apply below_alloc | apply pw_below_drewN | apply below_drew1 | refine below_set ?_ (IsS95.ge HI0.out)) | exact HB.out)) hb); have BK523 := ak (hbox); have GW523 := ak ((by rw [hg]; exact (keep_size (w := w) (g := g) (row := none) (by repeat (first | (with_reducible first | exact HK.out | apply KeepBut.set_ | apply keep_drewN | apply keep_drew | apply keep_alloc) | exact HK.out))) : w.heap.size ≤ gb523)); have GE523 := ak ((Nat.le_trans HW0.out (by rw [hg]; exact (keep_size (w := w) (g := g) (row := none) (by repeat (first | (with_reducible first | exact HK.out | apply KeepBut.set_ | apply keep_drewN | apply keep_drew | apply keep_alloc) | exact HK.out))) : w.heap.size ≤ gb523) : w0.heap.size ≤ gb523)); replace HK := ak (KeepBut.trans (by repeat (first | (with_reducible first | exact HK.out | apply KeepBut.set_ | apply keep_drewN | apply keep_drew | apply keep_alloc) | exact HK.out)) (KeepBut.of_below hb g none) (.inl rfl)); have NB0_523 := ak ((by rw [hg]; exact Nat.ne_of_lt (IsS95.lt (show IsS95 w0 _ g s0_0 s0_1 from by repeat (first | (with_reducible first | exact HI0.out | apply IsS95.alloc | apply IsS95.drewN | apply IsS95.drew | apply IsS95.set_1) | exact HI0.out))) : g ≠ gb523)); have NB523_0 := ak ((by rw [hg]; exact Nat.ne_of_gt (IsS95.lt (show IsS95 w0 _ g s0_0 s0_1 from by repeat (first | (with_reducible first | exact HI0.out | apply IsS95.alloc | apply IsS95.drewN | apply IsS95.drew | apply IsS95.set_1) | exact HI0.out))) : gb523 ≠ g)); replace HI0 := ak (IsS95.below (by repeat (first | (with_reducible first | exact HI0.out | apply IsS95.alloc | apply IsS95.drewN | apply IsS95.drew | apply IsS95.set_1) | exact HI0.out)) hb); clear hb hbox hg) | ((with_reducible refine gate_dst (N := 15) rfl ?_); refine Kd.R_lit (Kd.int .i64) _ 3 ?hg (N := 15) ?hd (xs := ([] : List Int)) (inner := []) (ok := fun _ => True) (okp := fun _ => True) ?hr ?hp (fun _ hk => hk) trivial (Below.refl _ _) (Nat.le_refl _) (by simp) ?_; (case hd => rfl); (case hg => rfl); (case hr => first | (go_simp; done) | (go_simp; rfl)); (case hp => exact (Reps.none _ _)); intro v525 w7 ho8 hb hg_ hnew_; clear hg_ hnew_; (first | rw [← Ny524.out] at ho8 | (simp only [Int.reduceToNat] at ho8; rw [← Ny524.out] at ho8)); have HO526 := ak (Kd.R_lower ho8 (keep_size (w := w) (g := g) (row := none) (by repeat (first | (with_reducible first | exact HK.out | apply KeepBut.set_ | apply keep_drewN | apply keep_drew | apply keep_alloc | refine keep_far ?_ GW523.out _) | exact HK.out)))); replace BK523 := ak (blk_below (bk BK523) hb); replace HK := ak (KeepBut.trans (by repeat (first | (with_reducible first | exact HK.out | apply KeepBut.set_ | apply keep_drewN | apply keep_drew | apply keep_alloc | refine keep_far ?_ GW523.out _) | exact HK.out)) (KeepBut.of_below hb g none) (.inl rfl)); replace HB := ak (below_step (by repeat (first | (with_reducible first | exact HB.out | apply below_alloc | apply pw_below_drewN | apply below_drew1 | refine below_set ?_ (IsS95.ge HI0.out) | refine below_set ?_ GE523.out) | exact HB.out)) hb); replace HI0 := ak (IsS95.below (by repeat (first | (with_reducible first | exact HI0.out | apply IsS95.alloc | apply IsS95.drewN | apply IsS95.drew | apply IsS95.set_1 | refine IsS95.far ?_ NB0_523.out _) | exact HI0.out)) hb); clear hb ho8) | ((with_reducible refine gate_callee (f := 87) rfl ?_); refine goesL_ (some 20) rfl rfl Try.func87 (by kernel_rfl) rfl #[.pointer (some ⟨g, 0, none⟩), .int .i64 (wrap64 (a3 + 1))] rfl (by (try simp only [List.map_toArray, List.map_cons, List.map_nil]); first | done | rfl | (simp only [List.length_drop, List.length_take]; rfl)) ?_; (with_reducible refine (spec_l30Rd_pick.calls k g s0_0 s0_1 (wrap64 (a3 + 1)) t527 t528 w0 _ ?side1 ?side2 A5.out).mono ?_); (case side1 => repeat (first | (with_reducible first | exact HI0.out | apply IsS95.alloc | apply IsS95.drewN | apply IsS95.drew | apply IsS95.set_1 | refine IsS95.far ?_ NB0_523.out _) | exact HI0.out)); (case side2 => repeat (first | (with_reducible first | exact HB.out | apply below_alloc | apply pw_below_drewN | apply below_drew1 | refine below_set ?_ (IsS95.ge HI0.out) | refine below_set ?_ GE523.out) | exact HB.out)); rintro e w9 ⟨rfl, hi, hb, hk⟩; refine ⟨_, rfl, ?_⟩; replace BK523 := ak (KeepBut.blk hk (g' := gb523) (o := .cells #[.int .i64 a1_0, .slice A1_1 l1_1.length c1_1] 25 (0, 0)) (bk BK523) NB523_0.out (by simp)); replace HO526 := ak (Kd.R_mono (Kd.R_keep (IsS95.apart (show IsS95 w0 _ g s0_0 s0_1 from by repeat (first | (with_reducible first | exact HI0.out | apply IsS95.alloc | apply IsS95.drewN | apply IsS95.drew | apply IsS95.set_1 | refine IsS95.far ?_ NB0_523.out _) | exact HI0.out)) (rk HO526) (by decide)) hk (fun _ h => h.2)) (fun _ h => h.1)); replace HK := ak (KeepBut.trans (by repeat (first | (with_reducible first | exact HK.out | apply KeepBut.set_ | apply keep_drewN | apply keep_drew | apply keep_alloc | refine keep_far ?_ GW523.out _) | exact HK.out)) hk (.inl rfl)); replace HB := ak (hb); replace HI0 := ak (hi); (try clear hb); (try clear hb2); (try clear hk); (try clear hi)))
 go_loopg [9, 10, 11] k (fun kq v9 v10 v11 w' => ∃ (x9_1 : List Int) (x10_1 : Int) (x11_1 : Int) (x1001_1 : Int), v10 = .int .i64 x10_1 ∧ v11 = .int .i64 x11_1 ∧ Aside0 (spec_l30Walk.l0 kq x9_1 x10_1 x11_1 s0_0 x1001_1 a1_0 l1_1 = some (r1, r2)) ∧ Aside0 (kq ≤ k) ∧ Aside0 (Kd.R (Kd.int .i64) 3 w' w.heap.size (fun _ => True) v9 x9_1) ∧ Aside0 (w'.heap[gb523]? = some (.cells #[.int .i64 a1_0, (.slice A1_1 l1_1.length c1_1)] 25 (0, 0))) ∧ Aside0 (IsS95 w0 w' g s0_0 x1001_1) ∧ Aside0 (KeepBut w w' g none) ∧ Aside0 (Below w0.heap.size w0 w'))
 case atStart => exact ⟨(y524), (a2), (t527), (t528), (by first | rfl | (simp; done) | (simp [*]; done)), (by first | rfl | (simp; done) | (simp [*]; done)), H', ⟨Nat.le_refl _⟩, ⟨rk HO526⟩, ⟨bk BK523⟩, ⟨by repeat (first | (with_reducible first | exact HI0.out | apply IsS95.alloc | apply IsS95.drewN | apply IsS95.drew | apply IsS95.set_1 | refine IsS95.far ?_ NB0_523.out _) | exact HI0.out)⟩, ⟨by repeat (first | (with_reducible first | exact HK.out | apply KeepBut.set_ | apply keep_drewN | apply keep_drew | apply keep_alloc | refine keep_far ?_ GW523.out _) | exact HK.out)⟩, ⟨by repeat (first | (with_reducible first | exact HB.out | apply below_alloc | apply pw_below_drewN | apply below_drew1 | refine below_set ?_ (IsS95.ge HI0.out) | refine below_set ?_ GE523.out) | exact HB.out)⟩⟩
 clear H'
 try clear c1
 try clear p2
 try clear p6
 try clear c8
 obtain ⟨x9_1, x10_1, x11_1, x1001_1, rfl, rfl, HA, HK1, HO_9, BK523, HI0, HK, HB⟩ := hrel
 cases gk with
 | zero => exact absurd HA.out (by simp [spec_l30Walk.l0])
 | succ k1 =>
  have H := HA.out
  clear HA
  simp only [spec_l30Walk.l0] at H
  by_cases c10 : x11_1 > 0
  rotate_left
  ·rw [if_neg c10] at H
   have c10b0 : decide (0 < x11_1) = false := decide_eq_false c10
   clear c10
   simp only [Option.some.injEq, Prod.mk.injEq] at H
   obtain ⟨rfl, rfl⟩ := H
   go_wp2
   go_ret
   exact ⟨_, by first | rfl | (simp [errW_none, errW_some] <;> rfl) | (simp [*, errW_none, errW_some] <;> rfl), rk HO_9, by repeat (first | (with_reducible first | exact HI0.out | apply IsS95.alloc | apply IsS95.drewN | apply IsS95.drew | apply IsS95.set_1 | refine IsS95.far ?_ NB0_523.out _) | exact HI0.out), by repeat (first | (with_reducible first | exact HB.out | apply below_alloc | apply pw_below_drewN | apply below_drew1 | refine below_set ?_ (IsS95.ge HI0.out) | refine below_set ?_ GE523.out) | exact HB.out), by repeat (first | (with_reducible first | exact HK.out | apply KeepBut.set_ | apply keep_drewN | apply keep_drew | apply keep_alloc | refine keep_far ?_ GW523.out _) | exact HK.out)⟩
  rw [if_pos c10] at H
  have c10b0 : decide (0 < x11_1) = true := decide_eq_true c10
  clear c10
  obtain ⟨y529, hy529⟩ : ∃ y_ : List Int, y_ = (([] : List Int)) := ⟨_, rfl⟩
  replace H : (spec_l30Walk.l1 k1 x9_1 x10_1 x11_1 y529 0 s0_0 x1001_1 a1_0 l1_1) = some (r1, r2) := by first | (rw [hy529]; with_reducible exact H) | (have H2_ := (Option.bind_some _ _).symm.trans H; rw [hy529]; with_reducible exact H2_) | (have H2_ := (Option.bind_some _ _).symm.trans H; with_reducible exact H2_) | with_reducible exact H | (rw [hy529]; exact H) | exact H
  have Ny529 := ak hy529
  clear hy529
  have H' := ak H
  clear H
  go_wp2_with (first | ((with_reducible refine gate_dst (N := 25) rfl ?_); refine Kd.R_lit (Kd.int .i64) _ 3 ?hg (N := 25) ?hd (xs := ([] : List Int)) (inner := []) (ok := fun _ => True) (okp := fun _ => True) ?hr ?hp (fun _ hk => hk) trivial (Below.refl _ _) (Nat.le_refl _) (by simp) ?_; (case hd => rfl); (case hg => rfl); (case hr => first | (go_simp; done) | (go_simp; rfl)); (case hp => exact (Reps.none _ _)); intro v530 w11 ho12 hb hg_ hnew_; clear hg_ hnew_; (first | rw [← Ny529.out] at ho12 | (simp only [Int.reduceToNat] at ho12; rw [← Ny529.out] at ho12)); have HO531 := ak (Kd.R_lower (Kd.R_new' ho12 (Kd.R_lt (rk HO_9))) (keep_size (w := w) (g := g) (row := none) (by repeat (first | (with_reducible first | exact HK.out | apply KeepBut.set_ | apply keep_drewN | apply keep_drew | apply keep_alloc | refine keep_far ?_ GW523.out _) | exact HK.out)))); replace HO_9 := ak (Kd.R_elder' (rk HO_9) (Kd.R_base ho12) hb); replace BK523 := ak (blk_below (bk BK523) hb); replace HK := ak (KeepBut.trans (by repeat (first | (with_reducible first | exact HK.out | apply KeepBut.set_ | apply keep_drewN | apply keep_drew | apply keep_alloc | refine keep_far ?_ GW523.out _) | exact HK.out)) (KeepBut.of_below hb g none) (.inl rfl)); replace HB := ak (below_step (by repeat (first | (with_reducible first | exact HB.out | apply below_alloc | apply pw_below_drewN | apply below_drew1 | refine below_set ?_ (IsS95.ge HI0.out) | refine below_set ?_ GE523.out) | exact HB.out)) hb); replace HI0 := ak (IsS95.below (by repeat (first | (with_reducible first | exact HI0.out | apply IsS95.alloc | apply IsS95.drewN | apply IsS95.drew | apply IsS95.set_1 | refine IsS95.far ?_ NB0_523.out _) | exact HI0.out)) hb); clear hb ho12))
  go_loopg [12, 13] k1 (fun kq v12 v13 w' => ∃ (x12_2 : List Int) (x13_2 : Int), v13 = .int .i64 x13_2 ∧ Aside0 (spec_l30Walk.l1 kq x9_1 x10_1 x11_1 x12_2 x13_2 s0_0 x1001_1 a1_0 l1_1 = some (r1, r2)) ∧ Aside0 (kq ≤ k1) ∧ Aside0 (Kd.R (Kd.int .i64) 3 w' w.heap.size (fun k_ => some k_ ≠ (v12 : Value).ownBlock) u9 x9_1) ∧ Aside0 (Kd.R (Kd.int .i64) 3 w' w.heap.size (fun k_ => some k_ ≠ (u9 : Value).ownBlock) v12 x12_2) ∧ Aside0 (w'.heap[gb523]? = some (.cells #[.int .i64 a1_0, (.slice A1_1 l1_1.length c1_1)] 25 (0, 0))) ∧ Aside0 (IsS95 w0 w' g s0_0 x1001_1) ∧ Aside0 (KeepBut w w' g none) ∧ Aside0 (Below w0.heap.size w0 w'))
  case atStart => exact ⟨(y529), (0), (by first | rfl | (simp; done) | (simp [*]; done)), H', ⟨Nat.le_refl _⟩, ⟨by (with_reducible repeat (first | apply Kd.R_alloc | apply Kd.R_drewN | apply Kd.R_drew)); exact Kd.R_mono HO_9.out (fun _ hk => hk.2)⟩, ⟨by (with_reducible repeat (first | apply Kd.R_alloc | apply Kd.R_drewN | apply Kd.R_drew)); exact Kd.R_mono HO531.out (fun _ hk => hk.2)⟩, ⟨bk BK523⟩, ⟨by repeat (first | (with_reducible first | exact HI0.out | apply IsS95.alloc | apply IsS95.drewN | apply IsS95.drew | apply IsS95.set_1 | refine IsS95.far ?_ NB0_523.out _) | exact HI0.out)⟩, ⟨by repeat (first | (with_reducible first | exact HK.out | apply KeepBut.set_ | apply keep_drewN | apply keep_drew | apply keep_alloc | refine keep_far ?_ GW523.out _) | exact HK.out)⟩, ⟨by repeat (first | (with_reducible first | exact HB.out | apply below_alloc | apply pw_below_drewN | apply below_drew1 | refine below_set ?_ (IsS95.ge HI0.out) | refine below_set ?_ GE523.out) | exact HB.out)⟩⟩
  clear H'
  try clear c1
  try clear p2
  try clear p6
  try clear c8
  try clear c10
  try clear c10b0
  try clear c12
  try clear p2
  try clear p6
  obtain ⟨x12_2, x13_2, rfl, HA, HK2, HO_9, HO_12, BK523, HI0, HK, HB⟩ := hrel
  cases gk with
  | zero => exact absurd HA.out (by simp [spec_l30Walk.l1])
  | succ k2 =>
   have H := HA.out
   clear HA
   simp only [spec_l30Walk.l1] at H
   by_cases c13 : x13_2 < (l1_1.length : Int)
   ·rw [if_pos c13] at H
    have c13b0 : decide (x13_2 < (l1_1.length : Int)) = true := decide_eq_true c13
    clear c13
    by_cases c14 : 0 ≤ x13_2
    rotate_left
    ·rw [if_neg c14] at H
     exact absurd H (by simp)
    rw [if_pos c14] at H
    have c14b0 : decide (0 ≤ x13_2) = true := decide_eq_true c14
    clear c14
    by_cases c15 : ((rd_T58 l1_1 x13_2).f0) = x10_1
    rotate_left
    ·rw [if_neg c15] at H
     have c15b0 : (((rd_T58 l1_1 x13_2).f0) == x10_1) = false := beq_eq_false_iff_ne.mpr c15
     have c15b1 : (((rd_T58 l1_1 x13_2).f0) != x10_1) = true := bne_iff_ne.mpr c15
     have H' := ak H
     clear H
     have hnb20 := NB523_0.out
     have hnc20 := NB0_523.out
     have hcz21_0 := bc wr BK523 0 (.int .i64 a1_0) rfl
     have hcz21_1 := bc wr BK523 1 (.slice A1_1 l1_1.length c1_1) rfl
     have hfz21_0 := fz BK523 0
     have hfz21_1 := fz BK523 1
     have p532 : 0 ≤ (x13_2 : Int) := oT (by first | (with_reducible assumption) | assumption)
     have q532 : x13_2 < (l1_1.length : Int) := oT (by first | (with_reducible assumption) | assumption)
     obtain ⟨ad532, e532, hx532_0, hx532_1, hx532_2, hx532_3, hx532_4⟩ := at_T58 (Kd.C_foot_now HR1_1.out HK.out) x13_2 p532 q532
     cases e532
     replace p532 := eq_true p532
     replace q532 := eq_true q532
     go_wp2
     go_roundg k2
     case measure => have := HK1.out; have := HK2.out; omega
     case rel => exact ⟨(x12_2), (wrap64 (x13_2 + 1)), (by first | rfl | (simp; done) | (simp [*]; done)), H', ⟨by have := HK1.out; have := HK2.out; omega⟩, ⟨rk HO_9⟩, ⟨rk HO_12⟩, ⟨bk BK523⟩, ⟨by repeat (first | (with_reducible first | exact HI0.out | apply IsS95.alloc | apply IsS95.drewN | apply IsS95.drew | apply IsS95.set_1 | refine IsS95.far ?_ NB0_523.out _) | exact HI0.out)⟩, ⟨by repeat (first | (with_reducible first | exact HK.out | apply KeepBut.set_ | apply keep_drewN | apply keep_drew | apply keep_alloc | refine keep_far ?_ GW523.out _) | exact HK.out)⟩, ⟨by repeat (first | (with_reducible first | exact HB.out | apply below_alloc | apply pw_below_drewN | apply below_drew1 | refine below_set ?_ (IsS95.ge HI0.out) | refine below_set ?_ GE523.out) | exact HB.out)⟩⟩
    rw [if_pos c15] at H
    have c15b0 : (((rd_T58 l1_1 x13_2).f0) == x10_1) = true := beq_iff_eq.mpr c15
    have c15b1 : (((rd_T58 l1_1 x13_2).f0) != x10_1) = false := bne_eq_false_iff_eq.mpr c15
    clear c15
    by_cases c16 : x12_2.length < 17592186044416
    rotate_left
    ·rw [if_neg c16] at H
     exact absurd H (by simp)
    rw [if_pos c16] at H
    have LMc16 := ak c16
    clear c16
    obtain ⟨y533, hy533⟩ : ∃ y_ : List Int, y_ = (x12_2 ++ [x13_2]) := ⟨_, rfl⟩
    replace H : (spec_l30Walk.l1 k2 x9_1 x10_1 x11_1 y533 (wrap64 (x13_2 + 1)) s0_0 x1001_1 a1_0 l1_1) = some (r1, r2) := by first | (rw [hy533]; with_reducible exact H) | (have H2_ := (Option.bind_some _ _).symm.trans H; rw [hy533]; with_reducible exact H2_) | (have H2_ := (Option.bind_some _ _).symm.trans H; with_reducible exact H2_) | with_reducible exact H | (rw [hy533]; exact H) | exact H
    have Ny533 := ak hy533
    clear hy533
    have H' := ak H
    clear H
    have hnb17 := NB523_0.out
    have hnc17 := NB0_523.out
    have hcz18_0 := bc wr BK523 0 (.int .i64 a1_0) rfl
    have hcz18_1 := bc wr BK523 1 (.slice A1_1 l1_1.length c1_1) rfl
    have hfz18_0 := fz BK523 0
    have hfz18_1 := fz BK523 1
    have p532 : 0 ≤ (x13_2 : Int) := oT (by first | (with_reducible assumption) | assumption)
    have q532 : x13_2 < (l1_1.length : Int) := oT (by first | (with_reducible assumption) | assumption)
    obtain ⟨ad532, e532, hx532_0, hx532_1, hx532_2, hx532_3, hx532_4⟩ := at_T58 (Kd.C_foot_now HR1_1.out HK.out) x13_2 p532 q532
    cases e532
    replace p532 := eq_true p532
    replace q532 := eq_true q532
    go_wp2_with (first | ((with_reducible refine gate_builtin (b := .append) (xs := #[.tmp 41, .tmp 43]) rfl ?_); at_builtin; refine Kd.R_append (Kd.int .i64) w.heap.size rfl (.tmp 41) (.tmp 43) 33 3 (.int .i64 0) 8 rfl Try.underlying33 info3 rfl (by decide) (by omega) u12 x12_2 x13_2 [.int .i64 x13_2] (fun k_ => some k_ ≠ (u9 : Value).ownBlock) (fun _ => False) rfl rfl ?aP (fun _ hk => hk.elim) ?aF ?aO (Below.refl _ _) ?aS ?aL ?_; (case aP => exact rfl); (case aF => exact (fun k_ hk => Kd.fresh' (Kd.R_lt (rk HO_9)) k_ hk)); (case aO => exact (rk HO_12)); (case aS => exact (keep_size (w := w) (g := g) (row := none) (by repeat (first | (with_reducible first | exact HK.out | apply KeepBut.set_ | apply keep_drewN | apply keep_drew | apply keep_alloc | refine keep_far ?_ GW523.out _) | exact HK.out)))); (case aL => have := LMc16.out; omega); intro v534 w19 ho hb hg hat; rw [← Ny533.out] at ho; have n0_ := ak (Kd.R_after (ok := (fun _ => True)) (by (with_reducible repeat (first | apply Kd.R_alloc | apply Kd.R_drewN | apply Kd.R_drew)); exact Kd.R_mono HO_9.out (fun _ hk => ⟨trivial, hk⟩)) hg hat); have n1_ := ak (blk_grown (bk BK523) hg (Kd.R_ne HO_12.out BK523.out (by decide))); have n2_ := ak (IsS95.grown (by repeat (first | (with_reducible first | exact HI0.out | apply IsS95.alloc | apply IsS95.drewN | apply IsS95.drew | apply IsS95.set_1 | refine IsS95.far ?_ NB0_523.out _) | exact HI0.out)) hg (IsS95.own_ne HI0.out HO_12.out (by decide))); have n3_ := ak (below_weaken (by repeat (first | (with_reducible first | exact HB.out | apply below_alloc | apply pw_below_drewN | apply below_drew1 | refine below_set ?_ (IsS95.ge HI0.out) | refine below_set ?_ GE523.out) | exact HB.out)) HL.out hb); have n4_ := ak (KeepBut.trans (by repeat (first | (with_reducible first | exact HK.out | apply KeepBut.set_ | apply keep_drewN | apply keep_drew | apply keep_alloc | refine keep_far ?_ GW523.out _) | exact HK.out)) (KeepBut.of_grown hg g) (Kd.R_base2 HO_12.out)); have n5_ := ak (ho); clear HO_9; clear BK523; clear HI0; clear HB; clear HK; clear HO_12; have HO_9 := n0_; have BK523 := n1_; have HI0 := n2_; have HB := n3_; have HK := n4_; have HO535 := n5_; clear n0_ n1_ n2_ n3_ n4_ n5_; clear ho hb hg hat))
    go_roundg k2
    case measure => have := HK1.out; have := HK2.out; omega
    case rel => exact ⟨(y533), (wrap64 (x13_2 + 1)), (by first | rfl | (simp; done) | (simp [*]; done)), H', ⟨by have := HK1.out; have := HK2.out; omega⟩, ⟨by (with_reducible repeat (first | apply Kd.R_alloc | apply Kd.R_drewN | apply Kd.R_drew)); exact Kd.R_mono HO_9.out (fun _ hk => hk.2)⟩, ⟨rk HO535⟩, ⟨bk BK523⟩, ⟨by repeat (first | (with_reducible first | exact HI0.out | apply IsS95.alloc | apply IsS95.drewN | apply IsS95.drew | apply IsS95.set_1 | refine IsS95.far ?_ NB0_523.out _) | exact HI0.out)⟩, ⟨by repeat (first | (with_reducible first | exact HK.out | apply KeepBut.set_ | apply keep_drewN | apply keep_drew | apply keep_alloc | refine keep_far ?_ GW523.out _) | exact HK.out)⟩, ⟨by repeat (first | (with_reducible first | exact HB.out | apply below_alloc | apply pw_below_drewN | apply below_drew1 | refine below_set ?_ (IsS95.ge HI0.out) | refine below_set ?_ GE523.out) | exact HB.out)⟩⟩
   rw [if_neg c13] at H
   have c13b0 : decide (x13_2 < (l1_1.length : Int)) = false := decide_eq_false c13
   clear c13
   by_cases c22 : (x12_2.length : Int) = 0
   ·rw [if_pos c22] at H
    have c22b0 : ((x12_2.length : Int) == 0) = true := beq_iff_eq.mpr c22
    have c22b1 : ((x12_2.length : Int) != 0) = false := bne_eq_false_iff_eq.mpr c22
    clear c22
    simp only [Option.some.injEq, Prod.mk.injEq] at H
    obtain ⟨rfl, rfl⟩ := H
    have hnb23 := NB523_0.out
    have hnc23 := NB0_523.out
    have hcz24_0 := bc wr BK523 0 (.int .i64 a1_0) rfl
    have hcz24_1 := bc wr BK523 1 (.slice A1_1 l1_1.length c1_1) rfl
    have hfz24_0 := fz BK523 0
    have hfz24_1 := fz BK523 1
    obtain ⟨Ao25, co25, eo25⟩ := Kd.R_slice HO_12.out
    subst eo25
    go_wp2
    go_ret
    exact ⟨_, by first | rfl | (simp [errW_none, errW_some] <;> rfl) | (simp [*, errW_none, errW_some] <;> rfl), by (with_reducible repeat (first | apply Kd.R_alloc | apply Kd.R_drewN | apply Kd.R_drew)); exact Kd.R_mono HO_9.out (fun _ hk => trivial), by repeat (first | (with_reducible first | exact HI0.out | apply IsS95.alloc | apply IsS95.drewN | apply IsS95.drew | apply IsS95.set_1 | refine IsS95.far ?_ NB0_523.out _) | exact HI0.out), by repeat (first | (with_reducible first | exact HB.out | apply below_alloc | apply pw_below_drewN | apply below_drew1 | refine below_set ?_ (IsS95.ge HI0.out) | refine below_set ?_ GE523.out) | exact HB.out), by repeat (first | (with_reducible first | exact HK.out | apply KeepBut.set_ | apply keep_drewN | apply keep_drew | apply keep_alloc | refine keep_far ?_ GW523.out _) | exact HK.out)⟩
   rw [if_neg c22] at H
   have c22b0 : ((x12_2.length : Int) == 0) = false := beq_eq_false_iff_ne.mpr c22
   have c22b1 : ((x12_2.length : Int) != 0) = true := bne_iff_ne.mpr c22
   have c22b2 : ¬ (x12_2 = []) := fun h_ => c22 (by rw [h_]; rfl)
   replace H := Option.bind_eq_some_iff.mp H
   obtain ⟨⟨t536, t537⟩, A260, H⟩ := H
   have A26 := ak A260
   clear A260
   by_cases c27 : 0 ≤ t536
   rotate_left
   ·rw [if_neg c27] at H
    exact absurd H (by simp)
   rw [if_pos c27] at H
   have c27b0 : decide (0 ≤ t536) = true := decide_eq_true c27
   clear c27
   by_cases c28 : t536 < (x12_2.length : Int)
   rotate_left
   ·rw [if_neg c28] at H
    exact absurd H (by simp)
   rw [if_pos c28] at H
   have c28b0 : decide (t536 < (x12_2.length : Int)) = true := decide_eq_true c28
   clear c28
   by_cases c29 : x9_1.length < 17592186044416
   rotate_left
   ·rw [if_neg c29] at H
    exact absurd H (by simp)
   rw [if_pos c29] at H
   have LMc29 := ak c29
   clear c29
   obtain ⟨y539, hy539⟩ : ∃ y_ : List Int, y_ = (x9_1 ++ [rd x12_2 t536]) := ⟨_, rfl⟩
   replace H : (if 0 ≤ (rd x12_2 t536) then (if (rd x12_2 t536) < (l1_1.length : Int) then (spec_l30Walk.l0 k2 y539 ((rd_T58 l1_1 (rd x12_2 t536)).f1) (wrap64 (x11_1 - 1)) s0_0 t537 a1_0 l1_1) else (none)) else (none)) = some (r1, r2) := by first | (rw [hy539]; with_reducible exact H) | (have H2_ := (Option.bind_some _ _).symm.trans H; rw [hy539]; with_reducible exact H2_) | (have H2_ := (Option.bind_some _ _).symm.trans H; with_reducible exact H2_) | with_reducible exact H | (rw [hy539]; exact H) | exact H
   have Ny539 := ak hy539
   clear hy539
   by_cases c30 : 0 ≤ (rd x12_2 t536)
   rotate_left
   ·rw [if_neg c30] at H
    exact absurd H (by simp)
   rw [if_pos c30] at H
   have c30b0 : decide (0 ≤ (rd x12_2 t536)) = true := decide_eq_true c30
   clear c30
   by_cases c31 : (rd x12_2 t536) < (l1_1.length : Int)
   rotate_left
   ·rw [if_neg c31] at H
    exact absurd H (by simp)
   rw [if_pos c31] at H
   have c31b0 : decide ((rd x12_2 t536) < (l1_1.length : Int)) = true := decide_eq_true c31
   clear c31
   have H' := ak H
   clear H
   have hnb32 := NB523_0.out
   have hnc32 := NB0_523.out
   have hcz33_0 := bc wr BK523 0 (.int .i64 a1_0) rfl
   have hcz33_1 := bc wr BK523 1 (.slice A1_1 l1_1.length c1_1) rfl
   have hfz33_0 := fz BK523 0
   have hfz33_1 := fz BK523 1
   obtain ⟨Ao34, co34, eo34⟩ := Kd.R_slice HO_12.out
   subst eo34
   go_wp2_with (first | ((with_reducible refine gate_callee (f := 87) rfl ?_); refine goesL_ (some 52) rfl rfl Try.func87 (by kernel_rfl) rfl #[.pointer (some ⟨g, 0, none⟩), .int .i64 (x12_2.length : Int)] rfl (by (try simp only [List.map_toArray, List.map_cons, List.map_nil]); first | done | rfl | (simp only [List.length_drop, List.length_take]; rfl)) ?_; (with_reducible refine (spec_l30Rd_pick.calls k2 g s0_0 x1001_1 (x12_2.length : Int) t536 t537 w0 _ ?side1 ?side2 A26.out).mono ?_); (case side1 => repeat (first | (with_reducible first | exact HI0.out | apply IsS95.alloc | apply IsS95.drewN | apply IsS95.drew | apply IsS95.set_1 | refine IsS95.far ?_ NB0_523.out _) | exact HI0.out)); (case side2 => repeat (first | (with_reducible first | exact HB.out | apply below_alloc | apply pw_below_drewN | apply below_drew1 | refine below_set ?_ (IsS95.ge HI0.out) | refine below_set ?_ GE523.out) | exact HB.out)); rintro e w35 ⟨rfl, hi, hb, hk⟩; refine ⟨_, rfl, ?_⟩; replace HO_9 := ak (Kd.R_mono (Kd.R_keep (IsS95.apart (show IsS95 w0 _ g s0_0 x1001_1 from by repeat (first | (with_reducible first | exact HI0.out | apply IsS95.alloc | apply IsS95.drewN | apply IsS95.drew | apply IsS95.set_1 | refine IsS95.far ?_ NB0_523.out _) | exact HI0.out)) (rk HO_9) (by decide)) hk (fun _ h => h.2)) (fun _ h => h.1)); replace HO_12 := ak (Kd.R_mono (Kd.R_keep (IsS95.apart (show IsS95 w0 _ g s0_0 x1001_1 from by repeat (first | (with_reducible first | exact HI0.out | apply IsS95.alloc | apply IsS95.drewN | apply IsS95.drew | apply IsS95.set_1 | refine IsS95.far ?_ NB0_523.out _) | exact HI0.out)) (rk HO_12) (by decide)) hk (fun _ h => h.2)) (fun _ h => h.1)); replace BK523 := ak (KeepBut.blk hk (g' := gb523) (o := .cells #[.int .i64 a1_0, .slice A1_1 l1_1.length c1_1] 25 (0, 0)) (bk BK523) NB523_0.out (by simp)); replace HK := ak (KeepBut.trans (by repeat (first | (with_reducible first | exact HK.out | apply KeepBut.set_ | apply keep_drewN | apply keep_drew | apply keep_alloc | refine keep_far ?_ GW523.out _) | exact HK.out)) hk (.inl rfl)); replace HB := ak (hb); replace HI0 := ak (hi); (try clear hb); (try clear hb2); (try clear hk); (try clear hi); have p538 : 0 ≤ (t536 : Int) := oT (by first | (with_reducible assumption) | assumption); have q538 : t536 < (x12_2.length : Int) := oT (by first | (with_reducible assumption) | assumption); obtain ⟨ad538, e538, hx538_0⟩ := Kd.at_int (Kd.R_reads' HO_12.out).2.2 t536 p538 q538; cases e538; replace p538 := eq_true p538; replace q538 := eq_true q538) | ((with_reducible refine gate_builtin (b := .append) (xs := #[.tmp 55, .tmp 57]) rfl ?_); at_builtin; refine Kd.R_append (Kd.int .i64) w.heap.size rfl (.tmp 55) (.tmp 57) 33 3 (.int .i64 0) 8 rfl Try.underlying33 info3 rfl (by decide) (by omega) u9 x9_1 (rd x12_2 t536) [.int .i64 (rd x12_2 t536)] (fun k_ => some k_ ≠ (.slice (some ad538) x12_2.length co34 : Value).ownBlock) (fun _ => False) rfl rfl ?aP (fun _ hk => hk.elim) ?aF ?aO (Below.refl _ _) ?aS ?aL ?_; (case aP => exact rfl); (case aF => exact (fun k_ hk => Kd.fresh' (Kd.R_lt (rk HO_12)) k_ hk)); (case aO => exact (rk HO_9)); (case aS => exact (keep_size (w := w) (g := g) (row := none) (by repeat (first | (with_reducible first | exact HK.out | apply KeepBut.set_ | apply keep_drewN | apply keep_drew | apply keep_alloc | refine keep_far ?_ GW523.out _) | exact HK.out)))); (case aL => have := LMc29.out; omega); intro v540 w36 ho hb hg hat; rw [← Ny539.out] at ho; have n0_ := ak (Kd.R_after (ok := (fun _ => True)) (by (with_reducible repeat (first | apply Kd.R_alloc | apply Kd.R_drewN | apply Kd.R_drew)); exact Kd.R_mono HO_12.out (fun _ hk => ⟨trivial, hk⟩)) hg hat); have n1_ := ak (blk_grown (bk BK523) hg (Kd.R_ne HO_9.out BK523.out (by decide))); have n2_ := ak (IsS95.grown (by repeat (first | (with_reducible first | exact HI0.out | apply IsS95.alloc | apply IsS95.drewN | apply IsS95.drew | apply IsS95.set_1 | refine IsS95.far ?_ NB0_523.out _) | exact HI0.out)) hg (IsS95.own_ne HI0.out HO_9.out (by decide))); have n3_ := ak (below_weaken (by repeat (first | (with_reducible first | exact HB.out | apply below_alloc | apply pw_below_drewN | apply below_drew1 | refine below_set ?_ (IsS95.ge HI0.out) | refine below_set ?_ GE523.out) | exact HB.out)) HL.out hb); have n4_ := ak (KeepBut.trans (by repeat (first | (with_reducible first | exact HK.out | apply KeepBut.set_ | apply keep_drewN | apply keep_drew | apply keep_alloc | refine keep_far ?_ GW523.out _) | exact HK.out)) (KeepBut.of_grown hg g) (Kd.R_base2 HO_9.out)); have n5_ := ak (ho); clear HO_12; clear BK523; clear HI0; clear HB; clear HK; clear HO_9; have HO_12 := n0_; have BK523 := n1_; have HI0 := n2_; have HB := n3_; have HK := n4_; have HO541 := n5_; clear n0_ n1_ n2_ n3_ n4_ n5_; clear ho hb hg hat; have hcz37_0 := bc w36 BK523 0 (.int .i64 a1_0) rfl; have hcz37_1 := bc w36 BK523 1 (.slice A1_1 l1_1.length c1_1) rfl; have hfz37_0 := fz BK523 0; have hfz37_1 := fz BK523 1; have p542 : 0 ≤ ((rd x12_2 t536) : Int) := oT (by first | (with_reducible assumption) | assumption); have q542 : (rd x12_2 t536) < (l1_1.length : Int) := oT (by first | (with_reducible assumption) | assumption); obtain ⟨ad542, e542, hx542_0, hx542_1, hx542_2, hx542_3, hx542_4⟩ := at_T58 (Kd.C_foot_now HR1_1.out HK.out) (rd x12_2 t536) p542 q542; cases e542; replace p542 := eq_true p542; replace q542 := eq_true q542))
   go_roundg k2
   case measure => have := HK1.out; have := HK2.out; omega
   case rel => exact ⟨(y539), ((rd_T58 l1_1 (rd x12_2 t536)).f1), (wrap64 (x11_1 - 1)), (t537), (by first | rfl | (simp; done) | (simp [*]; done)), (by first | rfl | (simp; done) | (simp [*]; done)), H', ⟨by have := HK1.out; have := HK2.out; omega⟩, ⟨by (with_reducible repeat (first | apply Kd.R_alloc | apply Kd.R_drewN | apply Kd.R_drew)); exact Kd.R_mono HO541.out (fun _ hk => trivial)⟩, ⟨bk BK523⟩, ⟨by repeat (first | (with_reducible first | exact HI0.out | apply IsS95.alloc | apply IsS95.drewN | apply IsS95.drew | apply IsS95.set_1 | refine IsS95.far ?_ NB0_523.out _) | exact HI0.out)⟩, ⟨by repeat (first | (with_reducible first | exact HK.out | apply KeepBut.set_ | apply keep_drewN | apply keep_drew | apply keep_alloc | refine keep_far ?_ GW523.out _) | exact HK.out)⟩, ⟨by repeat (first | (with_reducible first | exact HB.out | apply below_alloc | apply pw_below_drewN | apply below_drew1 | refine below_set ?_ (IsS95.ge HI0.out) | refine below_set ?_ GE523.out) | exact HB.out)⟩⟩

end Go.Proofs.Ytlgolgfcolnddaa.F
