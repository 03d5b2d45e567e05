-- Printed by wip/px/px.py of this claim's repository (the kit's printer, extended there). Lean checks it.
import Derived.Test.YtlgolgfcolnddaaFKinds
import Derived.Test.YtlgolgfcolnddaaFspecl1Ok
import Derived.Test.YtlgolgfcolnddaaFspecl2Ok
namespace Go.Proofs.Ytlgolgfcolnddaa.F
open Go.RowKit Go.Proofs.YtlgolgfcolnddaaW.PrintWords Go.Proofs.YtlgolgfcolnddaaW.PrintLast Go.Proofs.YtlgolgfcolnddaaW.PrintMore
attribute [local go_sem] max2_int min2_int max_two min_two max_three min_three max_four min_four   -- for this text's walks alone
set_option linter.unusedVariables false
set_option linter.unusedSimpArgs false

/-! ### spec_WalkPlain: function 34 -/
mutual
def spec_WalkPlain.j0 : Nat → List Int → List Int → Bool → Int → List (S58) → Option (List Int)
 | 0, _, _, _, _, _ => none
 | k + 1, x1, x5, x18, x596000, x596001 => if x18 = true then (some ([] : List Int)) else (spec_WalkPlain.l0 k x1 x5 0 x596000 x596001)
def spec_WalkPlain.l0 : Nat → List Int → List Int → Int → Int → List (S58) → Option (List Int)
 | 0, _, _, _, _, _ => none
 | k + 1, x1, x5, x6, x596000, x596001 => if x6 < (x1.length : Int) then (if 0 ≤ x6 then (if 0 ≤ (rd x1 x6) then (if (rd x1 x6) < (x596001.length : Int) then (spec_WalkPlain.l1 k x1 x5 x6 ((rd_T58 x596001 (rd x1 x6)).f0) x6 x596000 x596001) else (none)) else (none)) else (none)) else (some x5)
def spec_WalkPlain.l1 : Nat → List Int → List Int → Int → Int → Int → Int → List (S58) → Option (List Int)
 | 0, _, _, _, _, _, _, _ => none
 | k + 1, x1, x5, x6, x7, x8, x596000, x596001 => if x8 < (x1.length : Int) then (if 0 ≤ x8 then (if 0 ≤ (rd x1 x8) then (if (rd x1 x8) < (x596001.length : Int) then (if ((rd_T58 x596001 (rd x1 x8)).f1) = x7 then (spec_WalkPlain.l1 k x1 x5 (wrap64 (x8 + 1)) x7 (wrap64 (x8 + 1)) x596000 x596001) else (spec_WalkPlain.l1 k x1 x5 x6 x7 (wrap64 (x8 + 1)) x596000 x596001)) else (none)) else (none)) else (none)) else (if x6 < (x1.length : Int) then (if 0 ≤ x6 then (if x5.length < 17592186044416 then (spec_WalkPlain.l0 k x1 (x5 ++ [rd x1 x6]) (wrap64 (x6 + 1)) x596000 x596001) else (none)) else (none)) else (spec_WalkPlain.l0 k x1 x5 (wrap64 (x6 + 1)) x596000 x596001))
end
def spec_WalkPlain.f (k : Nat) (a0_0 : Int) (l0_1 : List (S58)) (l1 : List Int) : Option (List Int) := (some (([] : List Int) : List Int)).bind fun y596 => ((spec_l1Ok.f k a0_0 l0_1).bind fun t599 => (if t599 = true then ((spec_l2Ok.f k a0_0 l0_1 l1).bind fun t600 => (spec_WalkPlain.j0 k l1 y596 (!t600) a0_0 l0_1)) else (spec_WalkPlain.j0 k l1 y596 true a0_0 l0_1)))
theorem spec_WalkPlain.mono_l : ∀ k, (∀ y0 y1 y2 y3 y4, LeO (spec_WalkPlain.j0 k y0 y1 y2 y3 y4) (spec_WalkPlain.j0 (k + 1) y0 y1 y2 y3 y4)) ∧ (∀ y0 y1 y2 y3 y4, LeO (spec_WalkPlain.l0 k y0 y1 y2 y3 y4) (spec_WalkPlain.l0 (k + 1) y0 y1 y2 y3 y4)) ∧ (∀ y0 y1 y2 y3 y4 y5 y6, LeO (spec_WalkPlain.l1 k y0 y1 y2 y3 y4 y5 y6) (spec_WalkPlain.l1 (k + 1) y0 y1 y2 y3 y4 y5 y6))
 | 0 => ⟨fun _ _ _ _ _ r h => by simp [spec_WalkPlain.j0] at h, fun _ _ _ _ _ r h => by simp [spec_WalkPlain.l0] at h, fun _ _ _ _ _ _ _ r h => by simp [spec_WalkPlain.l1] at h⟩
 | k + 1 => by
  obtain ⟨ih0, ih1, ih2⟩ := spec_WalkPlain.mono_l k
  refine ⟨?_, ?_, ?_⟩
  ·intro y0 y1 y2 y3 y4
   unfold spec_WalkPlain.j0
   repeat' first | (with_reducible exact ih1 _ _ _ _ _) | (with_reducible exact LeO.refl _) | (with_reducible refine LeO.ite ?_ ?_)
  ·intro y0 y1 y2 y3 y4
   unfold spec_WalkPlain.l0
   repeat' first | (with_reducible exact ih2 _ _ _ _ _ _ _) | (with_reducible exact LeO.refl _) | (with_reducible refine LeO.ite ?_ ?_)
  ·intro y0 y1 y2 y3 y4 y5 y6
   unfold spec_WalkPlain.l1
   repeat' first | (with_reducible exact ih1 _ _ _ _ _) | (with_reducible exact ih2 _ _ _ _ _ _ _) | (with_reducible exact LeO.refl _) | (with_reducible refine LeO.ite ?_ ?_)
theorem spec_WalkPlain.mono : ∀ a0 a1 a2 k, LeO (spec_WalkPlain.f k a0 a1 a2) (spec_WalkPlain.f (k + 1) a0 a1 a2) := by
 intro a0 a1 a2 k
 obtain ⟨ih0, ih1, ih2⟩ := spec_WalkPlain.mono_l k
 unfold spec_WalkPlain.f
 repeat' first | (with_reducible exact ih0 _ _ _ _ _) | (with_reducible exact spec_l1Ok.mono _ _ _) | (with_reducible exact spec_l2Ok.mono _ _ _ _) | (with_reducible exact LeO.refl _) | (with_reducible refine LeO.ite ?_ ?_) | (with_reducible refine LeO.bind ?_ (fun _ => ?_))
set_option maxHeartbeats 8000000 in
set_option maxRecDepth 100000 in
theorem spec_WalkPlain.calls (k : Nat) (a0_0 : Int) (A0_1 : Option Addr) (c0_1 : Nat) (l0_1 : List (S58)) (A1 : Option Addr) (c1 : Nat) (l1 : List Int) (r : List Int) (w : World) (hr0_1 : Kd.C k58 w A0_1 l0_1.length l0_1) (hc0_1 : l0_1.length ≤ c0_1) (hr1 : Kd.C (Kd.int .i64) w A1 l1.length l1) (hc1 : l1.length ≤ c1) (h : spec_WalkPlain.f k a0_0 l0_1 l1 = some r) :
  Calls Try.prog 34 #[.agg #[.int .i64 a0_0, .slice A0_1 l0_1.length c0_1], .slice A1 l1.length c1] w fun e w' => ∃ v0_ : Value, e = .returned (v0_) ∧ Kd.R (Kd.int .i64) 3 w' w.heap.size (fun _ => True) v0_ r ∧ Below w.heap.size w w' := by
 have hu25 := Try.underlying25
 have HR0_1 := ak hr0_1
 have HC0_1 := ak hc0_1
 clear hr0_1 hc0_1
 have HR1 := ak hr1
 have HC1 := ak hc1
 clear hr1 hc1
 have HB := ak (Below.refl w.heap.size w)
 have H : ((some (([] : List Int) : List Int)).bind fun y596 => ((spec_l1Ok.f k a0_0 l0_1).bind fun t599 => (if t599 = true then ((spec_l2Ok.f k a0_0 l0_1 l1).bind fun t600 => (spec_WalkPlain.j0 k l1 y596 (!t600) a0_0 l0_1)) else (spec_WalkPlain.j0 k l1 y596 true a0_0 l0_1)))) = some r := h
 clear h
 obtain ⟨y596, hy596⟩ : ∃ y_ : List Int, y_ = (([] : List Int)) := ⟨_, rfl⟩
 replace H : ((spec_l1Ok.f k a0_0 l0_1).bind fun t599 => (if t599 = true then ((spec_l2Ok.f k a0_0 l0_1 l1).bind fun t600 => (spec_WalkPlain.j0 k l1 y596 (!t600) a0_0 l0_1)) else (spec_WalkPlain.j0 k l1 y596 true a0_0 l0_1))) = some r := by (have H2_ := (Option.bind_some _ _).symm.trans H; rw [hy596]; with_reducible exact H2_)
 have Ny596 := ak hy596
 clear hy596
 have HC3 := ak H
 clear H
 go_enter Try.func34, Try.ntmps34
 go_upto_region 2 with (first | ((with_reducible refine gate_dst (N := 2) rfl ?_); refine box_event ?hg (N := 2) ?hd (cs := #[.int .i64 a0_0, .slice A0_1 l0_1.length c0_1]) (t := 25) ?hr ?_; (case hd => rfl); (case hg => rfl); (case hr => (go_simp; done)); intro gb595 hg w4 hbox hb; have BK595 := ak (hbox); have GW595 := ak ((by rw [hg]; exact (below_size (bl HB)) : w.heap.size ≤ gb595)); have GE595 := ak ((by rw [hg]; exact (below_size (bl HB)) : w.heap.size ≤ gb595)); replace HB := ak (below_step (bl HB) hb); clear hb hbox hg) | ((with_reducible refine gate_dst (N := 9) rfl ?_); refine Kd.R_lit (Kd.int .i64) _ 3 ?hg (N := 9) ?hd (xs := ([] : List Int)) (inner := []) (ok := fun _ => True) (okp := fun _ => True) ?hr ?hp (fun _ hk => hk) trivial (Below.refl _ _) (Nat.le_refl _) (by simp) ?_; (case hd => rfl); (case hg => rfl); (case hr => (go_simp; done)); (case hp => exact (Reps.none _ _)); intro v597 w5 ho6 hb hg_ hnew_; clear hg_ hnew_; (rw [← Ny596.out] at ho6); have HO598 := ak (Kd.R_lower ho6 (below_size (bl1 HB GE595))); replace BK595 := ak (blk_below (bk BK595) hb); replace HB := ak (below_step (bl1 HB GE595) hb); clear hb ho6))
 repeat (go_quiet (fail); go_upto_region 2 with (fail))
 (try simp only [Act.put, List.setIfInBounds_toArray, List.set_cons_zero, List.set_cons_succ])
 go_cut [18] (fun v18 wc => ∃ (kq : Nat) (x18_2 : Bool), v18 = .bool x18_2 ∧ Aside0 (spec_WalkPlain.j0 kq l1 y596 x18_2 a0_0 l0_1 = some r) ∧ Aside0 (kq ≤ k) ∧ Aside0 (Kd.R (Kd.int .i64) 3 wc w.heap.size (fun _ => True) v597 y596) ∧ Aside0 (wc.heap[gb595]? = some (.cells #[.int .i64 a0_0, (.slice A0_1 l0_1.length c0_1)] 25 (0, 0))) ∧ Aside0 (Below w.heap.size w wc))
 case first =>
  have H := HC3.out
  clear HC3
  replace H := Option.bind_eq_some_iff.mp H
  obtain ⟨t599, A70, H⟩ := H
  have A7 := ak A70
  clear A70
  by_cases c8 : t599 = true
  rotate_left
  ·replace c8 := Bool.eq_false_iff.mpr c8
   subst c8
   rw [if_neg (show ¬ (false = true) by decide)] at H
   have H' := ak H
   clear H
   have hcz14_0 := bc w5 BK595 0 (.int .i64 a0_0) rfl
   have hcz14_1 := bc w5 BK595 1 (.slice A0_1 l0_1.length c0_1) rfl
   have hfz14_0 := fz BK595 0
   have hfz14_1 := fz BK595 1
   go_wp2_with (first | (go_at_call 53; (with_reducible refine (spec_l1Ok.calls k a0_0 _ _ l0_1 false _ ?side1 ?side2 A7.out).mono ?_); (case side1 => repeat (exact (Kd.C_below HR0_1.out HB.out))); (case side2 => exact HC0_1.out); rintro e w15 ⟨rfl, hb⟩; have n0_ := ak (Kd.R_below (rk HO598) hb); have n1_ := ak (blk_below (bk BK595) hb); have n2_ := ak (below_step (bl1 HB GE595) hb); clear HO598; clear BK595; clear HB; have HO598 := n0_; have BK595 := n1_; have HB := n2_; clear n0_ n1_ n2_; (try clear hb); (try clear hb2); (try clear hk); (try clear hi)) | go_skip | go_step)
   go_meet
   case rel => exact ⟨_, (true), (by rfl), H', ⟨by omega⟩, ⟨rk HO598⟩, ⟨bk BK595⟩, ⟨bl1 HB GE595⟩⟩
  subst c8
  rw [if_pos rfl] at H
  replace H := Option.bind_eq_some_iff.mp H
  obtain ⟨t600, A90, H⟩ := H
  have A9 := ak A90
  clear A90
  have H' := ak H
  clear H
  have hcz10_0 := bc w5 BK595 0 (.int .i64 a0_0) rfl
  have hcz10_1 := bc w5 BK595 1 (.slice A0_1 l0_1.length c0_1) rfl
  have hfz10_0 := fz BK595 0
  have hfz10_1 := fz BK595 1
  go_wp2_with (first | (go_at_call 53; (with_reducible refine (spec_l1Ok.calls k a0_0 _ _ l0_1 true _ ?side1 ?side2 A7.out).mono ?_); (case side1 => repeat (exact (Kd.C_below HR0_1.out HB.out))); (case side2 => exact HC0_1.out); rintro e w11 ⟨rfl, hb⟩; have n0_ := ak (Kd.R_below (rk HO598) hb); have n1_ := ak (blk_below (bk BK595) hb); have n2_ := ak (below_step (bl1 HB GE595) hb); clear HO598; clear BK595; clear HB; have HO598 := n0_; have BK595 := n1_; have HB := n2_; clear n0_ n1_ n2_; (try clear hb); (try clear hb2); (try clear hk); (try clear hi); have hcz12_0 := bc w11 BK595 0 (.int .i64 a0_0) rfl; have hcz12_1 := bc w11 BK595 1 (.slice A0_1 l0_1.length c0_1) rfl; have hfz12_0 := fz BK595 0; have hfz12_1 := fz BK595 1) | (go_at_call 73; (with_reducible refine (spec_l2Ok.calls k a0_0 _ _ l0_1 _ _ l1 t600 _ ?side1 ?side2 ?side3 ?side4 A9.out).mono ?_); (case side1 => repeat (exact (Kd.C_below HR0_1.out HB.out))); (case side2 => exact HC0_1.out); (case side3 => repeat (exact (Kd.C_below HR1.out HB.out))); (case side4 => exact HC1.out); rintro e w13 ⟨rfl, hb⟩; have n0_ := ak (Kd.R_below (rk HO598) hb); have n1_ := ak (blk_below (bk BK595) hb); have n2_ := ak (below_step (bl1 HB GE595) hb); clear HO598; clear BK595; clear HB; have HO598 := n0_; have BK595 := n1_; have HB := n2_; clear n0_ n1_ n2_; (try clear hb); (try clear hb2); (try clear hk); (try clear hi)) | go_guarded | go_step)
  go_meet
  case rel => exact ⟨_, (!t600), (by rfl), H', ⟨by omega⟩, ⟨rk HO598⟩, ⟨bk BK595⟩, ⟨bl1 HB GE595⟩⟩
 clear HC3
 try clear c1
 try clear p2
 try clear c3
 try clear c8
 try clear hcz10_0
 try clear hcz10_1
 try clear hcz12_0
 try clear hcz12_1
 try clear hcz14_0
 try clear hcz14_1
 try clear hfz10_0
 try clear hfz10_1
 try clear hfz12_0
 try clear hfz12_1
 try clear hfz14_0
 try clear hfz14_1
 obtain ⟨kq, x18_2, rfl, HA, HJ2, HO_5, BK595, HB⟩ := hcut
 cases kq with
 | zero => exact absurd HA.out (by simp [spec_WalkPlain.j0])
 | succ kj2 =>
  have H := HA.out
  clear HA
  simp only [spec_WalkPlain.j0] at H
  by_cases c16 : x18_2 = true
  ·subst c16
   rw [if_pos rfl] at H
   obtain rfl := Option.some.inj H
   go_wp2
   repeat (go_quiet (fail); try go_wp2)
   go_ret
   exact ⟨_, by rfl, by exact Kd.R_nil _ _ _ _ _, bl1 HB GE595⟩
  replace c16 := Bool.eq_false_iff.mpr c16
  subst c16
  rw [if_neg (show ¬ (false = true) by decide)] at H
  have H' := ak H
  clear H
  go_wp2
  repeat (go_quiet (fail); try go_wp2)
  go_loopg [5, 6] kj2 (fun kq v5 v6 w' => ∃ (x5_2 : List Int) (x6_2 : Int), v6 = .int .i64 x6_2 ∧ Aside0 (spec_WalkPlain.l0 kq l1 x5_2 x6_2 a0_0 l0_1 = some r) ∧ Aside0 (kq ≤ kj2) ∧ Aside0 (Kd.R (Kd.int .i64) 3 w' w.heap.size (fun _ => True) v5 x5_2) ∧ Aside0 (w'.heap[gb595]? = some (.cells #[.int .i64 a0_0, (.slice A0_1 l0_1.length c0_1)] 25 (0, 0))) ∧ Aside0 (Below w.heap.size w w'))
  case atStart => exact ⟨(y596), (0), (by rfl), H', ⟨Nat.le_refl _⟩, ⟨rk HO_5⟩, ⟨bk BK595⟩, ⟨bl1 HB GE595⟩⟩
  clear H'
  try clear c1
  try clear p2
  try clear c3
  try clear c8
  try clear c16
  try clear hcz10_0
  try clear hcz10_1
  try clear hcz12_0
  try clear hcz12_1
  try clear hcz14_0
  try clear hcz14_1
  try clear hfz10_0
  try clear hfz10_1
  try clear hfz12_0
  try clear hfz12_1
  try clear hfz14_0
  try clear hfz14_1
  try clear p2
  obtain ⟨x5_2, x6_2, rfl, HA, HK2, HO_5, BK595, HB⟩ := hrel
  cases gk with
  | zero => exact absurd HA.out (by simp [spec_WalkPlain.l0])
  | succ k2 =>
   have H := HA.out
   clear HA
   simp only [spec_WalkPlain.l0] at H
   by_cases c17 : x6_2 < (l1.length : Int)
   rotate_left
   ·rw [if_neg c17] at H
    have c17b0 : decide (x6_2 < (l1.length : Int)) = false := decide_eq_false c17
    clear c17
    obtain rfl := Option.some.inj H
    go_wp2
    repeat (go_quiet (fail); try go_wp2)
    go_ret
    exact ⟨_, by rfl, rk HO_5, bl1 HB GE595⟩
   rw [if_pos c17] at H
   have c17b0 : decide (x6_2 < (l1.length : Int)) = true := decide_eq_true c17
   clear c17
   by_cases c18 : 0 ≤ x6_2
   rotate_left
   ·rw [if_neg c18] at H
    exact absurd H (by simp)
   rw [if_pos c18] at H
   have c18b0 : decide (0 ≤ x6_2) = true := decide_eq_true c18
   clear c18
   by_cases c19 : 0 ≤ (rd l1 x6_2)
   rotate_left
   ·rw [if_neg c19] at H
    exact absurd H (by simp)
   rw [if_pos c19] at H
   have c19b0 : decide (0 ≤ (rd l1 x6_2)) = true := decide_eq_true c19
   clear c19
   by_cases c20 : (rd l1 x6_2) < (l0_1.length : Int)
   rotate_left
   ·rw [if_neg c20] at H
    exact absurd H (by simp)
   rw [if_pos c20] at H
   have c20b0 : decide ((rd l1 x6_2) < (l0_1.length : Int)) = true := decide_eq_true c20
   clear c20
   have H' := ak H
   clear H
   have hcz21_0 := bc wr BK595 0 (.int .i64 a0_0) rfl
   have hcz21_1 := bc wr BK595 1 (.slice A0_1 l0_1.length c0_1) rfl
   have hfz21_0 := fz BK595 0
   have hfz21_1 := fz BK595 1
   have p601 : 0 ≤ (x6_2 : Int) := oT (by (with_reducible assumption))
   have q601 : x6_2 < (l1.length : Int) := oT (by (with_reducible assumption))
   obtain ⟨ad601, e601, hx601_0⟩ := Kd.at_int HR1.out x6_2 p601 q601
   cases e601
   replace hx601_0 := hcb HB.out hx601_0
   replace p601 := eq_true p601
   replace q601 := eq_true q601
   have p602 : 0 ≤ ((rd l1 x6_2) : Int) := oT (by (with_reducible assumption))
   have q602 : (rd l1 x6_2) < (l0_1.length : Int) := oT (by (with_reducible assumption))
   obtain ⟨ad602, e602, hx602_0, hx602_1, hx602_2, hx602_3, hx602_4⟩ := at_T58 HR0_1.out (rd l1 x6_2) p602 q602
   cases e602
   replace hx602_0 := hcb HB.out hx602_0
   replace hx602_1 := hcb HB.out hx602_1
   replace hx602_2 := hcb HB.out hx602_2
   replace hx602_3 := hcb HB.out hx602_3
   replace hx602_4 := hcb HB.out hx602_4
   replace p602 := eq_true p602
   replace q602 := eq_true q602
   go_wp2
   repeat (go_quiet (fail); try go_wp2)
   go_loopg [6, 8] k2 (fun kq v6 v8 w' => ∃ (x6_3 : Int) (x8_3 : Int), v6 = .int .i64 x6_3 ∧ v8 = .int .i64 x8_3 ∧ Aside0 (spec_WalkPlain.l1 kq l1 x5_2 x6_3 ((rd_T58 l0_1 (rd l1 x6_2)).f0) x8_3 a0_0 l0_1 = some r) ∧ Aside0 (kq ≤ k2) ∧ Aside0 (Kd.R (Kd.int .i64) 3 w' w.heap.size (fun _ => True) u5 x5_2) ∧ Aside0 (w'.heap[gb595]? = some (.cells #[.int .i64 a0_0, (.slice (some ad602) l0_1.length c0_1)] 25 (0, 0))) ∧ Aside0 (Below w.heap.size w w'))
   case atStart => exact ⟨(x6_2), (x6_2), (by rfl), (by rfl), H', ⟨Nat.le_refl _⟩, ⟨rk HO_5⟩, ⟨bk BK595⟩, ⟨bl1 HB GE595⟩⟩
   clear H'
   try clear c1
   try clear c2
   try clear p2
   try clear c3
   try clear p6
   try clear q6
   try clear hx6
   try clear c8
   try clear c16
   try clear c17
   try clear c17b0
   try clear c18
   try clear c18b0
   try clear c19
   try clear c19b0
   try clear c20
   try clear c20b0
   try clear hcz10_0
   try clear hcz10_1
   try clear hcz12_0
   try clear hcz12_1
   try clear hcz14_0
   try clear hcz14_1
   try clear hcz21_0
   try clear hcz21_1
   try clear hfz10_0
   try clear hfz10_1
   try clear hfz12_0
   try clear hfz12_1
   try clear hfz14_0
   try clear hfz14_1
   try clear hfz21_0
   try clear hfz21_1
   try clear hx601_0
   try clear hx602_0
   try clear hx602_1
   try clear hx602_2
   try clear hx602_3
   try clear hx602_4
   try clear p2
   try clear p601
   try clear p602
   try clear q601
   try clear q602
   obtain ⟨x6_3, x8_3, rfl, rfl, HA, HK3, HO_5, BK595, HB⟩ := hrel
   cases gk with
   | zero => exact absurd HA.out (by simp [spec_WalkPlain.l1])
   | succ k3 =>
    have H := HA.out
    clear HA
    simp only [spec_WalkPlain.l1] at H
    by_cases c22 : x8_3 < (l1.length : Int)
    rotate_left
    ·rw [if_neg c22] at H
     have c22b0 : decide (x8_3 < (l1.length : Int)) = false := decide_eq_false c22
     clear c22
     by_cases c29 : x6_3 < (l1.length : Int)
     rotate_left
     ·rw [if_neg c29] at H
      have c29b0 : decide (x6_3 < (l1.length : Int)) = false := decide_eq_false c29
      clear c29
      have H' := ak H
      clear H
      go_wp2
      repeat (go_quiet (fail); try go_wp2)
      go_roundg k3
      case measure => have := HJ2.out; have := HK2.out; have := HK3.out; omega
      case rel => exact ⟨(x5_2), (wrap64 (x6_3 + 1)), (by rfl), H', ⟨by have := HJ2.out; have := HK2.out; have := HK3.out; omega⟩, ⟨rk HO_5⟩, ⟨bk BK595⟩, ⟨bl1 HB GE595⟩⟩
     rw [if_pos c29] at H
     have c29b0 : decide (x6_3 < (l1.length : Int)) = true := decide_eq_true c29
     clear c29
     by_cases c30 : 0 ≤ x6_3
     rotate_left
     ·rw [if_neg c30] at H
      exact absurd H (by simp)
     rw [if_pos c30] at H
     have c30b0 : decide (0 ≤ x6_3) = true := decide_eq_true c30
     clear c30
     by_cases c31 : x5_2.length < 17592186044416
     rotate_left
     ·rw [if_neg c31] at H
      exact absurd H (by simp)
     rw [if_pos c31] at H
     have LMc31 := ak c31
     clear c31
     obtain ⟨y606, hy606⟩ : ∃ y_ : List Int, y_ = (x5_2 ++ [rd l1 x6_3]) := ⟨_, rfl⟩
     replace H : (spec_WalkPlain.l0 k3 l1 y606 (wrap64 (x6_3 + 1)) a0_0 l0_1) = some r := by (rw [hy606]; with_reducible exact H)
     have Ny606 := ak hy606
     clear hy606
     have H' := ak H
     clear H
     have p605 : 0 ≤ (x6_3 : Int) := oT (by (with_reducible assumption))
     have q605 : x6_3 < (l1.length : Int) := oT (by (with_reducible assumption))
     obtain ⟨ad605, e605, hx605_0⟩ := Kd.at_int HR1.out x6_3 p605 q605
     obtain rfl : ad601 = ad605 := (by injection e605)
     replace hx605_0 := hcb HB.out hx605_0
     replace p605 := eq_true p605
     replace q605 := eq_true q605
     go_wp2_with (first | ((with_reducible refine gate_builtin (b := .append) (xs := #[.tmp 58, .tmp 63]) rfl ?_); at_builtin; refine Kd.R_append (Kd.int .i64) (w0 := w) w.heap.size rfl (.tmp 58) (.tmp 63) 33 3 (.int .i64 0) 8 rfl Try.underlying33 info3 rfl (by decide) (by omega) u5 x5_2 (rd l1 x6_3) [.int .i64 (rd l1 x6_3)] (fun _ => True) (fun _ => False) rfl rfl ?aP (fun _ hk => hk.elim) ?aF ?aO ?aB ?aS ?aL ?_; (case aP => exact rfl); (case aB => exact (bl1 HB GE595)); (case aF => exact (fun _ _ => trivial)); (case aO => exact (rk HO_5)); (case aS => exact (below_size (bl1 HB GE595))); (case aL => have := LMc31.out; omega); intro v607 w32 ho hb hg hat; rw [← Ny606.out] at ho; have n0_ := ak (blk_grown (bk BK595) hg (Kd.R_ne HO_5.out BK595.out (by decide))); have n1_ := ak (hb); have n2_ := ak (ho); clear BK595; clear HB; clear HO_5; have BK595 := n0_; have HB := n1_; have HO608 := n2_; clear n0_ n1_ n2_; clear ho hb hg hat) | go_step)
     go_roundg k3
     case measure => have := HJ2.out; have := HK2.out; have := HK3.out; omega
     case rel => exact ⟨(y606), (wrap64 (x6_3 + 1)), (by rfl), H', ⟨by have := HJ2.out; have := HK2.out; have := HK3.out; omega⟩, ⟨rk HO608⟩, ⟨bk BK595⟩, ⟨bl1 HB GE595⟩⟩
    rw [if_pos c22] at H
    have c22b0 : decide (x8_3 < (l1.length : Int)) = true := decide_eq_true c22
    clear c22
    by_cases c23 : 0 ≤ x8_3
    rotate_left
    ·rw [if_neg c23] at H
     exact absurd H (by simp)
    rw [if_pos c23] at H
    have c23b0 : decide (0 ≤ x8_3) = true := decide_eq_true c23
    clear c23
    by_cases c24 : 0 ≤ (rd l1 x8_3)
    rotate_left
    ·rw [if_neg c24] at H
     exact absurd H (by simp)
    rw [if_pos c24] at H
    have c24b0 : decide (0 ≤ (rd l1 x8_3)) = true := decide_eq_true c24
    clear c24
    by_cases c25 : (rd l1 x8_3) < (l0_1.length : Int)
    rotate_left
    ·rw [if_neg c25] at H
     exact absurd H (by simp)
    rw [if_pos c25] at H
    have c25b0 : decide ((rd l1 x8_3) < (l0_1.length : Int)) = true := decide_eq_true c25
    clear c25
    by_cases c26 : ((rd_T58 l0_1 (rd l1 x8_3)).f1) = ((rd_T58 l0_1 (rd l1 x6_2)).f0)
    rotate_left
    ·rw [if_neg c26] at H
     have c26b0 : (((rd_T58 l0_1 (rd l1 x8_3)).f1) == ((rd_T58 l0_1 (rd l1 x6_2)).f0)) = false := beq_eq_false_iff_ne.mpr c26
     have c26b1 : (((rd_T58 l0_1 (rd l1 x8_3)).f1) != ((rd_T58 l0_1 (rd l1 x6_2)).f0)) = true := bne_iff_ne.mpr c26
     have H' := ak H
     clear H
     have hcz28_0 := bc wr BK595 0 (.int .i64 a0_0) rfl
     have hcz28_1 := bc wr BK595 1 (.slice (some ad602) l0_1.length c0_1) rfl
     have hfz28_0 := fz BK595 0
     have hfz28_1 := fz BK595 1
     have p603 : 0 ≤ (x8_3 : Int) := oT (by (with_reducible assumption))
     have q603 : x8_3 < (l1.length : Int) := oT (by (with_reducible assumption))
     obtain ⟨ad603, e603, hx603_0⟩ := Kd.at_int HR1.out x8_3 p603 q603
     obtain rfl : ad601 = ad603 := (by injection e603)
     replace hx603_0 := hcb HB.out hx603_0
     replace p603 := eq_true p603
     replace q603 := eq_true q603
     have p604 : 0 ≤ ((rd l1 x8_3) : Int) := oT (by (with_reducible assumption))
     have q604 : (rd l1 x8_3) < (l0_1.length : Int) := oT (by (with_reducible assumption))
     obtain ⟨ad604, e604, hx604_0, hx604_1, hx604_2, hx604_3, hx604_4⟩ := at_T58 HR0_1.out (rd l1 x8_3) p604 q604
     obtain rfl : ad602 = ad604 := (by injection e604)
     replace hx604_0 := hcb HB.out hx604_0
     replace hx604_1 := hcb HB.out hx604_1
     replace hx604_2 := hcb HB.out hx604_2
     replace hx604_3 := hcb HB.out hx604_3
     replace hx604_4 := hcb HB.out hx604_4
     replace p604 := eq_true p604
     replace q604 := eq_true q604
     go_wp2
     repeat (go_quiet (fail); try go_wp2)
     go_roundg k3
     case measure => have := HJ2.out; have := HK2.out; have := HK3.out; omega
     case rel => exact ⟨(x6_3), (wrap64 (x8_3 + 1)), (by rfl), (by rfl), H', ⟨by have := HJ2.out; have := HK2.out; have := HK3.out; omega⟩, ⟨rk HO_5⟩, ⟨bk BK595⟩, ⟨bl1 HB GE595⟩⟩
    rw [if_pos c26] at H
    have c26b0 : (((rd_T58 l0_1 (rd l1 x8_3)).f1) == ((rd_T58 l0_1 (rd l1 x6_2)).f0)) = true := beq_iff_eq.mpr c26
    have c26b1 : (((rd_T58 l0_1 (rd l1 x8_3)).f1) != ((rd_T58 l0_1 (rd l1 x6_2)).f0)) = false := bne_eq_false_iff_eq.mpr c26
    clear c26
    have H' := ak H
    clear H
    have hcz27_0 := bc wr BK595 0 (.int .i64 a0_0) rfl
    have hcz27_1 := bc wr BK595 1 (.slice (some ad602) l0_1.length c0_1) rfl
    have hfz27_0 := fz BK595 0
    have hfz27_1 := fz BK595 1
    have p603 : 0 ≤ (x8_3 : Int) := oT (by (with_reducible assumption))
    have q603 : x8_3 < (l1.length : Int) := oT (by (with_reducible assumption))
    obtain ⟨ad603, e603, hx603_0⟩ := Kd.at_int HR1.out x8_3 p603 q603
    obtain rfl : ad601 = ad603 := (by injection e603)
    replace hx603_0 := hcb HB.out hx603_0
    replace p603 := eq_true p603
    replace q603 := eq_true q603
    have p604 : 0 ≤ ((rd l1 x8_3) : Int) := oT (by (with_reducible assumption))
    have q604 : (rd l1 x8_3) < (l0_1.length : Int) := oT (by (with_reducible assumption))
    obtain ⟨ad604, e604, hx604_0, hx604_1, hx604_2, hx604_3, hx604_4⟩ := at_T58 HR0_1.out (rd l1 x8_3) p604 q604
    obtain rfl : ad602 = ad604 := (by injection e604)
    replace hx604_0 := hcb HB.out hx604_0
    replace hx604_1 := hcb HB.out hx604_1
    replace hx604_2 := hcb HB.out hx604_2
    replace hx604_3 := hcb HB.out hx604_3
    replace hx604_4 := hcb HB.out hx604_4
    replace p604 := eq_true p604
    replace q604 := eq_true q604
    go_wp2
    repeat (go_quiet (fail); try go_wp2)
    go_roundg k3
    case measure => have := HJ2.out; have := HK2.out; have := HK3.out; omega
    case rel => exact ⟨(wrap64 (x8_3 + 1)), (wrap64 (x8_3 + 1)), (by rfl), (by rfl), H', ⟨by have := HJ2.out; have := HK2.out; have := HK3.out; omega⟩, ⟨rk HO_5⟩, ⟨bk BK595⟩, ⟨bl1 HB GE595⟩⟩

end Go.Proofs.Ytlgolgfcolnddaa.F
