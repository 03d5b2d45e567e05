-- Printed by wip/px/px.py of this claim's repository (the kit's printer, extended there). Lean checks it.
import Derived.Test.YtddkaiegnohkcaaFKinds
namespace Go.Proofs.Ytddkaiegnohkcaa.F
open Go.RowKit Go.Proofs.YtddkaiegnohkcaaW.PrintWords Go.Proofs.YtddkaiegnohkcaaW.PrintLast Go.Proofs.YtddkaiegnohkcaaW.PrintMore
attribute [local go_sem] max2_int min2_int max_two min_two max_three min_three max_four min_four   -- for this text's walks alone
set_option linter.unusedVariables false
set_option linter.unusedSimpArgs false

/-! ### spec_l19Put: function 72 -/
mutual
def spec_l19Put.l0 : Nat → List (S35) → List (S35) → Int → Int → Int → Option ((List (S35)))
 | 0, _, _, _, _, _ => none
 | k + 1, x0, x5, x6, x301000, x301001 => if x6 < (x0.length : Int) then (if 0 ≤ x6 then (if ((rd_T35 x0 x6).f0) ≤ x301000 then (if ((rd_T35 x0 x6).f1) ≤ x301001 then (some x0) else (spec_l19Put.l0 k x0 x5 (wrap64 (x6 + 1)) x301000 x301001)) else (spec_l19Put.l0 k x0 x5 (wrap64 (x6 + 1)) x301000 x301001)) else (none)) else (spec_l19Put.l1 k x0 x5 false 0 x301000 x301001)
def spec_l19Put.l1 : Nat → List (S35) → List (S35) → Bool → Int → Int → Int → Option ((List (S35)))
 | 0, _, _, _, _, _, _ => none
 | k + 1, x0, x5, x7, x8, x301000, x301001 => if x8 < (x0.length : Int) then (if 0 ≤ x8 then (if ((rd_T35 x0 x8).f0) ≥ x301000 then (spec_l19Put.j2 k x0 x5 x7 x8 (decide (((rd_T35 x0 x8).f1) ≥ x301001)) x301000 x301001) else (spec_l19Put.j2 k x0 x5 x7 x8 false x301000 x301001)) else (none)) else (if x7 = true then (some x5) else (if x5.length < 8796093022208 then (some (x5 ++ [(⟨x301000, x301001⟩ : S35)])) else (none)))
def spec_l19Put.j2 : Nat → List (S35) → List (S35) → Bool → Int → Bool → Int → Int → Option ((List (S35)))
 | 0, _, _, _, _, _, _, _ => none
 | k + 1, x0, x5, x7, x8, x58, x301000, x301001 => if x58 = true then (spec_l19Put.l1 k x0 x5 x7 (wrap64 (x8 + 1)) x301000 x301001) else (if x7 = true then (if 0 ≤ x8 then (if x8 < (x0.length : Int) then (if x5.length < 8796093022208 then (spec_l19Put.l1 k x0 (x5 ++ [(⟨(rd_T35 x0 x8).f0, (rd_T35 x0 x8).f1⟩ : S35)]) x7 (wrap64 (x8 + 1)) x301000 x301001) else (none)) else (none)) else (none)) else (if 0 ≤ x8 then (if x8 < (x0.length : Int) then (if ((rd_T35 x0 x8).f0) > x301000 then (if x5.length < 8796093022208 then ((some (x5 ++ [(⟨x301000, x301001⟩ : S35)] : List (S35))).bind fun y316 => (if y316.length < 8796093022208 then (spec_l19Put.l1 k x0 (y316 ++ [(⟨(rd_T35 x0 x8).f0, (rd_T35 x0 x8).f1⟩ : S35)]) true (wrap64 (x8 + 1)) x301000 x301001) else (none))) else (none)) else (if x5.length < 8796093022208 then (spec_l19Put.l1 k x0 (x5 ++ [(⟨(rd_T35 x0 x8).f0, (rd_T35 x0 x8).f1⟩ : S35)]) x7 (wrap64 (x8 + 1)) x301000 x301001) else (none))) else (none)) else (none)))
end
def spec_l19Put.f (k : Nat) (l0 : List (S35)) (a1_0 : Int) (a1_1 : Int) : Option ((List (S35))) := spec_l19Put.l0 k l0 (([] : List (S35))) 0 a1_0 a1_1
theorem spec_l19Put.mono_l : ∀ k, (∀ y0 y1 y2 y3 y4, LeO (spec_l19Put.l0 k y0 y1 y2 y3 y4) (spec_l19Put.l0 (k + 1) y0 y1 y2 y3 y4)) ∧ (∀ y0 y1 y2 y3 y4 y5, LeO (spec_l19Put.l1 k y0 y1 y2 y3 y4 y5) (spec_l19Put.l1 (k + 1) y0 y1 y2 y3 y4 y5)) ∧ (∀ y0 y1 y2 y3 y4 y5 y6, LeO (spec_l19Put.j2 k y0 y1 y2 y3 y4 y5 y6) (spec_l19Put.j2 (k + 1) y0 y1 y2 y3 y4 y5 y6))
 | 0 => ⟨fun _ _ _ _ _ r h => by simp [spec_l19Put.l0] at h, fun _ _ _ _ _ _ r h => by simp [spec_l19Put.l1] at h, fun _ _ _ _ _ _ _ r h => by simp [spec_l19Put.j2] at h⟩
 | k + 1 => by
  obtain ⟨ih0, ih1, ih2⟩ := spec_l19Put.mono_l k
  refine ⟨?_, ?_, ?_⟩
  ·intro y0 y1 y2 y3 y4
   unfold spec_l19Put.l0
   repeat' first | (with_reducible exact ih0 _ _ _ _ _) | (with_reducible exact ih1 _ _ _ _ _ _) | (with_reducible exact LeO.refl _) | (with_reducible refine LeO.ite ?_ ?_)
  ·intro y0 y1 y2 y3 y4 y5
   unfold spec_l19Put.l1
   repeat' first | (with_reducible exact ih2 _ _ _ _ _ _ _) | (with_reducible exact LeO.refl _) | (with_reducible refine LeO.ite ?_ ?_)
  ·intro y0 y1 y2 y3 y4 y5 y6
   unfold spec_l19Put.j2
   repeat' first | (with_reducible exact ih1 _ _ _ _ _ _) | (with_reducible exact LeO.refl _) | (with_reducible refine LeO.ite ?_ ?_) | (with_reducible refine LeO.bind ?_ (fun _ => ?_))
theorem spec_l19Put.mono : ∀ a0 a1 a2 k, LeO (spec_l19Put.f k a0 a1 a2) (spec_l19Put.f (k + 1) a0 a1 a2) := by
 intro a0 a1 a2 k
 obtain ⟨ih0, ih1, ih2⟩ := spec_l19Put.mono_l k
 unfold spec_l19Put.f
 repeat' (with_reducible exact ih0 _ _ _ _ _)
set_option maxHeartbeats 8000000 in
set_option maxRecDepth 100000 in
theorem spec_l19Put.calls (k : Nat) (P0_ : Nat → Prop) (A0 : Option Addr) (c0 : Nat) (l0 : List (S35)) (a1_0 : Int) (a1_1 : Int) (r : List (S35)) (w : World) (hs0 : Kd.V k35 35 w w.heap.size (fun k_ => P0_ k_) (.slice A0 l0.length c0) l0) (h : spec_l19Put.f k l0 a1_0 a1_1 = some r) :
  Calls Try.prog 72 #[.slice A0 l0.length c0, .agg #[.int .i64 a1_0, .int .i64 a1_1]] w fun e w' => ∃ v0_ : Value, e = .returned (v0_) ∧ Kd.V k35 35 w' w.heap.size (fun k_ => (P0_ k_ ∨ w.heap.size ≤ k_)) v0_ r ∧ Below w.heap.size w w' := by
 have hu35 := Try.underlying35
 have HO0 := ak (show Kd.V k35 35 w w.heap.size (fun k_ => (P0_ k_ ∨ w.heap.size ≤ k_)) (.slice A0 l0.length c0) l0 from Kd.V_mono hs0 (fun k_ hk => .inl hk))
 have HB := ak (Below.refl w.heap.size w)
 have H : (spec_l19Put.l0 k l0 (([] : List (S35))) 0 a1_0 a1_1) = some r := h
 clear h
 obtain ⟨y301, hy301⟩ : ∃ y_ : List (S35), y_ = (([] : List (S35))) := ⟨_, rfl⟩
 replace H : (spec_l19Put.l0 k l0 y301 0 a1_0 a1_1) = some r := by (rw [hy301]; with_reducible exact H)
 have Ny301 := ak hy301
 clear hy301
 have H' := ak H
 clear H
 go_enter Try.func72, Try.ntmps72
 go_wp2_with (first | ((with_reducible refine gate_dst (N := 3) rfl ?_); refine box_event ?hg (N := 3) ?hd (cs := #[.int .i64 a1_0, .int .i64 a1_1]) (t := 35) ?hr ?_; (case hd => rfl); (case hg => rfl); (case hr => (go_simp; done)); intro gb300 hg w3 hbox hb; replace HO0 := ak (Kd.V_below (Kd.V_elderB (by exact HO0.out) gb300 (Nat.le_of_eq hg.symm)) hb); have BK300 := ak (hbox); have GW300 := ak ((by rw [hg]; exact (below_size (bl HB)) : w.heap.size ≤ gb300)); have GE300 := ak ((by rw [hg]; exact (below_size (bl HB)) : w.heap.size ≤ gb300)); replace HB := ak (below_step (bl HB) hb); clear hb hbox hg) | ((with_reducible refine gate_dst (N := 9) rfl ?_); refine Kd.R_lit k35 _ 35 ?hg (N := 9) ?hd (xs := ([] : List (S35))) (inner := []) (ok := fun _ => True) (okp := fun _ => True) ?hr ?hp (fun _ hk => hk) trivial (Below.refl _ _) (Nat.le_refl _) (by simp) ?_; (case hd => rfl); (case hg => rfl); (case hr => (go_simp; done)); (case hp => exact (Reps.none _ _)); intro v302 w4 ho5 hb hg_ hnew_; clear hg_ hnew_; (rw [← Ny301.out] at ho5); replace HO0 := ak (Kd.V_elder' (by exact HO0.out) (Kd.R_base ho5) hb); have HO303 := ak (Kd.R_lower (Kd.R_newB (Kd.R_newM (M := fun k_ => (w.heap.size ≤ k_)) ho5 (below_size (bl1 HB GE300)) (fun k_ h_ => h_)) (bk BK300)) (below_size (bl1 HB GE300))); replace BK300 := ak (blk_below (bk BK300) hb); replace HB := ak (below_step (bl1 HB GE300) hb); clear hb ho5))
 go_loopg [6] k (fun kq v6 w' => ∃ (x6_1 : Int), v6 = .int .i64 x6_1 ∧ Aside0 (spec_l19Put.l0 kq l0 y301 x6_1 a1_0 a1_1 = some r) ∧ Aside0 (kq ≤ k) ∧ Aside0 (Kd.V k35 35 w' w.heap.size (fun k_ => (P0_ k_ ∨ w.heap.size ≤ k_) ∧ some k_ ≠ (v302 : Value).ownBlock ∧ k_ ≠ gb300) (.slice A0 l0.length c0) l0) ∧ Aside0 (Kd.R k35 35 w' w.heap.size (fun k_ => (w.heap.size ≤ k_) ∧ k_ ≠ gb300) v302 y301) ∧ Aside0 (w'.heap[gb300]? = some (.cells #[.int .i64 a1_0, .int .i64 a1_1] 35 (0, 0))) ∧ Aside0 (Below w.heap.size w w'))
 case atStart => exact ⟨(0), (by rfl), H', ⟨Nat.le_refl _⟩, ⟨by exact Kd.V_mono HO0.out (fun _ hk => ⟨hk.1.1, ⟨hk.2, hk.1.2⟩⟩)⟩, ⟨by exact Kd.R_mono HO303.out (fun _ hk => ⟨hk.1.1, hk.2⟩)⟩, ⟨bk BK300⟩, ⟨bl1 HB GE300⟩⟩
 clear H'
 try clear p2
 obtain ⟨x6_1, rfl, HA, HK1, HO_0, HO_5, BK300, HB⟩ := hrel
 cases gk with
 | zero => exact absurd HA.out (by simp [spec_l19Put.l0])
 | succ k1 =>
  have H := HA.out
  clear HA
  simp only [spec_l19Put.l0] at H
  by_cases c6 : x6_1 < (l0.length : Int)
  ·rw [if_pos c6] at H
   have c6b0 : decide (x6_1 < (l0.length : Int)) = true := decide_eq_true c6
   clear c6
   by_cases c7 : 0 ≤ x6_1
   rotate_left
   ·rw [if_neg c7] at H
    exact absurd H (by simp)
   rw [if_pos c7] at H
   have c7b0 : decide (0 ≤ x6_1) = true := decide_eq_true c7
   clear c7
   by_cases c8 : ((rd_T35 l0 x6_1).f0) ≤ a1_0
   rotate_left
   ·rw [if_neg c8] at H
    have c8b0 : decide (((rd_T35 l0 x6_1).f0) ≤ a1_0) = false := decide_eq_false c8
    clear c8
    have H' := ak H
    clear H
    have p304 : 0 ≤ (x6_1 : Int) := oT (by (with_reducible assumption))
    have q304 : x6_1 < (l0.length : Int) := oT (by (with_reducible assumption))
    obtain ⟨ad304, e304, hx304_0, hx304_1⟩ := at_T35 (Kd.V_reads' HO_0.out).2.2 x6_1 p304 q304
    cases e304
    replace p304 := eq_true p304
    replace q304 := eq_true q304
    have hcz12_0 := bc wr BK300 0 (.int .i64 a1_0) rfl
    have hcz12_1 := bc wr BK300 1 (.int .i64 a1_1) rfl
    have hfz12_0 := fz BK300 0
    have hfz12_1 := fz BK300 1
    go_wp2
    repeat (go_quiet (fail); try go_wp2)
    go_roundg k1
    case measure => have := HK1.out; omega
    case rel => exact ⟨(wrap64 (x6_1 + 1)), (by rfl), H', ⟨by have := HK1.out; omega⟩, ⟨by (with_reducible repeat (apply Kd.V_drewN)); exact HO_0.out⟩, ⟨rk HO_5⟩, ⟨bk BK300⟩, ⟨bl1 HB GE300⟩⟩
   rw [if_pos c8] at H
   have c8b0 : decide (((rd_T35 l0 x6_1).f0) ≤ a1_0) = true := decide_eq_true c8
   clear c8
   by_cases c9 : ((rd_T35 l0 x6_1).f1) ≤ a1_1
   ·rw [if_pos c9] at H
    have c9b0 : decide (((rd_T35 l0 x6_1).f1) ≤ a1_1) = true := decide_eq_true c9
    clear c9
    obtain rfl := Option.some.inj H
    have p304 : 0 ≤ (x6_1 : Int) := oT (by (with_reducible assumption))
    have q304 : x6_1 < (l0.length : Int) := oT (by (with_reducible assumption))
    obtain ⟨ad304, e304, hx304_0, hx304_1⟩ := at_T35 (Kd.V_reads' HO_0.out).2.2 x6_1 p304 q304
    cases e304
    replace p304 := eq_true p304
    replace q304 := eq_true q304
    have hcz10_0 := bc wr BK300 0 (.int .i64 a1_0) rfl
    have hcz10_1 := bc wr BK300 1 (.int .i64 a1_1) rfl
    have hfz10_0 := fz BK300 0
    have hfz10_1 := fz BK300 1
    have p305 : 0 ≤ (x6_1 : Int) := oT (by (with_reducible assumption))
    have q305 : x6_1 < (l0.length : Int) := oT (by (with_reducible assumption))
    obtain ⟨ad305, e305, hx305_0, hx305_1⟩ := at_T35 (Kd.V_reads' HO_0.out).2.2 x6_1 p305 q305
    obtain rfl : ad304 = ad305 := (by injection e305)
    replace p305 := eq_true p305
    replace q305 := eq_true q305
    go_wp2
    repeat (go_quiet (fail); try go_wp2)
    go_ret
    exact ⟨_, by rfl, by (with_reducible repeat (apply Kd.V_drewN)); exact Kd.V_mono HO_0.out (fun _ hk => hk.1), bl1 HB GE300⟩
   rw [if_neg c9] at H
   have c9b0 : decide (((rd_T35 l0 x6_1).f1) ≤ a1_1) = false := decide_eq_false c9
   clear c9
   have H' := ak H
   clear H
   have p304 : 0 ≤ (x6_1 : Int) := oT (by (with_reducible assumption))
   have q304 : x6_1 < (l0.length : Int) := oT (by (with_reducible assumption))
   obtain ⟨ad304, e304, hx304_0, hx304_1⟩ := at_T35 (Kd.V_reads' HO_0.out).2.2 x6_1 p304 q304
   cases e304
   replace p304 := eq_true p304
   replace q304 := eq_true q304
   have hcz11_0 := bc wr BK300 0 (.int .i64 a1_0) rfl
   have hcz11_1 := bc wr BK300 1 (.int .i64 a1_1) rfl
   have hfz11_0 := fz BK300 0
   have hfz11_1 := fz BK300 1
   have p305 : 0 ≤ (x6_1 : Int) := oT (by (with_reducible assumption))
   have q305 : x6_1 < (l0.length : Int) := oT (by (with_reducible assumption))
   obtain ⟨ad305, e305, hx305_0, hx305_1⟩ := at_T35 (Kd.V_reads' HO_0.out).2.2 x6_1 p305 q305
   obtain rfl : ad304 = ad305 := (by injection e305)
   replace p305 := eq_true p305
   replace q305 := eq_true q305
   go_wp2
   repeat (go_quiet (fail); try go_wp2)
   go_roundg k1
   case measure => have := HK1.out; omega
   case rel => exact ⟨(wrap64 (x6_1 + 1)), (by rfl), H', ⟨by have := HK1.out; omega⟩, ⟨by (with_reducible repeat (apply Kd.V_drewN)); exact HO_0.out⟩, ⟨rk HO_5⟩, ⟨bk BK300⟩, ⟨bl1 HB GE300⟩⟩
  rw [if_neg c6] at H
  have c6b0 : decide (x6_1 < (l0.length : Int)) = false := decide_eq_false c6
  clear c6
  have H' := ak H
  clear H
  go_wp2
  repeat (go_quiet (fail); try go_wp2)
  go_loopg [5, 7, 8] k1 (fun kq v5 v7 v8 w' => ∃ (x5_2 : List (S35)) (x7_2 : Bool) (x8_2 : Int), v7 = .bool x7_2 ∧ v8 = .int .i64 x8_2 ∧ Aside0 (spec_l19Put.l1 kq l0 x5_2 x7_2 x8_2 a1_0 a1_1 = some r) ∧ Aside0 (kq ≤ k1) ∧ Aside0 (Kd.V k35 35 w' w.heap.size (fun k_ => (P0_ k_ ∨ w.heap.size ≤ k_) ∧ some k_ ≠ (v5 : Value).ownBlock ∧ k_ ≠ gb300) (.slice A0 l0.length c0) l0) ∧ Aside0 (Kd.R k35 35 w' w.heap.size (fun k_ => (w.heap.size ≤ k_) ∧ k_ ≠ gb300) v5 x5_2) ∧ Aside0 (w'.heap[gb300]? = some (.cells #[.int .i64 a1_0, .int .i64 a1_1] 35 (0, 0))) ∧ Aside0 (Below w.heap.size w w'))
  case atStart => exact ⟨(y301), (false), (0), (by rfl), (by rfl), H', ⟨Nat.le_refl _⟩, ⟨by exact HO_0.out⟩, ⟨rk HO_5⟩, ⟨bk BK300⟩, ⟨bl1 HB GE300⟩⟩
  clear H'
  try clear p2
  try clear p3
  try clear q3
  try clear hx3
  try clear c6
  try clear c6b0
  try clear p6
  try clear c7
  try clear c7b0
  try clear c8
  try clear c8b0
  try clear c9
  try clear c9b0
  try clear hcz10_0
  try clear hcz10_1
  try clear hcz11_0
  try clear hcz11_1
  try clear hcz12_0
  try clear hcz12_1
  try clear hfz10_0
  try clear hfz10_1
  try clear hfz11_0
  try clear hfz11_1
  try clear hfz12_0
  try clear hfz12_1
  try clear hx304_0
  try clear hx304_1
  try clear hx305_0
  try clear hx305_1
  try clear p2
  try clear p304
  try clear p305
  try clear q304
  try clear q305
  obtain ⟨x5_2, x7_2, x8_2, rfl, rfl, HA, HK2, HO_0, HO_5, BK300, HB⟩ := hrel
  cases gk with
  | zero => exact absurd HA.out (by simp [spec_l19Put.l1])
  | succ k2 =>
   have H := HA.out
   clear HA
   simp only [spec_l19Put.l1] at H
   by_cases c13 : x8_2 < (l0.length : Int)
   rotate_left
   ·rw [if_neg c13] at H
    have c13b0 : decide (x8_2 < (l0.length : Int)) = false := decide_eq_false c13
    clear c13
    by_cases c36 : x7_2 = true
    ·subst c36
     rw [if_pos rfl] at H
     obtain rfl := Option.some.inj H
     go_wp2
     repeat (go_quiet (fail); try go_wp2)
     go_ret
     exact ⟨_, by rfl, Kd.V_mono (Kd.R_V (by exact Kd.R_mono HO_5.out (fun _ hk => hk.1))) (fun k_ hk => by exact (.inr (hk))), bl1 HB GE300⟩
    replace c36 := Bool.eq_false_iff.mpr c36
    subst c36
    rw [if_neg (show ¬ (false = true) by decide)] at H
    by_cases c37 : x5_2.length < 8796093022208
    rotate_left
    ·rw [if_neg c37] at H
     exact absurd H (by simp)
    rw [if_pos c37] at H
    have LMc37 := ak c37
    clear c37
    obtain ⟨y306, hy306⟩ : ∃ y_ : List (S35), y_ = (x5_2 ++ [(⟨a1_0, a1_1⟩ : S35)]) := ⟨_, rfl⟩
    replace H : (some y306) = some r := by (rw [hy306]; with_reducible exact H)
    have Ny306 := ak hy306
    clear hy306
    obtain rfl := Option.some.inj H
    have hcz38_0 := bc wr BK300 0 (.int .i64 a1_0) rfl
    have hcz38_1 := bc wr BK300 1 (.int .i64 a1_1) rfl
    have hfz38_0 := fz BK300 0
    have hfz38_1 := fz BK300 1
    go_wp2_with (first | ((with_reducible refine gate_builtin (b := .append) (xs := #[.tmp 84, .tmp 86]) rfl ?_); at_builtin; refine Kd.R_append k35 (w0 := w) w.heap.size rfl (.tmp 84) (.tmp 86) 30 35 (.agg #[(.int .i64 0), (.int .i64 0)]) 16 rfl Try.underlying30 info35 rfl (by decide) (by omega) u5 x5_2 (⟨a1_0, a1_1⟩ : S35) [.int .i64 a1_0, .int .i64 a1_1] (fun k_ => (w.heap.size ≤ k_) ∧ k_ ≠ gb300) (fun _ => False) rfl rfl ?aP (fun _ hk => hk.elim) ?aF ?aO ?aB ?aS ?aL ?_; (case aP => exact k35_mkM _ _ _ (⟨a1_0, a1_1⟩ : S35)); (case aB => exact (bl1 HB GE300)); (case aF => exact (fun k_ hk => ⟨(Nat.le_trans (below_size (bl1 HB GE300)) hk), Kd.freshB (bk BK300) k_ hk⟩)); (case aO => exact (rk HO_5)); (case aS => exact (below_size (bl1 HB GE300))); (case aL => have := LMc37.out; omega); intro v307 w39 ho hb hg hat; rw [← Ny306.out] at ho; have n0_ := ak (Kd.V_afterv (ok := (fun k_ => (P0_ k_ ∨ w.heap.size ≤ k_) ∧ k_ ≠ gb300)) (by exact Kd.V_mono HO_0.out (fun _ hk => ⟨⟨hk.1, hk.2.2⟩, hk.2.1⟩)) hg hat); have n1_ := ak (blk_grown (bk BK300) hg (Kd.R_away HO_5.out (fun _ hk => hk.2))); have n2_ := ak (hb); have n3_ := ak (ho); clear HO_0; clear BK300; clear HB; clear HO_5; have HO_0 := n0_; have BK300 := n1_; have HB := n2_; have HO308 := n3_; clear n0_ n1_ n2_ n3_; clear ho hb hg hat) | go_step)
    go_ret
    exact ⟨_, by rfl, Kd.V_mono (Kd.R_V (by exact Kd.R_mono HO308.out (fun _ hk => hk.1))) (fun k_ hk => by exact (.inr (hk))), bl1 HB GE300⟩
   rw [if_pos c13] at H
   have c13b0 : decide (x8_2 < (l0.length : Int)) = true := decide_eq_true c13
   clear c13
   have HC14 := ak H
   clear H
   go_upto_region 11 with (fail)
   repeat (go_quiet (fail); go_upto_region 11 with (fail))
   go_cut [58] (fun v58 wc => ∃ (kq : Nat) (x58_13 : Bool), v58 = .bool x58_13 ∧ Aside0 (spec_l19Put.j2 kq l0 x5_2 x7_2 x8_2 x58_13 a1_0 a1_1 = some r) ∧ Aside0 (kq ≤ k2) ∧ Aside0 (Kd.V k35 35 wc w.heap.size (fun k_ => (P0_ k_ ∨ w.heap.size ≤ k_) ∧ some k_ ≠ (u5 : Value).ownBlock ∧ k_ ≠ gb300) (.slice A0 l0.length c0) l0) ∧ Aside0 (Kd.R k35 35 wc w.heap.size (fun k_ => (w.heap.size ≤ k_) ∧ k_ ≠ gb300) u5 x5_2) ∧ Aside0 (wc.heap[gb300]? = some (.cells #[.int .i64 a1_0, .int .i64 a1_1] 35 (0, 0))) ∧ Aside0 (Below w.heap.size w wc))
   case first =>
    have H := HC14.out
    clear HC14
    by_cases c15 : 0 ≤ x8_2
    rotate_left
    ·rw [if_neg c15] at H
     exact absurd H (by simp)
    rw [if_pos c15] at H
    have c15b0 : decide (0 ≤ x8_2) = true := decide_eq_true c15
    clear c15
    (skip)
    by_cases c16 : ((rd_T35 l0 x8_2).f0) ≥ a1_0
    rotate_left
    ·rw [if_neg c16] at H
     have c16b0 : decide (a1_0 ≤ ((rd_T35 l0 x8_2).f0)) = false := decide_eq_false c16
     clear c16
     have H' := ak H
     clear H
     have p309 : 0 ≤ (x8_2 : Int) := oT (by (with_reducible assumption))
     have q309 : x8_2 < (l0.length : Int) := oT (by (with_reducible assumption))
     obtain ⟨ad309, e309, hx309_0, hx309_1⟩ := at_T35 (Kd.V_reads' HO_0.out).2.2 x8_2 p309 q309
     cases e309
     replace p309 := eq_true p309
     replace q309 := eq_true q309
     have hcz18_0 := bc wr BK300 0 (.int .i64 a1_0) rfl
     have hcz18_1 := bc wr BK300 1 (.int .i64 a1_1) rfl
     have hfz18_0 := fz BK300 0
     have hfz18_1 := fz BK300 1
     go_wp2
     repeat (go_quiet (fail); try go_wp2)
     go_meet
     case rel => exact ⟨_, (false), (by rfl), H', ⟨by have := HK1.out; have := HK2.out; omega⟩, ⟨by (with_reducible repeat (apply Kd.V_drewN)); exact HO_0.out⟩, ⟨rk HO_5⟩, ⟨bk BK300⟩, ⟨bl1 HB GE300⟩⟩
    rw [if_pos c16] at H
    have c16b0 : decide (a1_0 ≤ ((rd_T35 l0 x8_2).f0)) = true := decide_eq_true c16
    clear c16
    have H' := ak H
    clear H
    have p309 : 0 ≤ (x8_2 : Int) := oT (by (with_reducible assumption))
    have q309 : x8_2 < (l0.length : Int) := oT (by (with_reducible assumption))
    obtain ⟨ad309, e309, hx309_0, hx309_1⟩ := at_T35 (Kd.V_reads' HO_0.out).2.2 x8_2 p309 q309
    cases e309
    replace p309 := eq_true p309
    replace q309 := eq_true q309
    have hcz17_0 := bc wr BK300 0 (.int .i64 a1_0) rfl
    have hcz17_1 := bc wr BK300 1 (.int .i64 a1_1) rfl
    have hfz17_0 := fz BK300 0
    have hfz17_1 := fz BK300 1
    have p310 : 0 ≤ (x8_2 : Int) := oT (by (with_reducible assumption))
    have q310 : x8_2 < (l0.length : Int) := oT (by (with_reducible assumption))
    obtain ⟨ad310, e310, hx310_0, hx310_1⟩ := at_T35 (Kd.V_reads' HO_0.out).2.2 x8_2 p310 q310
    obtain rfl : ad309 = ad310 := (by injection e310)
    replace p310 := eq_true p310
    replace q310 := eq_true q310
    go_wp2
    repeat (go_quiet (fail); try go_wp2)
    go_meet
    case rel => exact ⟨_, (decide (((rd_T35 l0 x8_2).f1) ≥ a1_1)), (by rfl), H', ⟨by have := HK1.out; have := HK2.out; omega⟩, ⟨by (with_reducible repeat (apply Kd.V_drewN)); exact HO_0.out⟩, ⟨rk HO_5⟩, ⟨bk BK300⟩, ⟨bl1 HB GE300⟩⟩
   clear HC14
   try clear c1
   try clear p2
   try clear p3
   try clear q3
   try clear hx3
   try clear c6
   try clear c6b0
   try clear p6
   try clear c7
   try clear c7b0
   try clear c8
   try clear c8b0
   try clear c9
   try clear c9b0
   try clear c13
   try clear c13b0
   try clear c15
   try clear c15b0
   try clear c16
   try clear c16b0
   try clear hcz10_0
   try clear hcz10_1
   try clear hcz11_0
   try clear hcz11_1
   try clear hcz12_0
   try clear hcz12_1
   try clear hcz17_0
   try clear hcz17_1
   try clear hcz18_0
   try clear hcz18_1
   try clear hfz10_0
   try clear hfz10_1
   try clear hfz11_0
   try clear hfz11_1
   try clear hfz12_0
   try clear hfz12_1
   try clear hfz17_0
   try clear hfz17_1
   try clear hfz18_0
   try clear hfz18_1
   try clear hx304_0
   try clear hx304_1
   try clear hx305_0
   try clear hx305_1
   try clear hx309_0
   try clear hx309_1
   try clear hx310_0
   try clear hx310_1
   try clear p2
   try clear p3
   try clear p304
   try clear p305
   try clear p309
   try clear p310
   try clear p6
   try clear q3
   try clear q304
   try clear q305
   try clear q309
   try clear q310
   obtain ⟨kq, x58_13, rfl, HA, HJ13, HO_0, HO_5, BK300, HB⟩ := hcut
   cases kq with
   | zero => exact absurd HA.out (by simp [spec_l19Put.j2])
   | succ kj13 =>
    have H := HA.out
    clear HA
    simp only [spec_l19Put.j2] at H
    by_cases c19 : x58_13 = true
    ·subst c19
     rw [if_pos rfl] at H
     have H' := ak H
     clear H
     go_wp2
     repeat (go_quiet (fail); try go_wp2)
     go_roundg kj13
     case measure => have := HK1.out; have := HK2.out; have := HJ13.out; omega
     case rel => exact ⟨(x5_2), (x7_2), (wrap64 (x8_2 + 1)), (by rfl), (by rfl), H', ⟨by have := HK1.out; have := HK2.out; have := HJ13.out; omega⟩, ⟨by exact HO_0.out⟩, ⟨rk HO_5⟩, ⟨bk BK300⟩, ⟨bl1 HB GE300⟩⟩
    replace c19 := Bool.eq_false_iff.mpr c19
    subst c19
    rw [if_neg (show ¬ (false = true) by decide)] at H
    by_cases c20 : x7_2 = true
    ·subst c20
     rw [if_pos rfl] at H
     by_cases c21 : 0 ≤ x8_2
     rotate_left
     ·rw [if_neg c21] at H
      exact absurd H (by simp)
     rw [if_pos c21] at H
     have c21b0 : decide (0 ≤ x8_2) = true := decide_eq_true c21
     clear c21
     by_cases c22 : x8_2 < (l0.length : Int)
     rotate_left
     ·rw [if_neg c22] at H
      exact absurd H (by simp)
     rw [if_pos c22] at H
     have c22b0 : decide (x8_2 < (l0.length : Int)) = true := decide_eq_true c22
     clear c22
     by_cases c23 : x5_2.length < 8796093022208
     rotate_left
     ·rw [if_neg c23] at H
      exact absurd H (by simp)
     rw [if_pos c23] at H
     have LMc23 := ak c23
     clear c23
     obtain ⟨y312, hy312⟩ : ∃ y_ : List (S35), y_ = (x5_2 ++ [(⟨(rd_T35 l0 x8_2).f0, (rd_T35 l0 x8_2).f1⟩ : S35)]) := ⟨_, rfl⟩
     replace H : (spec_l19Put.l1 kj13 l0 y312 true (wrap64 (x8_2 + 1)) a1_0 a1_1) = some r := by (rw [hy312]; with_reducible exact H)
     have Ny312 := ak hy312
     clear hy312
     have H' := ak H
     clear H
     have p311 : 0 ≤ (x8_2 : Int) := oT (by (with_reducible assumption))
     have q311 : x8_2 < (l0.length : Int) := oT (by (with_reducible assumption))
     obtain ⟨ad311, e311, hx311_0, hx311_1⟩ := at_T35 (Kd.V_reads' HO_0.out).2.2 x8_2 p311 q311
     cases e311
     replace p311 := eq_true p311
     replace q311 := eq_true q311
     go_wp2_with (first | ((with_reducible refine gate_builtin (b := .append) (xs := #[.tmp 75, .tmp 80]) rfl ?_); at_builtin; refine Kd.R_append k35 (w0 := w) w.heap.size rfl (.tmp 75) (.tmp 80) 30 35 (.agg #[(.int .i64 0), (.int .i64 0)]) 16 rfl Try.underlying30 info35 rfl (by decide) (by omega) u5 x5_2 (⟨(rd_T35 l0 x8_2).f0, (rd_T35 l0 x8_2).f1⟩ : S35) [.int .i64 ((rd_T35 l0 x8_2).f0), .int .i64 ((rd_T35 l0 x8_2).f1)] (fun k_ => (w.heap.size ≤ k_) ∧ k_ ≠ gb300) (fun _ => False) rfl rfl ?aP (fun _ hk => hk.elim) ?aF ?aO ?aB ?aS ?aL ?_; (case aP => exact k35_mkM _ _ _ (⟨(rd_T35 l0 x8_2).f0, (rd_T35 l0 x8_2).f1⟩ : S35)); (case aB => exact (bl1 HB GE300)); (case aF => exact (fun k_ hk => ⟨(Nat.le_trans (below_size (bl1 HB GE300)) hk), Kd.freshB (bk BK300) k_ hk⟩)); (case aO => exact (rk HO_5)); (case aS => exact (below_size (bl1 HB GE300))); (case aL => have := LMc23.out; omega); intro v313 w24 ho hb hg hat; rw [← Ny312.out] at ho; have n0_ := ak (Kd.V_afterv (ok := (fun k_ => (P0_ k_ ∨ w.heap.size ≤ k_) ∧ k_ ≠ gb300)) (by (with_reducible repeat (apply Kd.V_drewN)); exact Kd.V_mono HO_0.out (fun _ hk => ⟨⟨hk.1, hk.2.2⟩, hk.2.1⟩)) hg hat); have n1_ := ak (blk_grown (bk BK300) hg (Kd.R_away HO_5.out (fun _ hk => hk.2))); have n2_ := ak (hb); have n3_ := ak (ho); clear HO_0; clear BK300; clear HB; clear HO_5; have HO_0 := n0_; have BK300 := n1_; have HB := n2_; have HO314 := n3_; clear n0_ n1_ n2_ n3_; clear ho hb hg hat) | go_step | go_quiet (fail))
     go_roundg kj13
     case measure => have := HK1.out; have := HK2.out; have := HJ13.out; omega
     case rel => exact ⟨(y312), (true), (wrap64 (x8_2 + 1)), (by rfl), (by rfl), H', ⟨by have := HK1.out; have := HK2.out; have := HJ13.out; omega⟩, ⟨by exact Kd.V_mono HO_0.out (fun _ hk => ⟨hk.1.1, ⟨hk.2, hk.1.2⟩⟩)⟩, ⟨rk HO314⟩, ⟨bk BK300⟩, ⟨bl1 HB GE300⟩⟩
    replace c20 := Bool.eq_false_iff.mpr c20
    subst c20
    rw [if_neg (show ¬ (false = true) by decide)] at H
    by_cases c25 : 0 ≤ x8_2
    rotate_left
    ·rw [if_neg c25] at H
     exact absurd H (by simp)
    rw [if_pos c25] at H
    have c25b0 : decide (0 ≤ x8_2) = true := decide_eq_true c25
    clear c25
    by_cases c26 : x8_2 < (l0.length : Int)
    rotate_left
    ·rw [if_neg c26] at H
     exact absurd H (by simp)
    rw [if_pos c26] at H
    have c26b0 : decide (x8_2 < (l0.length : Int)) = true := decide_eq_true c26
    clear c26
    by_cases c27 : ((rd_T35 l0 x8_2).f0) > a1_0
    rotate_left
    ·rw [if_neg c27] at H
     have c27b0 : decide (a1_0 < ((rd_T35 l0 x8_2).f0)) = false := decide_eq_false c27
     clear c27
     by_cases c33 : x5_2.length < 8796093022208
     rotate_left
     ·rw [if_neg c33] at H
      exact absurd H (by simp)
     rw [if_pos c33] at H
     have LMc33 := ak c33
     clear c33
     obtain ⟨y324, hy324⟩ : ∃ y_ : List (S35), y_ = (x5_2 ++ [(⟨(rd_T35 l0 x8_2).f0, (rd_T35 l0 x8_2).f1⟩ : S35)]) := ⟨_, rfl⟩
     replace H : (spec_l19Put.l1 kj13 l0 y324 false (wrap64 (x8_2 + 1)) a1_0 a1_1) = some r := by (rw [hy324]; with_reducible exact H)
     have Ny324 := ak hy324
     clear hy324
     have H' := ak H
     clear H
     have p315 : 0 ≤ (x8_2 : Int) := oT (by (with_reducible assumption))
     have q315 : x8_2 < (l0.length : Int) := oT (by (with_reducible assumption))
     obtain ⟨ad315, e315, hx315_0, hx315_1⟩ := at_T35 (Kd.V_reads' HO_0.out).2.2 x8_2 p315 q315
     cases e315
     replace p315 := eq_true p315
     replace q315 := eq_true q315
     have hcz34_0 := bc wc BK300 0 (.int .i64 a1_0) rfl
     have hcz34_1 := bc wc BK300 1 (.int .i64 a1_1) rfl
     have hfz34_0 := fz BK300 0
     have hfz34_1 := fz BK300 1
     have p323 : 0 ≤ (x8_2 : Int) := oT (by (with_reducible assumption))
     have q323 : x8_2 < (l0.length : Int) := oT (by (with_reducible assumption))
     obtain ⟨ad323, e323, hx323_0, hx323_1⟩ := at_T35 (Kd.V_reads' HO_0.out).2.2 x8_2 p323 q323
     obtain rfl : ad315 = ad323 := (by injection e323)
     replace p323 := eq_true p323
     replace q323 := eq_true q323
     go_wp2_with (first | ((with_reducible refine gate_builtin (b := .append) (xs := #[.tmp 75, .tmp 80]) rfl ?_); at_builtin; refine Kd.R_append k35 (w0 := w) w.heap.size rfl (.tmp 75) (.tmp 80) 30 35 (.agg #[(.int .i64 0), (.int .i64 0)]) 16 rfl Try.underlying30 info35 rfl (by decide) (by omega) u5 x5_2 (⟨(rd_T35 l0 x8_2).f0, (rd_T35 l0 x8_2).f1⟩ : S35) [.int .i64 ((rd_T35 l0 x8_2).f0), .int .i64 ((rd_T35 l0 x8_2).f1)] (fun k_ => (w.heap.size ≤ k_) ∧ k_ ≠ gb300) (fun _ => False) rfl rfl ?aP (fun _ hk => hk.elim) ?aF ?aO ?aB ?aS ?aL ?_; (case aP => exact k35_mkM _ _ _ (⟨(rd_T35 l0 x8_2).f0, (rd_T35 l0 x8_2).f1⟩ : S35)); (case aB => exact (bl1 HB GE300)); (case aF => exact (fun k_ hk => ⟨(Nat.le_trans (below_size (bl1 HB GE300)) hk), Kd.freshB (bk BK300) k_ hk⟩)); (case aO => exact (rk HO_5)); (case aS => exact (below_size (bl1 HB GE300))); (case aL => have := LMc33.out; omega); intro v325 w35 ho hb hg hat; rw [← Ny324.out] at ho; have n0_ := ak (Kd.V_afterv (ok := (fun k_ => (P0_ k_ ∨ w.heap.size ≤ k_) ∧ k_ ≠ gb300)) (by (with_reducible repeat (apply Kd.V_drewN)); exact Kd.V_mono HO_0.out (fun _ hk => ⟨⟨hk.1, hk.2.2⟩, hk.2.1⟩)) hg hat); have n1_ := ak (blk_grown (bk BK300) hg (Kd.R_away HO_5.out (fun _ hk => hk.2))); have n2_ := ak (hb); have n3_ := ak (ho); clear HO_0; clear BK300; clear HB; clear HO_5; have HO_0 := n0_; have BK300 := n1_; have HB := n2_; have HO326 := n3_; clear n0_ n1_ n2_ n3_; clear ho hb hg hat) | go_step | go_quiet (fail))
     go_roundg kj13
     case measure => have := HK1.out; have := HK2.out; have := HJ13.out; omega
     case rel => exact ⟨(y324), (false), (wrap64 (x8_2 + 1)), (by rfl), (by rfl), H', ⟨by have := HK1.out; have := HK2.out; have := HJ13.out; omega⟩, ⟨by exact Kd.V_mono HO_0.out (fun _ hk => ⟨hk.1.1, ⟨hk.2, hk.1.2⟩⟩)⟩, ⟨rk HO326⟩, ⟨bk BK300⟩, ⟨bl1 HB GE300⟩⟩
    rw [if_pos c27] at H
    have c27b0 : decide (a1_0 < ((rd_T35 l0 x8_2).f0)) = true := decide_eq_true c27
    clear c27
    by_cases c28 : x5_2.length < 8796093022208
    rotate_left
    ·rw [if_neg c28] at H
     exact absurd H (by simp)
    rw [if_pos c28] at H
    have LMc28 := ak c28
    clear c28
    obtain ⟨y316, hy316⟩ : ∃ y_ : List (S35), y_ = (x5_2 ++ [(⟨a1_0, a1_1⟩ : S35)]) := ⟨_, rfl⟩
    replace H : (if y316.length < 8796093022208 then (spec_l19Put.l1 kj13 l0 (y316 ++ [(⟨(rd_T35 l0 x8_2).f0, (rd_T35 l0 x8_2).f1⟩ : S35)]) true (wrap64 (x8_2 + 1)) a1_0 a1_1) else (none)) = some r := by (have H2_ := (Option.bind_some _ _).symm.trans H; rw [hy316]; with_reducible exact H2_)
    have Ny316 := ak hy316
    clear hy316
    by_cases c29 : y316.length < 8796093022208
    rotate_left
    ·rw [if_neg c29] at H
     exact absurd H (by simp)
    rw [if_pos c29] at H
    have LMc29 := ak c29
    clear c29
    obtain ⟨y320, hy320⟩ : ∃ y_ : List (S35), y_ = (y316 ++ [(⟨(rd_T35 l0 x8_2).f0, (rd_T35 l0 x8_2).f1⟩ : S35)]) := ⟨_, rfl⟩
    replace H : (spec_l19Put.l1 kj13 l0 y320 true (wrap64 (x8_2 + 1)) a1_0 a1_1) = some r := by (rw [hy320]; with_reducible exact H)
    have Ny320 := ak hy320
    clear hy320
    have H' := ak H
    clear H
    have p315 : 0 ≤ (x8_2 : Int) := oT (by (with_reducible assumption))
    have q315 : x8_2 < (l0.length : Int) := oT (by (with_reducible assumption))
    obtain ⟨ad315, e315, hx315_0, hx315_1⟩ := at_T35 (Kd.V_reads' HO_0.out).2.2 x8_2 p315 q315
    cases e315
    replace p315 := eq_true p315
    replace q315 := eq_true q315
    have hcz30_0 := bc wc BK300 0 (.int .i64 a1_0) rfl
    have hcz30_1 := bc wc BK300 1 (.int .i64 a1_1) rfl
    have hfz30_0 := fz BK300 0
    have hfz30_1 := fz BK300 1
    go_wp2_with (first | ((with_reducible refine gate_builtin (b := .append) (xs := #[.tmp 71, .tmp 73]) rfl ?_); at_builtin; refine Kd.R_append k35 (w0 := w) w.heap.size rfl (.tmp 71) (.tmp 73) 30 35 (.agg #[(.int .i64 0), (.int .i64 0)]) 16 rfl Try.underlying30 info35 rfl (by decide) (by omega) u5 x5_2 (⟨a1_0, a1_1⟩ : S35) [.int .i64 a1_0, .int .i64 a1_1] (fun k_ => (w.heap.size ≤ k_) ∧ k_ ≠ gb300) (fun _ => False) rfl rfl ?aP (fun _ hk => hk.elim) ?aF ?aO ?aB ?aS ?aL ?_; (case aP => exact k35_mkM _ _ _ (⟨a1_0, a1_1⟩ : S35)); (case aB => exact (bl1 HB GE300)); (case aF => exact (fun k_ hk => ⟨(Nat.le_trans (below_size (bl1 HB GE300)) hk), Kd.freshB (bk BK300) k_ hk⟩)); (case aO => exact (rk HO_5)); (case aS => exact (below_size (bl1 HB GE300))); (case aL => have := LMc28.out; omega); intro v317 w31 ho hb hg hat; rw [← Ny316.out] at ho; have n0_ := ak (Kd.V_afterv (ok := (fun k_ => (P0_ k_ ∨ w.heap.size ≤ k_) ∧ k_ ≠ gb300)) (by (with_reducible repeat (apply Kd.V_drewN)); exact Kd.V_mono HO_0.out (fun _ hk => ⟨⟨hk.1, hk.2.2⟩, hk.2.1⟩)) hg hat); have n1_ := ak (blk_grown (bk BK300) hg (Kd.R_away HO_5.out (fun _ hk => hk.2))); have n2_ := ak (hb); have n3_ := ak (ho); clear HO_0; clear BK300; clear HB; clear HO_5; have HO_0 := n0_; have BK300 := n1_; have HB := n2_; have HO318 := n3_; clear n0_ n1_ n2_ n3_; clear ho hb hg hat; have p319 : 0 ≤ (x8_2 : Int) := oT (by (with_reducible assumption)); have q319 : x8_2 < (l0.length : Int) := oT (by (with_reducible assumption)); obtain ⟨ad319, e319, hx319_0, hx319_1⟩ := at_T35 (Kd.V_reads' HO_0.out).2.2 x8_2 p319 q319; obtain rfl : ad315 = ad319 := (by injection e319); replace p319 := eq_true p319; replace q319 := eq_true q319) | ((with_reducible refine gate_builtin (b := .append) (xs := #[.tmp 75, .tmp 80]) rfl ?_); at_builtin; refine Kd.R_append k35 (w0 := w) w.heap.size rfl (.tmp 75) (.tmp 80) 30 35 (.agg #[(.int .i64 0), (.int .i64 0)]) 16 rfl Try.underlying30 info35 rfl (by decide) (by omega) v317 y316 (⟨(rd_T35 l0 x8_2).f0, (rd_T35 l0 x8_2).f1⟩ : S35) [.int .i64 ((rd_T35 l0 x8_2).f0), .int .i64 ((rd_T35 l0 x8_2).f1)] (fun k_ => (w.heap.size ≤ k_) ∧ k_ ≠ gb300) (fun _ => False) rfl rfl ?aP (fun _ hk => hk.elim) ?aF ?aO ?aB ?aS ?aL ?_; (case aP => exact k35_mkM _ _ _ (⟨(rd_T35 l0 x8_2).f0, (rd_T35 l0 x8_2).f1⟩ : S35)); (case aB => exact (bl1 HB GE300)); (case aF => exact (fun k_ hk => ⟨(Nat.le_trans (below_size (bl1 HB GE300)) hk), Kd.freshB (bk BK300) k_ hk⟩)); (case aO => exact (rk HO318)); (case aS => exact (below_size (bl1 HB GE300))); (case aL => have := LMc29.out; omega); intro v321 w32 ho hb hg hat; rw [← Ny320.out] at ho; have n0_ := ak (Kd.V_afterv (ok := (fun k_ => (P0_ k_ ∨ w.heap.size ≤ k_) ∧ k_ ≠ gb300)) (by exact HO_0.out) hg hat); have n1_ := ak (blk_grown (bk BK300) hg (Kd.R_away HO318.out (fun _ hk => hk.2))); have n2_ := ak (hb); have n3_ := ak (ho); clear HO_0; clear BK300; clear HB; clear HO318; have HO_0 := n0_; have BK300 := n1_; have HB := n2_; have HO322 := n3_; clear n0_ n1_ n2_ n3_; clear ho hb hg hat) | go_step | go_quiet (fail))
    go_roundg kj13
    case measure => have := HK1.out; have := HK2.out; have := HJ13.out; omega
    case rel => exact ⟨(y320), (true), (wrap64 (x8_2 + 1)), (by rfl), (by rfl), H', ⟨by have := HK1.out; have := HK2.out; have := HJ13.out; omega⟩, ⟨by exact Kd.V_mono HO_0.out (fun _ hk => ⟨hk.1.1, ⟨hk.2, hk.1.2⟩⟩)⟩, ⟨rk HO322⟩, ⟨bk BK300⟩, ⟨bl1 HB GE300⟩⟩

end Go.Proofs.Ytddkaiegnohkcaa.F
