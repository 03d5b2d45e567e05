-- Printed by wip/px/px.py of this claim's repository (the kit's printer, extended there). Lean checks it.
import Derived.Test.YtddkaiegnohkcaaFKinds
namespace Go.Proofs.Ytddkaiegnohkcaa.F
open Go.RowKit Go.Proofs.YtddkaiegnohkcaaW.PrintWords Go.Proofs.YtddkaiegnohkcaaW.PrintLast Go.Proofs.YtddkaiegnohkcaaW.PrintMore
attribute [local go_sem] max2_int min2_int max_two min_two max_three min_three max_four min_four   -- for this text's walks alone
set_option linter.unusedVariables false
set_option linter.unusedSimpArgs false

/-! ### spec_l19Put: function 72 -/
mutual
def spec_l19Put.l0 : Nat → List (S35) → List (S35) → Int → Int → Int → Option ((List (S35)))
 | 0, _, _, _, _, _ => none
 | k + 1, x0, x5, x6, x145000, x145001 => if x6 < (x0.length : Int) then (if 0 ≤ x6 then (if ((rd_T35 x0 x6).f0) ≤ x145000 then (if ((rd_T35 x0 x6).f1) ≤ x145001 then (some x0) else (spec_l19Put.l0 k x0 x5 (wrap64 (x6 + 1)) x145000 x145001)) else (spec_l19Put.l0 k x0 x5 (wrap64 (x6 + 1)) x145000 x145001)) else (none)) else (spec_l19Put.l1 k x0 x5 false 0 x145000 x145001)
def spec_l19Put.l1 : Nat → List (S35) → List (S35) → Bool → Int → Int → Int → Option ((List (S35)))
 | 0, _, _, _, _, _, _ => none
 | k + 1, x0, x5, x7, x8, x145000, x145001 => if x8 < (x0.length : Int) then (if 0 ≤ x8 then (if ((rd_T35 x0 x8).f0) ≥ x145000 then (spec_l19Put.j2 k x0 x5 x7 x8 (decide (((rd_T35 x0 x8).f1) ≥ x145001)) x145000 x145001) else (spec_l19Put.j2 k x0 x5 x7 x8 false x145000 x145001)) else (none)) else (if x7 = true then (some x5) else (if x5.length < 8796093022208 then (some (x5 ++ [(⟨x145000, x145001⟩ : S35)])) else (none)))
def spec_l19Put.j2 : Nat → List (S35) → List (S35) → Bool → Int → Bool → Int → Int → Option ((List (S35)))
 | 0, _, _, _, _, _, _, _ => none
 | k + 1, x0, x5, x7, x8, x58, x145000, x145001 => if x58 = true then (spec_l19Put.l1 k x0 x5 x7 (wrap64 (x8 + 1)) x145000 x145001) else (if x7 = true then (if 0 ≤ x8 then (if x8 < (x0.length : Int) then (if x5.length < 8796093022208 then (spec_l19Put.l1 k x0 (x5 ++ [(⟨(rd_T35 x0 x8).f0, (rd_T35 x0 x8).f1⟩ : S35)]) x7 (wrap64 (x8 + 1)) x145000 x145001) else (none)) else (none)) else (none)) else (if 0 ≤ x8 then (if x8 < (x0.length : Int) then (if ((rd_T35 x0 x8).f0) > x145000 then (if x5.length < 8796093022208 then ((some (x5 ++ [(⟨x145000, x145001⟩ : S35)] : List (S35))).bind fun y160 => (if y160.length < 8796093022208 then (spec_l19Put.l1 k x0 (y160 ++ [(⟨(rd_T35 x0 x8).f0, (rd_T35 x0 x8).f1⟩ : S35)]) true (wrap64 (x8 + 1)) x145000 x145001) else (none))) else (none)) else (if x5.length < 8796093022208 then (spec_l19Put.l1 k x0 (x5 ++ [(⟨(rd_T35 x0 x8).f0, (rd_T35 x0 x8).f1⟩ : S35)]) x7 (wrap64 (x8 + 1)) x145000 x145001) else (none))) else (none)) else (none)))
end
def spec_l19Put.f (k : Nat) (l0 : List (S35)) (a1_0 : Int) (a1_1 : Int) : Option ((List (S35))) := spec_l19Put.l0 k l0 (([] : List (S35))) 0 a1_0 a1_1
theorem spec_l19Put.mono_l : ∀ k, (∀ y0 y1 y2 y3 y4, LeO (spec_l19Put.l0 k y0 y1 y2 y3 y4) (spec_l19Put.l0 (k + 1) y0 y1 y2 y3 y4)) ∧ (∀ y0 y1 y2 y3 y4 y5, LeO (spec_l19Put.l1 k y0 y1 y2 y3 y4 y5) (spec_l19Put.l1 (k + 1) y0 y1 y2 y3 y4 y5)) ∧ (∀ y0 y1 y2 y3 y4 y5 y6, LeO (spec_l19Put.j2 k y0 y1 y2 y3 y4 y5 y6) (spec_l19Put.j2 (k + 1) y0 y1 y2 y3 y4 y5 y6))
 | 0 => ⟨fun _ _ _ _ _ r h => by simp [spec_l19Put.l0] at h, fun _ _ _ _ _ _ r h => by simp [spec_l19Put.l1] at h, fun _ _ _ _ _ _ _ r h => by simp [spec_l19Put.j2] at h⟩
 | k + 1 => by
  obtain ⟨ih0, ih1, ih2⟩ := spec_l19Put.mono_l k
  refine ⟨?_, ?_, ?_⟩
  ·intro y0 y1 y2 y3 y4
   unfold spec_l19Put.l0
   repeat' first
   | (with_reducible exact ih0 _ _ _ _ _)
   | (with_reducible exact ih1 _ _ _ _ _ _)
   | (with_reducible exact ih2 _ _ _ _ _ _ _)
   | (with_reducible exact LeO.refl _)
   | (with_reducible exact LeO.none _)
   | (with_reducible refine LeO.ite ?_ ?_)
   | (with_reducible refine LeO.bind ?_ (fun _ => ?_))
   | exact ih0 _ _ _ _ _
   | exact ih1 _ _ _ _ _ _
   | exact ih2 _ _ _ _ _ _ _
   | exact LeO.none _
   | refine LeO.ite ?_ ?_
   | refine LeO.bind ?_ (fun _ => ?_)
  ·intro y0 y1 y2 y3 y4 y5
   unfold spec_l19Put.l1
   repeat' first
   | (with_reducible exact ih0 _ _ _ _ _)
   | (with_reducible exact ih1 _ _ _ _ _ _)
   | (with_reducible exact ih2 _ _ _ _ _ _ _)
   | (with_reducible exact LeO.refl _)
   | (with_reducible exact LeO.none _)
   | (with_reducible refine LeO.ite ?_ ?_)
   | (with_reducible refine LeO.bind ?_ (fun _ => ?_))
   | exact ih0 _ _ _ _ _
   | exact ih1 _ _ _ _ _ _
   | exact ih2 _ _ _ _ _ _ _
   | exact LeO.none _
   | refine LeO.ite ?_ ?_
   | refine LeO.bind ?_ (fun _ => ?_)
  ·intro y0 y1 y2 y3 y4 y5 y6
   unfold spec_l19Put.j2
   repeat' first
   | (with_reducible exact ih0 _ _ _ _ _)
   | (with_reducible exact ih1 _ _ _ _ _ _)
   | (with_reducible exact ih2 _ _ _ _ _ _ _)
   | (with_reducible exact LeO.refl _)
   | (with_reducible exact LeO.none _)
   | (with_reducible refine LeO.ite ?_ ?_)
   | (with_reducible refine LeO.bind ?_ (fun _ => ?_))
   | exact ih0 _ _ _ _ _
   | exact ih1 _ _ _ _ _ _
   | exact ih2 _ _ _ _ _ _ _
   | exact LeO.none _
   | refine LeO.ite ?_ ?_
   | refine LeO.bind ?_ (fun _ => ?_)
theorem spec_l19Put.mono : ∀ a0 a1 a2 k, LeO (spec_l19Put.f k a0 a1 a2) (spec_l19Put.f (k + 1) a0 a1 a2) := by
 intro a0 a1 a2 k
 obtain ⟨ih0, ih1, ih2⟩ := spec_l19Put.mono_l k
 unfold spec_l19Put.f
 repeat' first
   | (with_reducible exact ih0 _ _ _ _ _)
   | (with_reducible exact ih1 _ _ _ _ _ _)
   | (with_reducible exact ih2 _ _ _ _ _ _ _)
   | (with_reducible exact LeO.refl _)
   | (with_reducible exact LeO.none _)
   | (with_reducible refine LeO.ite ?_ ?_)
   | (with_reducible refine LeO.bind ?_ (fun _ => ?_))
   | exact ih0 _ _ _ _ _
   | exact ih1 _ _ _ _ _ _
   | exact ih2 _ _ _ _ _ _ _
   | exact LeO.none _
   | refine LeO.ite ?_ ?_
   | refine LeO.bind ?_ (fun _ => ?_)
set_option maxHeartbeats 8000000 in
set_option maxRecDepth 100000 in
theorem spec_l19Put.calls (k : Nat) (P0_ : Nat → Prop) (A0 : Option Addr) (c0 : Nat) (l0 : List (S35)) (a1_0 : Int) (a1_1 : Int) (r : List (S35)) (w : World) (hs0 : Kd.V k35 35 w w.heap.size (fun k_ => P0_ k_) (.slice A0 l0.length c0) l0) (h : spec_l19Put.f k l0 a1_0 a1_1 = some r) :
  Calls Try.prog 72 #[.slice A0 l0.length c0, .agg #[.int .i64 a1_0, .int .i64 a1_1]] w fun e w' => ∃ v0_ : Value, e = .returned (v0_) ∧ Kd.V k35 35 w' w.heap.size (fun k_ => (P0_ k_ ∨ w.heap.size ≤ k_)) v0_ r ∧ Below w.heap.size w w' := by
 have hu35 := Try.underlying35
 have HO0 := ak (show Kd.V k35 35 w w.heap.size (fun k_ => (P0_ k_ ∨ w.heap.size ≤ k_)) (.slice A0 l0.length c0) l0 from Kd.V_mono hs0 (fun k_ hk => .inl hk))
 have HB := ak (Below.refl w.heap.size w)
 have H : (spec_l19Put.l0 k l0 (([] : List (S35))) 0 a1_0 a1_1) = some r := h
 clear h
 obtain ⟨y145, hy145⟩ : ∃ y_ : List (S35), y_ = (([] : List (S35))) := ⟨_, rfl⟩
 replace H : (spec_l19Put.l0 k l0 y145 0 a1_0 a1_1) = some r := by first | (rw [hy145]; with_reducible exact H) | (have H2_ := (Option.bind_some _ _).symm.trans H; rw [hy145]; with_reducible exact H2_) | (have H2_ := (Option.bind_some _ _).symm.trans H; with_reducible exact H2_) | with_reducible exact H | (rw [hy145]; exact H) | exact H
 have Ny145 := ak hy145
 clear hy145
 have H' := ak H
 clear H
 go_enter Try.func72, Try.ntmps72
 go_wp2_with (first | ((with_reducible refine gate_dst (N := 3) rfl ?_); refine box_event ?hg (N := 3) ?hd (cs := #[.int .i64 a1_0, .int .i64 a1_1]) (t := 35) ?hr ?_; (case hd => rfl); (case hg => rfl); (case hr => first | (go_simp; done) | (go_simp; rfl)); intro gb144 hg w3 hbox hb; replace HO0 := ak (Kd.V_below (Kd.V_elderB (by (with_reducible repeat (first | apply Kd.V_alloc | apply Kd.V_drewN | apply Kd.V_drew)); exact HO0.out) gb144 (Nat.le_of_eq hg.symm)) hb); have BK144 := ak (hbox); have GW144 := ak ((by rw [hg]; exact (below_size (bl HB)) : w.heap.size ≤ gb144)); have GE144 := ak ((by rw [hg]; exact (below_size (bl HB)) : w.heap.size ≤ gb144)); replace HB := ak (below_step (bl HB) hb); clear hb hbox hg) | ((with_reducible refine gate_dst (N := 9) rfl ?_); refine Kd.R_lit k35 _ 35 ?hg (N := 9) ?hd (xs := ([] : List (S35))) (inner := []) (ok := fun _ => True) (okp := fun _ => True) ?hr ?hp (fun _ hk => hk) trivial (Below.refl _ _) (Nat.le_refl _) (by simp) ?_; (case hd => rfl); (case hg => rfl); (case hr => first | (go_simp; done) | (go_simp; rfl)); (case hp => exact (Reps.none _ _)); intro v146 w4 ho5 hb hg_ hnew_; clear hg_ hnew_; (first | rw [← Ny145.out] at ho5 | (simp only [Int.reduceToNat] at ho5; rw [← Ny145.out] at ho5)); replace HO0 := ak (Kd.V_elder' (by (with_reducible repeat (first | apply Kd.V_alloc | apply Kd.V_drewN | apply Kd.V_drew)); exact HO0.out) (Kd.R_base ho5) hb); have HO147 := ak (Kd.R_lower (Kd.R_newB (Kd.R_newM (M := fun k_ => (w.heap.size ≤ k_)) ho5 (below_size (bl1 HB GE144)) (fun k_ h_ => h_)) (bk BK144)) (below_size (bl1 HB GE144))); replace BK144 := ak (blk_below (bk BK144) hb); replace HB := ak (below_step (bl1 HB GE144) hb); clear hb ho5) | go_values | go_skip | go_guarded | go_step | go_upon | go_back | go_quiet (first | ((with_reducible refine gate_dst (N := 3) rfl ?_); refine box_event ?hg (N := 3) ?hd (cs := #[.int .i64 a1_0, .int .i64 a1_1]) (t := 35) ?hr ?_; (case hd => rfl); (case hg => rfl); (case hr => first | (go_simp; done) | (go_simp; rfl)); intro gb144 hg w3 hbox hb; replace HO0 := ak (Kd.V_below (Kd.V_elderB (by (with_reducible repeat (first | apply Kd.V_alloc | apply Kd.V_drewN | apply Kd.V_drew)); exact HO0.out) gb144 (Nat.le_of_eq hg.symm)) hb); have BK144 := ak (hbox); have GW144 := ak ((by rw [hg]; exact (below_size (bl HB)) : w.heap.size ≤ gb144)); have GE144 := ak ((by rw [hg]; exact (below_size (bl HB)) : w.heap.size ≤ gb144)); replace HB := ak (below_step (bl HB) hb); clear hb hbox hg) | ((with_reducible refine gate_dst (N := 9) rfl ?_); refine Kd.R_lit k35 _ 35 ?hg (N := 9) ?hd (xs := ([] : List (S35))) (inner := []) (ok := fun _ => True) (okp := fun _ => True) ?hr ?hp (fun _ hk => hk) trivial (Below.refl _ _) (Nat.le_refl _) (by simp) ?_; (case hd => rfl); (case hg => rfl); (case hr => first | (go_simp; done) | (go_simp; rfl)); (case hp => exact (Reps.none _ _)); intro v146 w4 ho5 hb hg_ hnew_; clear hg_ hnew_; (first | rw [← Ny145.out] at ho5 | (simp only [Int.reduceToNat] at ho5; rw [← Ny145.out] at ho5)); replace HO0 := ak (Kd.V_elder' (by (with_reducible repeat (first | apply Kd.V_alloc | apply Kd.V_drewN | apply Kd.V_drew)); exact HO0.out) (Kd.R_base ho5) hb); have HO147 := ak (Kd.R_lower (Kd.R_newB (Kd.R_newM (M := fun k_ => (w.heap.size ≤ k_)) ho5 (below_size (bl1 HB GE144)) (fun k_ h_ => h_)) (bk BK144)) (below_size (bl1 HB GE144))); replace BK144 := ak (blk_below (bk BK144) hb); replace HB := ak (below_step (bl1 HB GE144) hb); clear hb ho5)))
 go_loopg [6] k (fun kq v6 w' => ∃ (x6_1 : Int), v6 = .int .i64 x6_1 ∧ Aside0 (spec_l19Put.l0 kq l0 y145 x6_1 a1_0 a1_1 = some r) ∧ Aside0 (kq ≤ k) ∧ Aside0 (Kd.V k35 35 w' w.heap.size (fun k_ => (P0_ k_ ∨ w.heap.size ≤ k_) ∧ some k_ ≠ (v146 : Value).ownBlock ∧ k_ ≠ gb144) (.slice A0 l0.length c0) l0) ∧ Aside0 (Kd.R k35 35 w' w.heap.size (fun k_ => (w.heap.size ≤ k_) ∧ k_ ≠ gb144) v146 y145) ∧ Aside0 (w'.heap[gb144]? = some (.cells #[.int .i64 a1_0, .int .i64 a1_1] 35 (0, 0))) ∧ Aside0 (Below w.heap.size w w'))
 case atStart => exact ⟨(0), (by first | rfl | (simp; done) | (simp [*]; done)), H', ⟨Nat.le_refl _⟩, ⟨by (with_reducible repeat (first | apply Kd.V_alloc | apply Kd.V_drewN | apply Kd.V_drew)); exact Kd.V_mono HO0.out (fun _ hk => ⟨hk.1.1, ⟨hk.2, hk.1.2⟩⟩)⟩, ⟨by (with_reducible repeat (first | apply Kd.R_alloc | apply Kd.R_drewN | apply Kd.R_drew)); exact Kd.R_mono HO147.out (fun _ hk => ⟨hk.1.1, hk.2⟩)⟩, ⟨bk BK144⟩, ⟨bl1 HB GE144⟩⟩
 clear H'
 try clear p2
 obtain ⟨x6_1, rfl, HA, HK1, HO_0, HO_5, BK144, HB⟩ := hrel
 cases gk with
 | zero => exact absurd HA.out (by simp [spec_l19Put.l0])
 | succ k1 =>
  have H := HA.out
  clear HA
  simp only [spec_l19Put.l0] at H
  by_cases c6 : x6_1 < (l0.length : Int)
  ·rw [if_pos c6] at H
   have c6b0 : decide (x6_1 < (l0.length : Int)) = true := decide_eq_true c6
   clear c6
   by_cases c7 : 0 ≤ x6_1
   rotate_left
   ·rw [if_neg c7] at H
    exact absurd H (by simp)
   rw [if_pos c7] at H
   have c7b0 : decide (0 ≤ x6_1) = true := decide_eq_true c7
   clear c7
   by_cases c8 : ((rd_T35 l0 x6_1).f0) ≤ a1_0
   rotate_left
   ·rw [if_neg c8] at H
    have c8b0 : decide (((rd_T35 l0 x6_1).f0) ≤ a1_0) = false := decide_eq_false c8
    clear c8
    have H' := ak H
    clear H
    have p148 : 0 ≤ (x6_1 : Int) := oT (by first | (with_reducible assumption) | assumption)
    have q148 : x6_1 < (l0.length : Int) := oT (by first | (with_reducible assumption) | assumption)
    obtain ⟨ad148, e148, hx148_0, hx148_1⟩ := at_T35 (Kd.V_reads' HO_0.out).2.2 x6_1 p148 q148
    cases e148
    replace p148 := eq_true p148
    replace q148 := eq_true q148
    have hcz12_0 := bc wr BK144 0 (.int .i64 a1_0) rfl
    have hcz12_1 := bc wr BK144 1 (.int .i64 a1_1) rfl
    have hfz12_0 := fz BK144 0
    have hfz12_1 := fz BK144 1
    go_wp2
    repeat (go_quiet (fail); try go_wp2)
    go_roundg k1
    case measure => have := HK1.out; omega
    case rel => exact ⟨(wrap64 (x6_1 + 1)), (by first | rfl | (simp; done) | (simp [*]; done)), H', ⟨by have := HK1.out; omega⟩, ⟨by (with_reducible repeat (first | apply Kd.V_alloc | apply Kd.V_drewN | apply Kd.V_drew)); exact HO_0.out⟩, ⟨rk HO_5⟩, ⟨bk BK144⟩, ⟨bl1 HB GE144⟩⟩
   rw [if_pos c8] at H
   have c8b0 : decide (((rd_T35 l0 x6_1).f0) ≤ a1_0) = true := decide_eq_true c8
   clear c8
   by_cases c9 : ((rd_T35 l0 x6_1).f1) ≤ a1_1
   ·rw [if_pos c9] at H
    have c9b0 : decide (((rd_T35 l0 x6_1).f1) ≤ a1_1) = true := decide_eq_true c9
    clear c9
    obtain rfl := Option.some.inj H
    have p148 : 0 ≤ (x6_1 : Int) := oT (by first | (with_reducible assumption) | assumption)
    have q148 : x6_1 < (l0.length : Int) := oT (by first | (with_reducible assumption) | assumption)
    obtain ⟨ad148, e148, hx148_0, hx148_1⟩ := at_T35 (Kd.V_reads' HO_0.out).2.2 x6_1 p148 q148
    cases e148
    replace p148 := eq_true p148
    replace q148 := eq_true q148
    have hcz10_0 := bc wr BK144 0 (.int .i64 a1_0) rfl
    have hcz10_1 := bc wr BK144 1 (.int .i64 a1_1) rfl
    have hfz10_0 := fz BK144 0
    have hfz10_1 := fz BK144 1
    have p149 : 0 ≤ (x6_1 : Int) := oT (by first | (with_reducible assumption) | assumption)
    have q149 : x6_1 < (l0.length : Int) := oT (by first | (with_reducible assumption) | assumption)
    obtain ⟨ad149, e149, hx149_0, hx149_1⟩ := at_T35 (Kd.V_reads' HO_0.out).2.2 x6_1 p149 q149
    obtain rfl : ad148 = ad149 := (by injection e149)
    replace p149 := eq_true p149
    replace q149 := eq_true q149
    go_wp2
    repeat (go_quiet (fail); try go_wp2)
    go_ret
    exact ⟨_, by first | rfl | (simp [errW_none, errW_some] <;> rfl) | (simp [*, errW_none, errW_some] <;> rfl), by (with_reducible repeat (first | apply Kd.V_alloc | apply Kd.V_drewN | apply Kd.V_drew)); exact Kd.V_mono HO_0.out (fun _ hk => hk.1), bl1 HB GE144⟩
   rw [if_neg c9] at H
   have c9b0 : decide (((rd_T35 l0 x6_1).f1) ≤ a1_1) = false := decide_eq_false c9
   clear c9
   have H' := ak H
   clear H
   have p148 : 0 ≤ (x6_1 : Int) := oT (by first | (with_reducible assumption) | assumption)
   have q148 : x6_1 < (l0.length : Int) := oT (by first | (with_reducible assumption) | assumption)
   obtain ⟨ad148, e148, hx148_0, hx148_1⟩ := at_T35 (Kd.V_reads' HO_0.out).2.2 x6_1 p148 q148
   cases e148
   replace p148 := eq_true p148
   replace q148 := eq_true q148
   have hcz11_0 := bc wr BK144 0 (.int .i64 a1_0) rfl
   have hcz11_1 := bc wr BK144 1 (.int .i64 a1_1) rfl
   have hfz11_0 := fz BK144 0
   have hfz11_1 := fz BK144 1
   have p149 : 0 ≤ (x6_1 : Int) := oT (by first | (with_reducible assumption) | assumption)
   have q149 : x6_1 < (l0.length : Int) := oT (by first | (with_reducible assumption) | assumption)
   obtain ⟨ad149, e149, hx149_0, hx149_1⟩ := at_T35 (Kd.V_reads' HO_0.out).2.2 x6_1 p149 q149
   obtain rfl : ad148 = ad149 := (by injection e149)
   replace p149 := eq_true p149
   replace q149 := eq_true q149
   go_wp2
   repeat (go_quiet (fail); try go_wp2)
   go_roundg k1
   case measure => have := HK1.out; omega
   case rel => exact ⟨(wrap64 (x6_1 + 1)), (by first | rfl | (simp; done) | (simp [*]; done)), H', ⟨by have := HK1.out; omega⟩, ⟨by (with_reducible repeat (first | apply Kd.V_alloc | apply Kd.V_drewN | apply Kd.V_drew)); exact HO_0.out⟩, ⟨rk HO_5⟩, ⟨bk BK144⟩, ⟨bl1 HB GE144⟩⟩
  rw [if_neg c6] at H
  have c6b0 : decide (x6_1 < (l0.length : Int)) = false := decide_eq_false c6
  clear c6
  have H' := ak H
  clear H
  go_wp2
  repeat (go_quiet (fail); try go_wp2)
  go_loopg [5, 7, 8] k1 (fun kq v5 v7 v8 w' => ∃ (x5_2 : List (S35)) (x7_2 : Bool) (x8_2 : Int), v7 = .bool x7_2 ∧ v8 = .int .i64 x8_2 ∧ Aside0 (spec_l19Put.l1 kq l0 x5_2 x7_2 x8_2 a1_0 a1_1 = some r) ∧ Aside0 (kq ≤ k1) ∧ Aside0 (Kd.V k35 35 w' w.heap.size (fun k_ => (P0_ k_ ∨ w.heap.size ≤ k_) ∧ some k_ ≠ (v5 : Value).ownBlock ∧ k_ ≠ gb144) (.slice A0 l0.length c0) l0) ∧ Aside0 (Kd.R k35 35 w' w.heap.size (fun k_ => (w.heap.size ≤ k_) ∧ k_ ≠ gb144) v5 x5_2) ∧ Aside0 (w'.heap[gb144]? = some (.cells #[.int .i64 a1_0, .int .i64 a1_1] 35 (0, 0))) ∧ Aside0 (Below w.heap.size w w'))
  case atStart => exact ⟨(y145), (false), (0), (by first | rfl | (simp; done) | (simp [*]; done)), (by first | rfl | (simp; done) | (simp [*]; done)), H', ⟨Nat.le_refl _⟩, ⟨by (with_reducible repeat (first | apply Kd.V_alloc | apply Kd.V_drewN | apply Kd.V_drew)); exact HO_0.out⟩, ⟨rk HO_5⟩, ⟨bk BK144⟩, ⟨bl1 HB GE144⟩⟩
  clear H'
  try clear p1
  try clear q1
  try clear hx1
  try clear p2
  try clear c6
  try clear c6b0
  try clear p6
  try clear c7
  try clear c7b0
  try clear c8
  try clear c8b0
  try clear c9
  try clear c9b0
  try clear hcz10_0
  try clear hcz10_1
  try clear hcz11_0
  try clear hcz11_1
  try clear hcz12_0
  try clear hcz12_1
  try clear hfz10_0
  try clear hfz10_1
  try clear hfz11_0
  try clear hfz11_1
  try clear hfz12_0
  try clear hfz12_1
  try clear hx148_0
  try clear hx148_1
  try clear hx149_0
  try clear hx149_1
  try clear p148
  try clear p149
  try clear p2
  try clear q148
  try clear q149
  obtain ⟨x5_2, x7_2, x8_2, rfl, rfl, HA, HK2, HO_0, HO_5, BK144, HB⟩ := hrel
  cases gk with
  | zero => exact absurd HA.out (by simp [spec_l19Put.l1])
  | succ k2 =>
   have H := HA.out
   clear HA
   simp only [spec_l19Put.l1] at H
   by_cases c13 : x8_2 < (l0.length : Int)
   rotate_left
   ·rw [if_neg c13] at H
    have c13b0 : decide (x8_2 < (l0.length : Int)) = false := decide_eq_false c13
    clear c13
    by_cases c36 : x7_2 = true
    ·subst c36
     rw [if_pos rfl] at H
     obtain rfl := Option.some.inj H
     go_wp2
     repeat (go_quiet (fail); try go_wp2)
     go_ret
     exact ⟨_, by first | rfl | (simp [errW_none, errW_some] <;> rfl) | (simp [*, errW_none, errW_some] <;> rfl), Kd.V_mono (Kd.R_V (by (with_reducible repeat (first | apply Kd.R_alloc | apply Kd.R_drewN | apply Kd.R_drew)); exact Kd.R_mono HO_5.out (fun _ hk => hk.1))) (fun k_ hk => by first | exact ⟨(.inr (hk.1)), hk.2⟩ | exact (.inr (hk))), bl1 HB GE144⟩
    replace c36 := Bool.eq_false_iff.mpr c36
    subst c36
    rw [if_neg (show ¬ (false = true) by decide)] at H
    by_cases c37 : x5_2.length < 8796093022208
    rotate_left
    ·rw [if_neg c37] at H
     exact absurd H (by simp)
    rw [if_pos c37] at H
    have LMc37 := ak c37
    clear c37
    obtain ⟨y150, hy150⟩ : ∃ y_ : List (S35), y_ = (x5_2 ++ [(⟨a1_0, a1_1⟩ : S35)]) := ⟨_, rfl⟩
    replace H : (some y150) = some r := by first | (rw [hy150]; with_reducible exact H) | (have H2_ := (Option.bind_some _ _).symm.trans H; rw [hy150]; with_reducible exact H2_) | (have H2_ := (Option.bind_some _ _).symm.trans H; with_reducible exact H2_) | with_reducible exact H | (rw [hy150]; exact H) | exact H
    have Ny150 := ak hy150
    clear hy150
    obtain rfl := Option.some.inj H
    have hcz38_0 := bc wr BK144 0 (.int .i64 a1_0) rfl
    have hcz38_1 := bc wr BK144 1 (.int .i64 a1_1) rfl
    have hfz38_0 := fz BK144 0
    have hfz38_1 := fz BK144 1
    go_wp2_with (first | ((with_reducible refine gate_builtin (b := .append) (xs := #[.tmp 84, .tmp 86]) rfl ?_); at_builtin; refine Kd.R_append k35 (w0 := w) w.heap.size rfl (.tmp 84) (.tmp 86) 30 35 (.agg #[(.int .i64 0), (.int .i64 0)]) 16 rfl Try.underlying30 info35 rfl (by decide) (by omega) u5 x5_2 (⟨a1_0, a1_1⟩ : S35) [.int .i64 a1_0, .int .i64 a1_1] (fun k_ => (w.heap.size ≤ k_) ∧ k_ ≠ gb144) (fun _ => False) rfl rfl ?aP (fun _ hk => hk.elim) ?aF ?aO ?aB ?aS ?aL ?_; (case aP => exact k35_mkM _ _ _ (⟨a1_0, a1_1⟩ : S35)); (case aB => exact (bl1 HB GE144)); (case aF => exact (fun k_ hk => ⟨(Nat.le_trans (below_size (bl1 HB GE144)) hk), Kd.freshB (bk BK144) k_ hk⟩)); (case aO => exact (rk HO_5)); (case aS => exact (below_size (bl1 HB GE144))); (case aL => have := LMc37.out; omega); intro v151 w39 ho hb hg hat; rw [← Ny150.out] at ho; have n0_ := ak (Kd.V_afterv (ok := (fun k_ => (P0_ k_ ∨ w.heap.size ≤ k_) ∧ k_ ≠ gb144)) (by (with_reducible repeat (first | apply Kd.V_alloc | apply Kd.V_drewN | apply Kd.V_drew)); exact Kd.V_mono HO_0.out (fun _ hk => ⟨⟨hk.1, hk.2.2⟩, hk.2.1⟩)) hg hat); have n1_ := ak (blk_grown (bk BK144) hg (Kd.R_away HO_5.out (fun _ hk => hk.2))); have n2_ := ak (hb); have n3_ := ak (ho); clear HO_0; clear BK144; clear HB; clear HO_5; have HO_0 := n0_; have BK144 := n1_; have HB := n2_; have HO152 := n3_; clear n0_ n1_ n2_ n3_; clear ho hb hg hat) | go_values | go_skip | go_guarded | go_step | go_upon | go_back | go_quiet (first | ((with_reducible refine gate_builtin (b := .append) (xs := #[.tmp 84, .tmp 86]) rfl ?_); at_builtin; refine Kd.R_append k35 (w0 := w) w.heap.size rfl (.tmp 84) (.tmp 86) 30 35 (.agg #[(.int .i64 0), (.int .i64 0)]) 16 rfl Try.underlying30 info35 rfl (by decide) (by omega) u5 x5_2 (⟨a1_0, a1_1⟩ : S35) [.int .i64 a1_0, .int .i64 a1_1] (fun k_ => (w.heap.size ≤ k_) ∧ k_ ≠ gb144) (fun _ => False) rfl rfl ?aP (fun _ hk => hk.elim) ?aF ?aO ?aB ?aS ?aL ?_; (case aP => exact k35_mkM _ _ _ (⟨a1_0, a1_1⟩ : S35)); (case aB => exact (bl1 HB GE144)); (case aF => exact (fun k_ hk => ⟨(Nat.le_trans (below_size (bl1 HB GE144)) hk), Kd.freshB (bk BK144) k_ hk⟩)); (case aO => exact (rk HO_5)); (case aS => exact (below_size (bl1 HB GE144))); (case aL => have := LMc37.out; omega); intro v151 w39 ho hb hg hat; rw [← Ny150.out] at ho; have n0_ := ak (Kd.V_afterv (ok := (fun k_ => (P0_ k_ ∨ w.heap.size ≤ k_) ∧ k_ ≠ gb144)) (by (with_reducible repeat (first | apply Kd.V_alloc | apply Kd.V_drewN | apply Kd.V_drew)); exact Kd.V_mono HO_0.out (fun _ hk => ⟨⟨hk.1, hk.2.2⟩, hk.2.1⟩)) hg hat); have n1_ := ak (blk_grown (bk BK144) hg (Kd.R_away HO_5.out (fun _ hk => hk.2))); have n2_ := ak (hb); have n3_ := ak (ho); clear HO_0; clear BK144; clear HB; clear HO_5; have HO_0 := n0_; have BK144 := n1_; have HB := n2_; have HO152 := n3_; clear n0_ n1_ n2_ n3_; clear ho hb hg hat)))
    go_ret
    exact ⟨_, by first | rfl | (simp [errW_none, errW_some] <;> rfl) | (simp [*, errW_none, errW_some] <;> rfl), Kd.V_mono (Kd.R_V (by (with_reducible repeat (first | apply Kd.R_alloc | apply Kd.R_drewN | apply Kd.R_drew)); exact Kd.R_mono HO152.out (fun _ hk => hk.1))) (fun k_ hk => by first | exact ⟨(.inr (hk.1)), hk.2⟩ | exact (.inr (hk))), bl1 HB GE144⟩
   rw [if_pos c13] at H
   have c13b0 : decide (x8_2 < (l0.length : Int)) = true := decide_eq_true c13
   clear c13
   have HC14 := ak H
   clear H
   go_upto_region 11 with (fail)
   repeat (go_quiet (fail); go_upto_region 11 with (fail))
   go_cut [58] (fun v58 wc => ∃ (kq : Nat) (x58_13 : Bool), v58 = .bool x58_13 ∧ Aside0 (spec_l19Put.j2 kq l0 x5_2 x7_2 x8_2 x58_13 a1_0 a1_1 = some r) ∧ Aside0 (kq ≤ k2) ∧ Aside0 (Kd.V k35 35 wc w.heap.size (fun k_ => (P0_ k_ ∨ w.heap.size ≤ k_) ∧ some k_ ≠ (u5 : Value).ownBlock ∧ k_ ≠ gb144) (.slice A0 l0.length c0) l0) ∧ Aside0 (Kd.R k35 35 wc w.heap.size (fun k_ => (w.heap.size ≤ k_) ∧ k_ ≠ gb144) u5 x5_2) ∧ Aside0 (wc.heap[gb144]? = some (.cells #[.int .i64 a1_0, .int .i64 a1_1] 35 (0, 0))) ∧ Aside0 (Below w.heap.size w wc))
   case first =>
    have H := HC14.out
    clear HC14
    by_cases c15 : 0 ≤ x8_2
    rotate_left
    ·rw [if_neg c15] at H
     exact absurd H (by simp)
    rw [if_pos c15] at H
    have c15b0 : decide (0 ≤ x8_2) = true := decide_eq_true c15
    clear c15
    (first | rw [c15b0] | (simp only [i64_w, i32_w]; rw [c15b0]) | skip)
    by_cases c16 : ((rd_T35 l0 x8_2).f0) ≥ a1_0
    rotate_left
    ·rw [if_neg c16] at H
     have c16b0 : decide (a1_0 ≤ ((rd_T35 l0 x8_2).f0)) = false := decide_eq_false c16
     clear c16
     have H' := ak H
     clear H
     have p153 : 0 ≤ (x8_2 : Int) := oT (by first | (with_reducible assumption) | assumption)
     have q153 : x8_2 < (l0.length : Int) := oT (by first | (with_reducible assumption) | assumption)
     obtain ⟨ad153, e153, hx153_0, hx153_1⟩ := at_T35 (Kd.V_reads' HO_0.out).2.2 x8_2 p153 q153
     cases e153
     replace p153 := eq_true p153
     replace q153 := eq_true q153
     have hcz18_0 := bc wr BK144 0 (.int .i64 a1_0) rfl
     have hcz18_1 := bc wr BK144 1 (.int .i64 a1_1) rfl
     have hfz18_0 := fz BK144 0
     have hfz18_1 := fz BK144 1
     go_wp2
     repeat (go_quiet (fail); try go_wp2)
     go_meet
     case rel => exact ⟨_, (false), (by first | rfl | (simp; done) | (simp [*]; done)), H', ⟨by have := HK1.out; have := HK2.out; first | omega | exact Nat.le_refl _⟩, ⟨by (with_reducible repeat (first | apply Kd.V_alloc | apply Kd.V_drewN | apply Kd.V_drew)); exact HO_0.out⟩, ⟨rk HO_5⟩, ⟨bk BK144⟩, ⟨bl1 HB GE144⟩⟩
    rw [if_pos c16] at H
    have c16b0 : decide (a1_0 ≤ ((rd_T35 l0 x8_2).f0)) = true := decide_eq_true c16
    clear c16
    have H' := ak H
    clear H
    have p153 : 0 ≤ (x8_2 : Int) := oT (by first | (with_reducible assumption) | assumption)
    have q153 : x8_2 < (l0.length : Int) := oT (by first | (with_reducible assumption) | assumption)
    obtain ⟨ad153, e153, hx153_0, hx153_1⟩ := at_T35 (Kd.V_reads' HO_0.out).2.2 x8_2 p153 q153
    cases e153
    replace p153 := eq_true p153
    replace q153 := eq_true q153
    have hcz17_0 := bc wr BK144 0 (.int .i64 a1_0) rfl
    have hcz17_1 := bc wr BK144 1 (.int .i64 a1_1) rfl
    have hfz17_0 := fz BK144 0
    have hfz17_1 := fz BK144 1
    have p154 : 0 ≤ (x8_2 : Int) := oT (by first | (with_reducible assumption) | assumption)
    have q154 : x8_2 < (l0.length : Int) := oT (by first | (with_reducible assumption) | assumption)
    obtain ⟨ad154, e154, hx154_0, hx154_1⟩ := at_T35 (Kd.V_reads' HO_0.out).2.2 x8_2 p154 q154
    obtain rfl : ad153 = ad154 := (by injection e154)
    replace p154 := eq_true p154
    replace q154 := eq_true q154
    go_wp2
    repeat (go_quiet (fail); try go_wp2)
    go_meet
    case rel => exact ⟨_, (decide (((rd_T35 l0 x8_2).f1) ≥ a1_1)), (by first | rfl | (simp; done) | (simp [*]; done)), H', ⟨by have := HK1.out; have := HK2.out; first | omega | exact Nat.le_refl _⟩, ⟨by (with_reducible repeat (first | apply Kd.V_alloc | apply Kd.V_drewN | apply Kd.V_drew)); exact HO_0.out⟩, ⟨rk HO_5⟩, ⟨bk BK144⟩, ⟨bl1 HB GE144⟩⟩
   clear HC14
   try clear c1
   try clear p1
   try clear q1
   try clear hx1
   try clear p2
   try clear c6
   try clear c6b0
   try clear p6
   try clear c7
   try clear c7b0
   try clear c8
   try clear c8b0
   try clear c9
   try clear c9b0
   try clear c13
   try clear c13b0
   try clear p14
   try clear q14
   try clear hx14
   try clear c15
   try clear c15b0
   try clear p15
   try clear q15
   try clear hx15
   try clear c16
   try clear c16b0
   try clear hcz10_0
   try clear hcz10_1
   try clear hcz11_0
   try clear hcz11_1
   try clear hcz12_0
   try clear hcz12_1
   try clear hcz17_0
   try clear hcz17_1
   try clear hcz18_0
   try clear hcz18_1
   try clear hfz10_0
   try clear hfz10_1
   try clear hfz11_0
   try clear hfz11_1
   try clear hfz12_0
   try clear hfz12_1
   try clear hfz17_0
   try clear hfz17_1
   try clear hfz18_0
   try clear hfz18_1
   try clear hx148_0
   try clear hx148_1
   try clear hx149_0
   try clear hx149_1
   try clear hx153_0
   try clear hx153_1
   try clear hx154_0
   try clear hx154_1
   try clear p1
   try clear p148
   try clear p149
   try clear p153
   try clear p154
   try clear p2
   try clear p6
   try clear q1
   try clear q148
   try clear q149
   try clear q153
   try clear q154
   obtain ⟨kq, x58_13, rfl, HA, HJ13, HO_0, HO_5, BK144, HB⟩ := hcut
   cases kq with
   | zero => exact absurd HA.out (by simp [spec_l19Put.j2])
   | succ kj13 =>
    have H := HA.out
    clear HA
    simp only [spec_l19Put.j2] at H
    by_cases c19 : x58_13 = true
    ·subst c19
     rw [if_pos rfl] at H
     have H' := ak H
     clear H
     go_wp2
     repeat (go_quiet (fail); try go_wp2)
     go_roundg kj13
     case measure => have := HK1.out; have := HK2.out; have := HJ13.out; omega
     case rel => exact ⟨(x5_2), (x7_2), (wrap64 (x8_2 + 1)), (by first | rfl | (simp; done) | (simp [*]; done)), (by first | rfl | (simp; done) | (simp [*]; done)), H', ⟨by have := HK1.out; have := HK2.out; have := HJ13.out; omega⟩, ⟨by (with_reducible repeat (first | apply Kd.V_alloc | apply Kd.V_drewN | apply Kd.V_drew)); exact HO_0.out⟩, ⟨rk HO_5⟩, ⟨bk BK144⟩, ⟨bl1 HB GE144⟩⟩
    replace c19 := Bool.eq_false_iff.mpr c19
    subst c19
    rw [if_neg (show ¬ (false = true) by decide)] at H
    by_cases c20 : x7_2 = true
    ·subst c20
     rw [if_pos rfl] at H
     by_cases c21 : 0 ≤ x8_2
     rotate_left
     ·rw [if_neg c21] at H
      exact absurd H (by simp)
     rw [if_pos c21] at H
     have c21b0 : decide (0 ≤ x8_2) = true := decide_eq_true c21
     clear c21
     by_cases c22 : x8_2 < (l0.length : Int)
     rotate_left
     ·rw [if_neg c22] at H
      exact absurd H (by simp)
     rw [if_pos c22] at H
     have c22b0 : decide (x8_2 < (l0.length : Int)) = true := decide_eq_true c22
     clear c22
     by_cases c23 : x5_2.length < 8796093022208
     rotate_left
     ·rw [if_neg c23] at H
      exact absurd H (by simp)
     rw [if_pos c23] at H
     have LMc23 := ak c23
     clear c23
     obtain ⟨y156, hy156⟩ : ∃ y_ : List (S35), y_ = (x5_2 ++ [(⟨(rd_T35 l0 x8_2).f0, (rd_T35 l0 x8_2).f1⟩ : S35)]) := ⟨_, rfl⟩
     replace H : (spec_l19Put.l1 kj13 l0 y156 true (wrap64 (x8_2 + 1)) a1_0 a1_1) = some r := by first | (rw [hy156]; with_reducible exact H) | (have H2_ := (Option.bind_some _ _).symm.trans H; rw [hy156]; with_reducible exact H2_) | (have H2_ := (Option.bind_some _ _).symm.trans H; with_reducible exact H2_) | with_reducible exact H | (rw [hy156]; exact H) | exact H
     have Ny156 := ak hy156
     clear hy156
     have H' := ak H
     clear H
     have p155 : 0 ≤ (x8_2 : Int) := oT (by first | (with_reducible assumption) | assumption)
     have q155 : x8_2 < (l0.length : Int) := oT (by first | (with_reducible assumption) | assumption)
     obtain ⟨ad155, e155, hx155_0, hx155_1⟩ := at_T35 (Kd.V_reads' HO_0.out).2.2 x8_2 p155 q155
     cases e155
     replace p155 := eq_true p155
     replace q155 := eq_true q155
     go_wp2_with (first | ((with_reducible refine gate_builtin (b := .append) (xs := #[.tmp 75, .tmp 80]) rfl ?_); at_builtin; refine Kd.R_append k35 (w0 := w) w.heap.size rfl (.tmp 75) (.tmp 80) 30 35 (.agg #[(.int .i64 0), (.int .i64 0)]) 16 rfl Try.underlying30 info35 rfl (by decide) (by omega) u5 x5_2 (⟨(rd_T35 l0 x8_2).f0, (rd_T35 l0 x8_2).f1⟩ : S35) [.int .i64 ((rd_T35 l0 x8_2).f0), .int .i64 ((rd_T35 l0 x8_2).f1)] (fun k_ => (w.heap.size ≤ k_) ∧ k_ ≠ gb144) (fun _ => False) rfl rfl ?aP (fun _ hk => hk.elim) ?aF ?aO ?aB ?aS ?aL ?_; (case aP => exact k35_mkM _ _ _ (⟨(rd_T35 l0 x8_2).f0, (rd_T35 l0 x8_2).f1⟩ : S35)); (case aB => exact (bl1 HB GE144)); (case aF => exact (fun k_ hk => ⟨(Nat.le_trans (below_size (bl1 HB GE144)) hk), Kd.freshB (bk BK144) k_ hk⟩)); (case aO => exact (rk HO_5)); (case aS => exact (below_size (bl1 HB GE144))); (case aL => have := LMc23.out; omega); intro v157 w24 ho hb hg hat; rw [← Ny156.out] at ho; have n0_ := ak (Kd.V_afterv (ok := (fun k_ => (P0_ k_ ∨ w.heap.size ≤ k_) ∧ k_ ≠ gb144)) (by (with_reducible repeat (first | apply Kd.V_alloc | apply Kd.V_drewN | apply Kd.V_drew)); exact Kd.V_mono HO_0.out (fun _ hk => ⟨⟨hk.1, hk.2.2⟩, hk.2.1⟩)) hg hat); have n1_ := ak (blk_grown (bk BK144) hg (Kd.R_away HO_5.out (fun _ hk => hk.2))); have n2_ := ak (hb); have n3_ := ak (ho); clear HO_0; clear BK144; clear HB; clear HO_5; have HO_0 := n0_; have BK144 := n1_; have HB := n2_; have HO158 := n3_; clear n0_ n1_ n2_ n3_; clear ho hb hg hat) | go_values | go_skip | go_guarded | go_step | go_upon | go_back | go_quiet (first | ((with_reducible refine gate_builtin (b := .append) (xs := #[.tmp 75, .tmp 80]) rfl ?_); at_builtin; refine Kd.R_append k35 (w0 := w) w.heap.size rfl (.tmp 75) (.tmp 80) 30 35 (.agg #[(.int .i64 0), (.int .i64 0)]) 16 rfl Try.underlying30 info35 rfl (by decide) (by omega) u5 x5_2 (⟨(rd_T35 l0 x8_2).f0, (rd_T35 l0 x8_2).f1⟩ : S35) [.int .i64 ((rd_T35 l0 x8_2).f0), .int .i64 ((rd_T35 l0 x8_2).f1)] (fun k_ => (w.heap.size ≤ k_) ∧ k_ ≠ gb144) (fun _ => False) rfl rfl ?aP (fun _ hk => hk.elim) ?aF ?aO ?aB ?aS ?aL ?_; (case aP => exact k35_mkM _ _ _ (⟨(rd_T35 l0 x8_2).f0, (rd_T35 l0 x8_2).f1⟩ : S35)); (case aB => exact (bl1 HB GE144)); (case aF => exact (fun k_ hk => ⟨(Nat.le_trans (below_size (bl1 HB GE144)) hk), Kd.freshB (bk BK144) k_ hk⟩)); (case aO => exact (rk HO_5)); (case aS => exact (below_size (bl1 HB GE144))); (case aL => have := LMc23.out; omega); intro v157 w24 ho hb hg hat; rw [← Ny156.out] at ho; have n0_ := ak (Kd.V_afterv (ok := (fun k_ => (P0_ k_ ∨ w.heap.size ≤ k_) ∧ k_ ≠ gb144)) (by (with_reducible repeat (first | apply Kd.V_alloc | apply Kd.V_drewN | apply Kd.V_drew)); exact Kd.V_mono HO_0.out (fun _ hk => ⟨⟨hk.1, hk.2.2⟩, hk.2.1⟩)) hg hat); have n1_ := ak (blk_grown (bk BK144) hg (Kd.R_away HO_5.out (fun _ hk => hk.2))); have n2_ := ak (hb); have n3_ := ak (ho); clear HO_0; clear BK144; clear HB; clear HO_5; have HO_0 := n0_; have BK144 := n1_; have HB := n2_; have HO158 := n3_; clear n0_ n1_ n2_ n3_; clear ho hb hg hat)))
     go_roundg kj13
     case measure => have := HK1.out; have := HK2.out; have := HJ13.out; omega
     case rel => exact ⟨(y156), (true), (wrap64 (x8_2 + 1)), (by first | rfl | (simp; done) | (simp [*]; done)), (by first | rfl | (simp; done) | (simp [*]; done)), H', ⟨by have := HK1.out; have := HK2.out; have := HJ13.out; omega⟩, ⟨by (with_reducible repeat (first | apply Kd.V_alloc | apply Kd.V_drewN | apply Kd.V_drew)); exact Kd.V_mono HO_0.out (fun _ hk => ⟨hk.1.1, ⟨hk.2, hk.1.2⟩⟩)⟩, ⟨rk HO158⟩, ⟨bk BK144⟩, ⟨bl1 HB GE144⟩⟩
    replace c20 := Bool.eq_false_iff.mpr c20
    subst c20
    rw [if_neg (show ¬ (false = true) by decide)] at H
    by_cases c25 : 0 ≤ x8_2
    rotate_left
    ·rw [if_neg c25] at H
     exact absurd H (by simp)
    rw [if_pos c25] at H
    have c25b0 : decide (0 ≤ x8_2) = true := decide_eq_true c25
    clear c25
    by_cases c26 : x8_2 < (l0.length : Int)
    rotate_left
    ·rw [if_neg c26] at H
     exact absurd H (by simp)
    rw [if_pos c26] at H
    have c26b0 : decide (x8_2 < (l0.length : Int)) = true := decide_eq_true c26
    clear c26
    by_cases c27 : ((rd_T35 l0 x8_2).f0) > a1_0
    rotate_left
    ·rw [if_neg c27] at H
     have c27b0 : decide (a1_0 < ((rd_T35 l0 x8_2).f0)) = false := decide_eq_false c27
     clear c27
     by_cases c33 : x5_2.length < 8796093022208
     rotate_left
     ·rw [if_neg c33] at H
      exact absurd H (by simp)
     rw [if_pos c33] at H
     have LMc33 := ak c33
     clear c33
     obtain ⟨y168, hy168⟩ : ∃ y_ : List (S35), y_ = (x5_2 ++ [(⟨(rd_T35 l0 x8_2).f0, (rd_T35 l0 x8_2).f1⟩ : S35)]) := ⟨_, rfl⟩
     replace H : (spec_l19Put.l1 kj13 l0 y168 false (wrap64 (x8_2 + 1)) a1_0 a1_1) = some r := by first | (rw [hy168]; with_reducible exact H) | (have H2_ := (Option.bind_some _ _).symm.trans H; rw [hy168]; with_reducible exact H2_) | (have H2_ := (Option.bind_some _ _).symm.trans H; with_reducible exact H2_) | with_reducible exact H | (rw [hy168]; exact H) | exact H
     have Ny168 := ak hy168
     clear hy168
     have H' := ak H
     clear H
     have p159 : 0 ≤ (x8_2 : Int) := oT (by first | (with_reducible assumption) | assumption)
     have q159 : x8_2 < (l0.length : Int) := oT (by first | (with_reducible assumption) | assumption)
     obtain ⟨ad159, e159, hx159_0, hx159_1⟩ := at_T35 (Kd.V_reads' HO_0.out).2.2 x8_2 p159 q159
     cases e159
     replace p159 := eq_true p159
     replace q159 := eq_true q159
     have hcz34_0 := bc wc BK144 0 (.int .i64 a1_0) rfl
     have hcz34_1 := bc wc BK144 1 (.int .i64 a1_1) rfl
     have hfz34_0 := fz BK144 0
     have hfz34_1 := fz BK144 1
     have p167 : 0 ≤ (x8_2 : Int) := oT (by first | (with_reducible assumption) | assumption)
     have q167 : x8_2 < (l0.length : Int) := oT (by first | (with_reducible assumption) | assumption)
     obtain ⟨ad167, e167, hx167_0, hx167_1⟩ := at_T35 (Kd.V_reads' HO_0.out).2.2 x8_2 p167 q167
     obtain rfl : ad159 = ad167 := (by injection e167)
     replace p167 := eq_true p167
     replace q167 := eq_true q167
     go_wp2_with (first | ((with_reducible refine gate_builtin (b := .append) (xs := #[.tmp 75, .tmp 80]) rfl ?_); at_builtin; refine Kd.R_append k35 (w0 := w) w.heap.size rfl (.tmp 75) (.tmp 80) 30 35 (.agg #[(.int .i64 0), (.int .i64 0)]) 16 rfl Try.underlying30 info35 rfl (by decide) (by omega) u5 x5_2 (⟨(rd_T35 l0 x8_2).f0, (rd_T35 l0 x8_2).f1⟩ : S35) [.int .i64 ((rd_T35 l0 x8_2).f0), .int .i64 ((rd_T35 l0 x8_2).f1)] (fun k_ => (w.heap.size ≤ k_) ∧ k_ ≠ gb144) (fun _ => False) rfl rfl ?aP (fun _ hk => hk.elim) ?aF ?aO ?aB ?aS ?aL ?_; (case aP => exact k35_mkM _ _ _ (⟨(rd_T35 l0 x8_2).f0, (rd_T35 l0 x8_2).f1⟩ : S35)); (case aB => exact (bl1 HB GE144)); (case aF => exact (fun k_ hk => ⟨(Nat.le_trans (below_size (bl1 HB GE144)) hk), Kd.freshB (bk BK144) k_ hk⟩)); (case aO => exact (rk HO_5)); (case aS => exact (below_size (bl1 HB GE144))); (case aL => have := LMc33.out; omega); intro v169 w35 ho hb hg hat; rw [← Ny168.out] at ho; have n0_ := ak (Kd.V_afterv (ok := (fun k_ => (P0_ k_ ∨ w.heap.size ≤ k_) ∧ k_ ≠ gb144)) (by (with_reducible repeat (first | apply Kd.V_alloc | apply Kd.V_drewN | apply Kd.V_drew)); exact Kd.V_mono HO_0.out (fun _ hk => ⟨⟨hk.1, hk.2.2⟩, hk.2.1⟩)) hg hat); have n1_ := ak (blk_grown (bk BK144) hg (Kd.R_away HO_5.out (fun _ hk => hk.2))); have n2_ := ak (hb); have n3_ := ak (ho); clear HO_0; clear BK144; clear HB; clear HO_5; have HO_0 := n0_; have BK144 := n1_; have HB := n2_; have HO170 := n3_; clear n0_ n1_ n2_ n3_; clear ho hb hg hat) | go_values | go_skip | go_guarded | go_step | go_upon | go_back | go_quiet (first | ((with_reducible refine gate_builtin (b := .append) (xs := #[.tmp 75, .tmp 80]) rfl ?_); at_builtin; refine Kd.R_append k35 (w0 := w) w.heap.size rfl (.tmp 75) (.tmp 80) 30 35 (.agg #[(.int .i64 0), (.int .i64 0)]) 16 rfl Try.underlying30 info35 rfl (by decide) (by omega) u5 x5_2 (⟨(rd_T35 l0 x8_2).f0, (rd_T35 l0 x8_2).f1⟩ : S35) [.int .i64 ((rd_T35 l0 x8_2).f0), .int .i64 ((rd_T35 l0 x8_2).f1)] (fun k_ => (w.heap.size ≤ k_) ∧ k_ ≠ gb144) (fun _ => False) rfl rfl ?aP (fun _ hk => hk.elim) ?aF ?aO ?aB ?aS ?aL ?_; (case aP => exact k35_mkM _ _ _ (⟨(rd_T35 l0 x8_2).f0, (rd_T35 l0 x8_2).f1⟩ : S35)); (case aB => exact (bl1 HB GE144)); (case aF => exact (fun k_ hk => ⟨(Nat.le_trans (below_size (bl1 HB GE144)) hk), Kd.freshB (bk BK144) k_ hk⟩)); (case aO => exact (rk HO_5)); (case aS => exact (below_size (bl1 HB GE144))); (case aL => have := LMc33.out; omega); intro v169 w35 ho hb hg hat; rw [← Ny168.out] at ho; have n0_ := ak (Kd.V_afterv (ok := (fun k_ => (P0_ k_ ∨ w.heap.size ≤ k_) ∧ k_ ≠ gb144)) (by (with_reducible repeat (first | apply Kd.V_alloc | apply Kd.V_drewN | apply Kd.V_drew)); exact Kd.V_mono HO_0.out (fun _ hk => ⟨⟨hk.1, hk.2.2⟩, hk.2.1⟩)) hg hat); have n1_ := ak (blk_grown (bk BK144) hg (Kd.R_away HO_5.out (fun _ hk => hk.2))); have n2_ := ak (hb); have n3_ := ak (ho); clear HO_0; clear BK144; clear HB; clear HO_5; have HO_0 := n0_; have BK144 := n1_; have HB := n2_; have HO170 := n3_; clear n0_ n1_ n2_ n3_; clear ho hb hg hat)))
     go_roundg kj13
     case measure => have := HK1.out; have := HK2.out; have := HJ13.out; omega
     case rel => exact ⟨(y168), (false), (wrap64 (x8_2 + 1)), (by first | rfl | (simp; done) | (simp [*]; done)), (by first | rfl | (simp; done) | (simp [*]; done)), H', ⟨by have := HK1.out; have := HK2.out; have := HJ13.out; omega⟩, ⟨by (with_reducible repeat (first | apply Kd.V_alloc | apply Kd.V_drewN | apply Kd.V_drew)); exact Kd.V_mono HO_0.out (fun _ hk => ⟨hk.1.1, ⟨hk.2, hk.1.2⟩⟩)⟩, ⟨rk HO170⟩, ⟨bk BK144⟩, ⟨bl1 HB GE144⟩⟩
    rw [if_pos c27] at H
    have c27b0 : decide (a1_0 < ((rd_T35 l0 x8_2).f0)) = true := decide_eq_true c27
    clear c27
    by_cases c28 : x5_2.length < 8796093022208
    rotate_left
    ·rw [if_neg c28] at H
     exact absurd H (by simp)
    rw [if_pos c28] at H
    have LMc28 := ak c28
    clear c28
    obtain ⟨y160, hy160⟩ : ∃ y_ : List (S35), y_ = (x5_2 ++ [(⟨a1_0, a1_1⟩ : S35)]) := ⟨_, rfl⟩
    replace H : (if y160.length < 8796093022208 then (spec_l19Put.l1 kj13 l0 (y160 ++ [(⟨(rd_T35 l0 x8_2).f0, (rd_T35 l0 x8_2).f1⟩ : S35)]) true (wrap64 (x8_2 + 1)) a1_0 a1_1) else (none)) = some r := by first | (rw [hy160]; with_reducible exact H) | (have H2_ := (Option.bind_some _ _).symm.trans H; rw [hy160]; with_reducible exact H2_) | (have H2_ := (Option.bind_some _ _).symm.trans H; with_reducible exact H2_) | with_reducible exact H | (rw [hy160]; exact H) | exact H
    have Ny160 := ak hy160
    clear hy160
    by_cases c29 : y160.length < 8796093022208
    rotate_left
    ·rw [if_neg c29] at H
     exact absurd H (by simp)
    rw [if_pos c29] at H
    have LMc29 := ak c29
    clear c29
    obtain ⟨y164, hy164⟩ : ∃ y_ : List (S35), y_ = (y160 ++ [(⟨(rd_T35 l0 x8_2).f0, (rd_T35 l0 x8_2).f1⟩ : S35)]) := ⟨_, rfl⟩
    replace H : (spec_l19Put.l1 kj13 l0 y164 true (wrap64 (x8_2 + 1)) a1_0 a1_1) = some r := by first | (rw [hy164]; with_reducible exact H) | (have H2_ := (Option.bind_some _ _).symm.trans H; rw [hy164]; with_reducible exact H2_) | (have H2_ := (Option.bind_some _ _).symm.trans H; with_reducible exact H2_) | with_reducible exact H | (rw [hy164]; exact H) | exact H
    have Ny164 := ak hy164
    clear hy164
    have H' := ak H
    clear H
    have p159 : 0 ≤ (x8_2 : Int) := oT (by first | (with_reducible assumption) | assumption)
    have q159 : x8_2 < (l0.length : Int) := oT (by first | (with_reducible assumption) | assumption)
    obtain ⟨ad159, e159, hx159_0, hx159_1⟩ := at_T35 (Kd.V_reads' HO_0.out).2.2 x8_2 p159 q159
    cases e159
    replace p159 := eq_true p159
    replace q159 := eq_true q159
    have hcz30_0 := bc wc BK144 0 (.int .i64 a1_0) rfl
    have hcz30_1 := bc wc BK144 1 (.int .i64 a1_1) rfl
    have hfz30_0 := fz BK144 0
    have hfz30_1 := fz BK144 1
    go_wp2_with (first | ((with_reducible refine gate_builtin (b := .append) (xs := #[.tmp 71, .tmp 73]) rfl ?_); at_builtin; refine Kd.R_append k35 (w0 := w) w.heap.size rfl (.tmp 71) (.tmp 73) 30 35 (.agg #[(.int .i64 0), (.int .i64 0)]) 16 rfl Try.underlying30 info35 rfl (by decide) (by omega) u5 x5_2 (⟨a1_0, a1_1⟩ : S35) [.int .i64 a1_0, .int .i64 a1_1] (fun k_ => (w.heap.size ≤ k_) ∧ k_ ≠ gb144) (fun _ => False) rfl rfl ?aP (fun _ hk => hk.elim) ?aF ?aO ?aB ?aS ?aL ?_; (case aP => exact k35_mkM _ _ _ (⟨a1_0, a1_1⟩ : S35)); (case aB => exact (bl1 HB GE144)); (case aF => exact (fun k_ hk => ⟨(Nat.le_trans (below_size (bl1 HB GE144)) hk), Kd.freshB (bk BK144) k_ hk⟩)); (case aO => exact (rk HO_5)); (case aS => exact (below_size (bl1 HB GE144))); (case aL => have := LMc28.out; omega); intro v161 w31 ho hb hg hat; rw [← Ny160.out] at ho; have n0_ := ak (Kd.V_afterv (ok := (fun k_ => (P0_ k_ ∨ w.heap.size ≤ k_) ∧ k_ ≠ gb144)) (by (with_reducible repeat (first | apply Kd.V_alloc | apply Kd.V_drewN | apply Kd.V_drew)); exact Kd.V_mono HO_0.out (fun _ hk => ⟨⟨hk.1, hk.2.2⟩, hk.2.1⟩)) hg hat); have n1_ := ak (blk_grown (bk BK144) hg (Kd.R_away HO_5.out (fun _ hk => hk.2))); have n2_ := ak (hb); have n3_ := ak (ho); clear HO_0; clear BK144; clear HB; clear HO_5; have HO_0 := n0_; have BK144 := n1_; have HB := n2_; have HO162 := n3_; clear n0_ n1_ n2_ n3_; clear ho hb hg hat; have p163 : 0 ≤ (x8_2 : Int) := oT (by first | (with_reducible assumption) | assumption); have q163 : x8_2 < (l0.length : Int) := oT (by first | (with_reducible assumption) | assumption); obtain ⟨ad163, e163, hx163_0, hx163_1⟩ := at_T35 (Kd.V_reads' HO_0.out).2.2 x8_2 p163 q163; obtain rfl : ad159 = ad163 := (by injection e163); replace p163 := eq_true p163; replace q163 := eq_true q163) | ((with_reducible refine gate_builtin (b := .append) (xs := #[.tmp 75, .tmp 80]) rfl ?_); at_builtin; refine Kd.R_append k35 (w0 := w) w.heap.size rfl (.tmp 75) (.tmp 80) 30 35 (.agg #[(.int .i64 0), (.int .i64 0)]) 16 rfl Try.underlying30 info35 rfl (by decide) (by omega) v161 y160 (⟨(rd_T35 l0 x8_2).f0, (rd_T35 l0 x8_2).f1⟩ : S35) [.int .i64 ((rd_T35 l0 x8_2).f0), .int .i64 ((rd_T35 l0 x8_2).f1)] (fun k_ => (w.heap.size ≤ k_) ∧ k_ ≠ gb144) (fun _ => False) rfl rfl ?aP (fun _ hk => hk.elim) ?aF ?aO ?aB ?aS ?aL ?_; (case aP => exact k35_mkM _ _ _ (⟨(rd_T35 l0 x8_2).f0, (rd_T35 l0 x8_2).f1⟩ : S35)); (case aB => exact (bl1 HB GE144)); (case aF => exact (fun k_ hk => ⟨(Nat.le_trans (below_size (bl1 HB GE144)) hk), Kd.freshB (bk BK144) k_ hk⟩)); (case aO => exact (rk HO162)); (case aS => exact (below_size (bl1 HB GE144))); (case aL => have := LMc29.out; omega); intro v165 w32 ho hb hg hat; rw [← Ny164.out] at ho; have n0_ := ak (Kd.V_afterv (ok := (fun k_ => (P0_ k_ ∨ w.heap.size ≤ k_) ∧ k_ ≠ gb144)) (by (with_reducible repeat (first | apply Kd.V_alloc | apply Kd.V_drewN | apply Kd.V_drew)); exact HO_0.out) hg hat); have n1_ := ak (blk_grown (bk BK144) hg (Kd.R_away HO162.out (fun _ hk => hk.2))); have n2_ := ak (hb); have n3_ := ak (ho); clear HO_0; clear BK144; clear HB; clear HO162; have HO_0 := n0_; have BK144 := n1_; have HB := n2_; have HO166 := n3_; clear n0_ n1_ n2_ n3_; clear ho hb hg hat) | go_values | go_skip | go_guarded | go_step | go_upon | go_back | go_quiet (first | ((with_reducible refine gate_builtin (b := .append) (xs := #[.tmp 71, .tmp 73]) rfl ?_); at_builtin; refine Kd.R_append k35 (w0 := w) w.heap.size rfl (.tmp 71) (.tmp 73) 30 35 (.agg #[(.int .i64 0), (.int .i64 0)]) 16 rfl Try.underlying30 info35 rfl (by decide) (by omega) u5 x5_2 (⟨a1_0, a1_1⟩ : S35) [.int .i64 a1_0, .int .i64 a1_1] (fun k_ => (w.heap.size ≤ k_) ∧ k_ ≠ gb144) (fun _ => False) rfl rfl ?aP (fun _ hk => hk.elim) ?aF ?aO ?aB ?aS ?aL ?_; (case aP => exact k35_mkM _ _ _ (⟨a1_0, a1_1⟩ : S35)); (case aB => exact (bl1 HB GE144)); (case aF => exact (fun k_ hk => ⟨(Nat.le_trans (below_size (bl1 HB GE144)) hk), Kd.freshB (bk BK144) k_ hk⟩)); (case aO => exact (rk HO_5)); (case aS => exact (below_size (bl1 HB GE144))); (case aL => have := LMc28.out; omega); intro v161 w31 ho hb hg hat; rw [← Ny160.out] at ho; have n0_ := ak (Kd.V_afterv (ok := (fun k_ => (P0_ k_ ∨ w.heap.size ≤ k_) ∧ k_ ≠ gb144)) (by (with_reducible repeat (first | apply Kd.V_alloc | apply Kd.V_drewN | apply Kd.V_drew)); exact Kd.V_mono HO_0.out (fun _ hk => ⟨⟨hk.1, hk.2.2⟩, hk.2.1⟩)) hg hat); have n1_ := ak (blk_grown (bk BK144) hg (Kd.R_away HO_5.out (fun _ hk => hk.2))); have n2_ := ak (hb); have n3_ := ak (ho); clear HO_0; clear BK144; clear HB; clear HO_5; have HO_0 := n0_; have BK144 := n1_; have HB := n2_; have HO162 := n3_; clear n0_ n1_ n2_ n3_; clear ho hb hg hat; have p163 : 0 ≤ (x8_2 : Int) := oT (by first | (with_reducible assumption) | assumption); have q163 : x8_2 < (l0.length : Int) := oT (by first | (with_reducible assumption) | assumption); obtain ⟨ad163, e163, hx163_0, hx163_1⟩ := at_T35 (Kd.V_reads' HO_0.out).2.2 x8_2 p163 q163; obtain rfl : ad159 = ad163 := (by injection e163); replace p163 := eq_true p163; replace q163 := eq_true q163) | ((with_reducible refine gate_builtin (b := .append) (xs := #[.tmp 75, .tmp 80]) rfl ?_); at_builtin; refine Kd.R_append k35 (w0 := w) w.heap.size rfl (.tmp 75) (.tmp 80) 30 35 (.agg #[(.int .i64 0), (.int .i64 0)]) 16 rfl Try.underlying30 info35 rfl (by decide) (by omega) v161 y160 (⟨(rd_T35 l0 x8_2).f0, (rd_T35 l0 x8_2).f1⟩ : S35) [.int .i64 ((rd_T35 l0 x8_2).f0), .int .i64 ((rd_T35 l0 x8_2).f1)] (fun k_ => (w.heap.size ≤ k_) ∧ k_ ≠ gb144) (fun _ => False) rfl rfl ?aP (fun _ hk => hk.elim) ?aF ?aO ?aB ?aS ?aL ?_; (case aP => exact k35_mkM _ _ _ (⟨(rd_T35 l0 x8_2).f0, (rd_T35 l0 x8_2).f1⟩ : S35)); (case aB => exact (bl1 HB GE144)); (case aF => exact (fun k_ hk => ⟨(Nat.le_trans (below_size (bl1 HB GE144)) hk), Kd.freshB (bk BK144) k_ hk⟩)); (case aO => exact (rk HO162)); (case aS => exact (below_size (bl1 HB GE144))); (case aL => have := LMc29.out; omega); intro v165 w32 ho hb hg hat; rw [← Ny164.out] at ho; have n0_ := ak (Kd.V_afterv (ok := (fun k_ => (P0_ k_ ∨ w.heap.size ≤ k_) ∧ k_ ≠ gb144)) (by (with_reducible repeat (first | apply Kd.V_alloc | apply Kd.V_drewN | apply Kd.V_drew)); exact HO_0.out) hg hat); have n1_ := ak (blk_grown (bk BK144) hg (Kd.R_away HO162.out (fun _ hk => hk.2))); have n2_ := ak (hb); have n3_ := ak (ho); clear HO_0; clear BK144; clear HB; clear HO162; have HO_0 := n0_; have BK144 := n1_; have HB := n2_; have HO166 := n3_; clear n0_ n1_ n2_ n3_; clear ho hb hg hat)))
    go_roundg kj13
    case measure => have := HK1.out; have := HK2.out; have := HJ13.out; omega
    case rel => exact ⟨(y164), (true), (wrap64 (x8_2 + 1)), (by first | rfl | (simp; done) | (simp [*]; done)), (by first | rfl | (simp; done) | (simp [*]; done)), H', ⟨by have := HK1.out; have := HK2.out; have := HJ13.out; omega⟩, ⟨by (with_reducible repeat (first | apply Kd.V_alloc | apply Kd.V_drewN | apply Kd.V_drew)); exact Kd.V_mono HO_0.out (fun _ hk => ⟨hk.1.1, ⟨hk.2, hk.1.2⟩⟩)⟩, ⟨rk HO166⟩, ⟨bk BK144⟩, ⟨bl1 HB GE144⟩⟩

end Go.Proofs.Ytddkaiegnohkcaa.F
