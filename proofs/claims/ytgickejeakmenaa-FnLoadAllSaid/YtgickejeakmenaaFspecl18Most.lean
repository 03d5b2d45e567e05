-- Printed by wip/px/px.py of this claim's repository (the kit's printer, extended there). Lean checks it.
import Derived.Test.YtgickejeakmenaaFKinds
import Derived.Test.YtgickejeakmenaaFspecl3All
import Derived.Test.YtgickejeakmenaaFspecl18For
namespace Go.Proofs.Ytgickejeakmenaa.F
open Go.RowKit Go.Proofs.YtgickejeakmenaaW.PrintWords Go.Proofs.YtgickejeakmenaaW.PrintLast Go.Proofs.YtgickejeakmenaaW.PrintMore
attribute [local go_sem] max2_int min2_int max_two min_two max_three min_three max_four min_four   -- for this text's walks alone
set_option linter.unusedVariables false
set_option linter.unusedSimpArgs false

/-! ### spec_l18Most: function 63 -/
mutual
def spec_l18Most.l0 : Nat → Int → List Int → Int → Int → List (S41) → Option (List Int)
 | 0, _, _, _, _, _ => none
 | k + 1, x1, x5, x6, x337000, x337001 => if x6 < x337000 then (if 0 ≤ x6 then (if x6 < (x5.length : Int) then (spec_l18Most.l1 k x1 (x5.set (x6 : Int).toNat (-1)) x6 0 x337000 x337001) else (none)) else (none)) else (some x5)
def spec_l18Most.l1 : Nat → Int → List Int → Int → Int → Int → List (S41) → Option (List Int)
 | 0, _, _, _, _, _, _ => none
 | k + 1, x1, x5, x6, x7, x337000, x337001 => if x7 ≤ 9 then ((spec_l18For.f k x337000 x337001 x7).bind fun bt341 => ((spec_l3All.f k bt341.1 bt341.2 x1).bind fun t345 => (if 0 ≤ x6 then (if x6 < (t345.length : Int) then (if (rd t345 x6) < 99999 then (if x6 < (x5.length : Int) then (spec_l18Most.l1 k x1 (x5.set (x6 : Int).toNat x7) x6 (wrap64 (x7 + 1)) x337000 x337001) else (none)) else (spec_l18Most.l1 k x1 x5 x6 (wrap64 (x7 + 1)) x337000 x337001)) else (none)) else (none)))) else (spec_l18Most.l0 k x1 x5 (wrap64 (x6 + 1)) x337000 x337001)
end
def spec_l18Most.f (k : Nat) (a0_0 : Int) (l0_1 : List (S41)) (a1 : Int) : Option (List Int) := if 0 ≤ a0_0 then (if (a0_0 : Int).toNat ≤ 35184372088832 then (spec_l18Most.l0 k a1 (List.replicate (a0_0 : Int).toNat 0) 0 a0_0 l0_1) else (none)) else (none)
theorem spec_l18Most.mono_l : ∀ k, (∀ y0 y1 y2 y3 y4, LeO (spec_l18Most.l0 k y0 y1 y2 y3 y4) (spec_l18Most.l0 (k + 1) y0 y1 y2 y3 y4)) ∧ (∀ y0 y1 y2 y3 y4 y5, LeO (spec_l18Most.l1 k y0 y1 y2 y3 y4 y5) (spec_l18Most.l1 (k + 1) y0 y1 y2 y3 y4 y5))
 | 0 => ⟨fun _ _ _ _ _ r h => by simp [spec_l18Most.l0] at h, fun _ _ _ _ _ _ r h => by simp [spec_l18Most.l1] at h⟩
 | k + 1 => by
  obtain ⟨ih0, ih1⟩ := spec_l18Most.mono_l k
  refine ⟨?_, ?_⟩
  ·intro y0 y1 y2 y3 y4
   unfold spec_l18Most.l0
   repeat' first
   | (with_reducible exact ih0 _ _ _ _ _)
   | (with_reducible exact ih1 _ _ _ _ _ _)
   | (with_reducible exact spec_l18For.mono _ _ _ _)
   | (with_reducible exact spec_l3All.mono _ _ _ _)
   | (with_reducible exact LeO.refl _)
   | (with_reducible exact LeO.none _)
   | (with_reducible refine LeO.ite ?_ ?_)
   | (with_reducible refine LeO.bind ?_ (fun _ => ?_))
   | exact ih0 _ _ _ _ _
   | exact ih1 _ _ _ _ _ _
   | exact spec_l18For.mono _ _ _ _
   | exact spec_l3All.mono _ _ _ _
   | exact LeO.none _
   | refine LeO.ite ?_ ?_
   | refine LeO.bind ?_ (fun _ => ?_)
  ·intro y0 y1 y2 y3 y4 y5
   unfold spec_l18Most.l1
   repeat' first
   | (with_reducible exact ih0 _ _ _ _ _)
   | (with_reducible exact ih1 _ _ _ _ _ _)
   | (with_reducible exact spec_l18For.mono _ _ _ _)
   | (with_reducible exact spec_l3All.mono _ _ _ _)
   | (with_reducible exact LeO.refl _)
   | (with_reducible exact LeO.none _)
   | (with_reducible refine LeO.ite ?_ ?_)
   | (with_reducible refine LeO.bind ?_ (fun _ => ?_))
   | exact ih0 _ _ _ _ _
   | exact ih1 _ _ _ _ _ _
   | exact spec_l18For.mono _ _ _ _
   | exact spec_l3All.mono _ _ _ _
   | exact LeO.none _
   | refine LeO.ite ?_ ?_
   | refine LeO.bind ?_ (fun _ => ?_)
theorem spec_l18Most.mono : ∀ a0 a1 a2 k, LeO (spec_l18Most.f k a0 a1 a2) (spec_l18Most.f (k + 1) a0 a1 a2) := by
 intro a0 a1 a2 k
 obtain ⟨ih0, ih1⟩ := spec_l18Most.mono_l k
 unfold spec_l18Most.f
 repeat' first
   | (with_reducible exact ih0 _ _ _ _ _)
   | (with_reducible exact ih1 _ _ _ _ _ _)
   | (with_reducible exact spec_l18For.mono _ _ _ _)
   | (with_reducible exact spec_l3All.mono _ _ _ _)
   | (with_reducible exact LeO.refl _)
   | (with_reducible exact LeO.none _)
   | (with_reducible refine LeO.ite ?_ ?_)
   | (with_reducible refine LeO.bind ?_ (fun _ => ?_))
   | exact ih0 _ _ _ _ _
   | exact ih1 _ _ _ _ _ _
   | exact spec_l18For.mono _ _ _ _
   | exact spec_l3All.mono _ _ _ _
   | exact LeO.none _
   | refine LeO.ite ?_ ?_
   | refine LeO.bind ?_ (fun _ => ?_)
set_option maxHeartbeats 8000000 in
set_option maxRecDepth 100000 in
theorem spec_l18Most.calls (k : Nat) (a0_0 : Int) (A0_1 : Option Addr) (c0_1 : Nat) (l0_1 : List (S41)) (a1 : Int) (r : List Int) (w : World) (hr0_1 : Kd.C k41 w A0_1 l0_1.length l0_1) (hc0_1 : l0_1.length ≤ c0_1) (h : spec_l18Most.f k a0_0 l0_1 a1 = some r) :
  Calls Try.prog 63 #[.agg #[.int .i64 a0_0, .slice A0_1 l0_1.length c0_1], .int .i64 a1] w fun e w' => ∃ v0_ : Value, e = .returned (v0_) ∧ Kd.R (Kd.int .i64) 3 w' w.heap.size (fun _ => True) v0_ r ∧ Below w.heap.size w w' := by
 have hu25 := Try.underlying25
 have HR0_1 := Aside0.mk hr0_1
 have HC0_1 := Aside0.mk hc0_1
 clear hr0_1 hc0_1
 have HB := Aside0.mk (Below.refl w.heap.size w)
 have H : (if 0 ≤ a0_0 then (if (a0_0 : Int).toNat ≤ 35184372088832 then (spec_l18Most.l0 k a1 (List.replicate (a0_0 : Int).toNat 0) 0 a0_0 l0_1) else (none)) else (none)) = some r := h
 clear h
 by_cases c3 : 0 ≤ a0_0
 rotate_left
 ·rw [if_neg c3] at H
  exact absurd H (by simp)
 rw [if_pos c3] at H
 have c3b0 := eq_true c3
 have c3b1 : decide (0 ≤ a0_0) = true := decide_eq_true c3
 clear c3
 by_cases c4 : (a0_0 : Int).toNat ≤ 35184372088832
 rotate_left
 ·rw [if_neg c4] at H
  exact absurd H (by simp)
 rw [if_pos c4] at H
 have c4b0 := eq_true c4
 have c4b1 : decide ((a0_0 : Int).toNat ≤ 35184372088832) = true := decide_eq_true c4
 clear c4
 obtain ⟨y337, hy337⟩ : ∃ y_ : List Int, y_ = (List.replicate (a0_0 : Int).toNat 0) := ⟨_, rfl⟩
 replace H : (spec_l18Most.l0 k a1 y337 0 a0_0 l0_1) = some r := by first | (rw [hy337]; with_reducible exact H) | (have H2_ := (Option.bind_some _ _).symm.trans H; rw [hy337]; with_reducible exact H2_) | (have H2_ := (Option.bind_some _ _).symm.trans H; with_reducible exact H2_) | with_reducible exact H | (rw [hy337]; exact H) | exact H
 have Ny337 := Aside0.mk hy337
 clear hy337
 have H' := Aside0.mk H
 clear H
 go_enter Try.func63, Try.ntmps63
 go_wp2_with (first | ((with_reducible refine gate_dst (N := 2) rfl ?_); refine box_event ?hg (N := 2) ?hd (cs := #[.int .i64 a0_0, .slice A0_1 l0_1.length c0_1]) (t := 25) ?hr ?_; (case hd => rfl); (case hg => rfl); (case hr => first | (go_simp; done) | (go_simp; rfl)); intro gb336 hg w5 hbox hb; have BK336 := Aside0.mk (hbox); have GW336 := Aside0.mk ((by rw [hg]; exact (below_size (bl HB)) : w.heap.size ≤ gb336)); have GE336 := Aside0.mk ((by rw [hg]; exact (below_size (bl HB)) : w.heap.size ≤ gb336)); replace HB := Aside0.mk (below_step (bl HB) hb); clear hb hbox hg; have hcz6_0 : w5.cell? ⟨gb336, 0, none⟩ = some (.int .i64 a0_0) := (blk_cell BK336.out 0).trans rfl; have hcz6_1 : w5.cell? ⟨gb336, 1, none⟩ = some (.slice A0_1 l0_1.length c0_1) := (blk_cell BK336.out 1).trans rfl; have hfz6_0 := blk_frozen BK336.out 0; have hfz6_1 := blk_frozen BK336.out 1) | ((with_reducible refine gate_dst (N := 10) rfl ?_); refine Kd.R_make (Kd.int .i64) _ 3 rfl (N := 10) rfl 26 _ _ rfl a0_0 rfl rfl Try.underlying26 (.int .i64 0) 8 info3 rfl (by decide) (by omega) 0 (ok := fun _ => True) (okp := fun _ => True) rfl (fun _ hk => hk) trivial (oT (by first | (with_reducible assumption) | assumption)) (Nat.le_trans (Nat.mul_le_mul_right _ (oT (by first | (with_reducible assumption) | assumption) : a0_0.toNat ≤ 35184372088832)) (by omega)) (Below.refl _ _) (Nat.le_refl _) ?_; intro v338 w7 ho8 hb hg_ hnew_; clear hg_ hnew_; (first | rw [← Ny337.out] at ho8 | (simp only [Int.reduceToNat] at ho8; rw [← Ny337.out] at ho8)); have HO339 := Aside0.mk (Kd.R_lower ho8 (below_size (bl1 HB GE336))); replace BK336 := Aside0.mk (blk_below (bk BK336) hb); replace HB := Aside0.mk (below_step (bl1 HB GE336) hb); clear hb ho8))
 go_loopg [6] k (fun kq v6 w' => ∃ (x5_1 : List Int) (x6_1 : Int), v6 = .int .i64 x6_1 ∧ Aside0 (spec_l18Most.l0 kq a1 x5_1 x6_1 a0_0 l0_1 = some r) ∧ Aside0 (kq ≤ k) ∧ Aside0 (Kd.R (Kd.int .i64) 3 w' w.heap.size (fun _ => True) v338 x5_1) ∧ Aside0 (w'.heap[gb336]? = some (.cells #[.int .i64 a0_0, (.slice A0_1 l0_1.length c0_1)] 25 (0, 0))) ∧ Aside0 (Below w.heap.size w w'))
 case atStart => exact ⟨(y337), (0), (by first | rfl | (simp; done) | (simp [*]; done)), H', ⟨Nat.le_refl _⟩, ⟨rk HO339⟩, ⟨bk BK336⟩, ⟨bl1 HB GE336⟩⟩
 clear H'
 try clear p2
 try clear c3
 try clear c3b0
 try clear c3b1
 try clear c4
 try clear c4b0
 try clear c4b1
 try clear c6
 try clear hcz6_0
 try clear hcz6_1
 try clear hfz6_0
 try clear hfz6_1
 obtain ⟨x5_1, x6_1, rfl, HA, HK1, HO_5, BK336, HB⟩ := hrel
 cases gk with
 | zero => exact absurd HA.out (by simp [spec_l18Most.l0])
 | succ k1 =>
  have H := HA.out
  clear HA
  simp only [spec_l18Most.l0] at H
  by_cases c9 : x6_1 < a0_0
  rotate_left
  ·rw [if_neg c9] at H
   have c9b0 : decide (x6_1 < a0_0) = false := decide_eq_false c9
   clear c9
   obtain rfl := Option.some.inj H
   have hcz36_0 : wr.cell? ⟨gb336, 0, none⟩ = some (.int .i64 a0_0) := (blk_cell BK336.out 0).trans rfl
   have hcz36_1 : wr.cell? ⟨gb336, 1, none⟩ = some (.slice A0_1 l0_1.length c0_1) := (blk_cell BK336.out 1).trans rfl
   have hfz36_0 := blk_frozen BK336.out 0
   have hfz36_1 := blk_frozen BK336.out 1
   go_wp2
   go_ret
   exact ⟨_, by first | rfl | (simp [errW_none, errW_some] <;> rfl) | (simp [*, errW_none, errW_some] <;> rfl), rk HO_5, bl1 HB GE336⟩
  rw [if_pos c9] at H
  have c9b0 : decide (x6_1 < a0_0) = true := decide_eq_true c9
  clear c9
  by_cases c10 : 0 ≤ x6_1
  rotate_left
  ·rw [if_neg c10] at H
   exact absurd H (by simp)
  rw [if_pos c10] at H
  have c10b0 : decide (0 ≤ x6_1) = true := decide_eq_true c10
  clear c10
  by_cases c11 : x6_1 < (x5_1.length : Int)
  rotate_left
  ·rw [if_neg c11] at H
   exact absurd H (by simp)
  rw [if_pos c11] at H
  have c11b0 : decide (x6_1 < (x5_1.length : Int)) = true := decide_eq_true c11
  clear c11
  obtain ⟨y340, hy340⟩ : ∃ y_ : List Int, y_ = (x5_1.set (x6_1 : Int).toNat (-1)) := ⟨_, rfl⟩
  replace H : (spec_l18Most.l1 k1 a1 y340 x6_1 0 a0_0 l0_1) = some r := by first | (rw [hy340]; with_reducible exact H) | (have H2_ := (Option.bind_some _ _).symm.trans H; rw [hy340]; with_reducible exact H2_) | (have H2_ := (Option.bind_some _ _).symm.trans H; with_reducible exact H2_) | with_reducible exact H | (rw [hy340]; exact H) | exact H
  have Ny340 := Aside0.mk hy340
  clear hy340
  have H' := Aside0.mk H
  clear H
  have hcz13_0 : wr.cell? ⟨gb336, 0, none⟩ = some (.int .i64 a0_0) := (blk_cell BK336.out 0).trans rfl
  have hcz13_1 : wr.cell? ⟨gb336, 1, none⟩ = some (.slice A0_1 l0_1.length c0_1) := (blk_cell BK336.out 1).trans rfl
  have hfz13_0 := blk_frozen BK336.out 0
  have hfz13_1 := blk_frozen BK336.out 1
  have p12 : 0 ≤ (x6_1 : Int) := oT (by first | (with_reducible assumption) | assumption)
  have q12 : (x6_1 : Int) < ((x5_1.length : Int) : Int) := oT (by first | (with_reducible assumption) | assumption)
  obtain ⟨go12, co12, eo12, gb12, gl12, cl12, HG12⟩ := Kd.R_form HO_5.out (by omega)
  (first | cases eo12 | (injection eo12 with ea_ en_ ec_; (first | subst ea_ | (injection ea_ with ea_; subst ea_)); subst ec_; clear en_))
  have GB12 := Aside0.mk gb12
  have GG12 := Aside0.mk HG12
  clear gb12 gl12 HG12
  obtain ⟨hx12_0, hf12_0⟩ := Kd.R_celln 0 HO_5.out (x6_1 : Int) p12 q12
  replace p12 := eq_true p12
  replace q12 := eq_true q12
  have HP14 := Kd.R_putg HO_5.out (x6_1 : Int) (-1)
  go_wp2_with (first | ((with_reducible refine gate_store (t := 3) (p := 19) rfl ?_); refine store_event (t := 3) (p := 19) (v := ?vo_w15) (w1 := (wr.setCell ⟨go12, (x6_1 : Int).toNat, none⟩ (.int .i64 (-1)))) ?hg ?ho ?hn ?hr ?_; (case ho => rfl); (case hg => rfl); (case hn => rfl); (case hr => first | (go_simp; done) | (go_simp; rfl)); intro w15 hw; have hg : wr.grownBy w15 (some go12) := (by rw [hw]; exact HP14.2); have hp_ : Kd.R (Kd.int .i64) 3 w15 w.heap.size (fun _ => True) (.slice (some ⟨go12, 0, none⟩) x5_1.length co12) y340 := (by rw [hw, Ny340.out]; exact HP14.1); clear HP14; replace BK336 := Aside0.mk (blk_grown (bk BK336) hg (Kd.R_ne HO_5.out BK336.out (by decide))); replace HO_5 := Aside0.mk (hp_); replace HB := Aside0.mk ((by rw [hw]; exact below_set (HB.out) GB12.out : Below w.heap.size w w15)); clear hg hw hp_))
  go_loopg [7] k1 (fun kq v7 w' => ∃ (x5_2 : List Int) (x7_2 : Int), v7 = .int .i64 x7_2 ∧ Aside0 (spec_l18Most.l1 kq a1 x5_2 x6_1 x7_2 a0_0 l0_1 = some r) ∧ Aside0 (kq ≤ k1) ∧ Aside0 (Kd.R (Kd.int .i64) 3 w' w.heap.size (fun _ => True) (.slice (some ⟨go12, 0, none⟩) x5_1.length co12) x5_2) ∧ Aside0 (w'.heap[gb336]? = some (.cells #[.int .i64 a0_0, (.slice A0_1 l0_1.length c0_1)] 25 (0, 0))) ∧ Aside0 (Below w.heap.size w w'))
  case atStart => exact ⟨(y340), (0), (by first | rfl | (simp; done) | (simp [*]; done)), H', ⟨Nat.le_refl _⟩, ⟨rk HO_5⟩, ⟨bk BK336⟩, ⟨bl1 HB GE336⟩⟩
  clear H'
  try clear c1
  try clear p1
  try clear q1
  try clear hx1
  try clear p2
  try clear c3
  try clear c3b0
  try clear c3b1
  try clear c4
  try clear c4b0
  try clear c4b1
  try clear c6
  try clear c9
  try clear c9b0
  try clear c10
  try clear c10b0
  try clear c11
  try clear c11b0
  try clear p12
  try clear q12
  try clear hx12
  try clear hf12
  try clear hcz13_0
  try clear hcz13_1
  try clear hcz6_0
  try clear hcz6_1
  try clear hfz13_0
  try clear hfz13_1
  try clear hfz6_0
  try clear hfz6_1
  try clear hx12_0
  try clear p12
  try clear p2
  try clear q12
  obtain ⟨x5_2, x7_2, rfl, HA, HK2, HO_5, BK336, HB⟩ := hrel
  have hl5_2 := (Kd.R_reads' HO_5.out).1
  rw [hl5_2] at HO_5
  (try simp only [hl5_2])
  (try simp only [hl5_2] at BK336)
  cases gk with
  | zero => exact absurd HA.out (by simp [spec_l18Most.l1])
  | succ k2 =>
   have H := HA.out
   clear HA
   simp only [spec_l18Most.l1] at H
   by_cases c16 : x7_2 ≤ 9
   rotate_left
   ·rw [if_neg c16] at H
    have c16b0 : decide (x7_2 ≤ 9) = false := decide_eq_false c16
    clear c16
    have H' := Aside0.mk H
    clear H
    go_wp2
    (try simp only [← hl5_2])
    go_roundg k2
    case measure => have := HK1.out; have := HK2.out; omega
    case rel => exact ⟨(x5_2), (wrap64 (x6_1 + 1)), (by first | rfl | (simp; done) | (simp [*]; done)), H', ⟨by have := HK1.out; have := HK2.out; omega⟩, ⟨by (try simp only [hl5_2]); (with_reducible repeat (first | apply Kd.R_alloc | apply Kd.R_drewN | apply Kd.R_drew)); exact HO_5.out⟩, ⟨by (try simp only [hl5_2]); (with_reducible repeat (first | refine blk_drewN ?_ _ | refine blk_drew ?_ | refine blk_alloc ?_ _)); exact BK336.out⟩, ⟨bl1 HB GE336⟩⟩
   rw [if_pos c16] at H
   have c16b0 : decide (x7_2 ≤ 9) = true := decide_eq_true c16
   clear c16
   replace H := Option.bind_eq_some_iff.mp H
   obtain ⟨⟨t341, t342⟩, A170, H⟩ := H
   have A17 := Aside0.mk A170
   clear A170
   replace H := Option.bind_eq_some_iff.mp H
   obtain ⟨t345, A180, H⟩ := H
   have A18 := Aside0.mk A180
   clear A180
   by_cases c19 : 0 ≤ x6_1
   rotate_left
   ·rw [if_neg c19] at H
    exact absurd H (by simp)
   rw [if_pos c19] at H
   have c19b0 : decide (0 ≤ x6_1) = true := decide_eq_true c19
   clear c19
   by_cases c20 : x6_1 < (t345.length : Int)
   rotate_left
   ·rw [if_neg c20] at H
    exact absurd H (by simp)
   rw [if_pos c20] at H
   have c20b0 : decide (x6_1 < (t345.length : Int)) = true := decide_eq_true c20
   clear c20
   by_cases c21 : (rd t345 x6_1) < 99999
   rotate_left
   ·rw [if_neg c21] at H
    have c21b0 : decide ((rd t345 x6_1) < 99999) = false := decide_eq_false c21
    clear c21
    have H' := Aside0.mk H
    clear H
    have hcz31_0 : wr.cell? ⟨gb336, 0, none⟩ = some (.int .i64 a0_0) := (blk_cell BK336.out 0).trans rfl
    have hcz31_1 : wr.cell? ⟨gb336, 1, none⟩ = some (.slice A0_1 l0_1.length c0_1) := (blk_cell BK336.out 1).trans rfl
    have hfz31_0 := blk_frozen BK336.out 0
    have hfz31_1 := blk_frozen BK336.out 1
    go_wp2_with (first | ((with_reducible refine gate_callee (f := 98) rfl ?_); refine goesL_ (some 26) rfl rfl Try.func98 (by kernel_rfl) rfl #[.agg #[.int .i64 a0_0, .slice A0_1 l0_1.length c0_1], .int .i64 x7_2] rfl (by (try simp only [List.map_toArray, List.map_cons, List.map_nil]); first | done | rfl | (simp only [List.length_drop, List.length_take]; rfl)) ?_; (with_reducible refine (spec_l18For.calls k2 a0_0 _ _ l0_1 x7_2 t341 t342 _ ?side1 ?side2 A17.out).mono ?_); (case side1 => repeat (first | exact (Kd.C_below HR0_1.out HB.out) | (with_reducible refine Kd.C_alloc ?_ _) | (with_reducible refine Kd.C_drewN ?_ _) | (with_reducible refine Kd.C_drew ?_))); (case side2 => exact HC0_1.out); rintro e w32 ⟨v343, rfl, ho0, hb⟩; refine ⟨_, rfl, ?_⟩; replace HO_5 := Aside0.mk (Kd.R_below (rk HO_5) hb); have HO344 := Aside0.mk (Kd.R_lower ho0 (below_size (bl1 HB GE336))); replace BK336 := Aside0.mk (blk_below (bk BK336) hb); replace HB := Aside0.mk (below_step (bl1 HB GE336) hb); (try clear hb); (try clear hb2); (try clear hk); (try clear hi); (try clear ho0); obtain ⟨Ao33, co33, eo33⟩ := Kd.R_slice HO344.out; subst eo33) | ((with_reducible refine gate_callee (f := 76) rfl ?_); refine goesL_ (some 28) rfl rfl Try.func76 (by kernel_rfl) rfl #[.agg #[.int .i64 t341, .slice Ao33 t342.length co33], .int .i64 a1] rfl (by (try simp only [List.map_toArray, List.map_cons, List.map_nil]); first | done | rfl | (simp only [List.length_drop, List.length_take]; rfl)) ?_; (with_reducible refine (spec_l3All.calls k2 t341 _ _ t342 a1 t345 _ ?side1 ?side2 A18.out).mono ?_); (case side1 => repeat (first | exact (Kd.R_reads' HO344.out).2.2 | (with_reducible refine Kd.C_alloc ?_ _) | (with_reducible refine Kd.C_drewN ?_ _) | (with_reducible refine Kd.C_drew ?_))); (case side2 => exact (Kd.R_reads' HO344.out).2.1); rintro e w34 ⟨v346, rfl, ho0, hb⟩; refine ⟨_, rfl, ?_⟩; replace HO344 := Aside0.mk (Kd.R_below (rk HO344) hb); have HO347 := Aside0.mk (Kd.R_lower (Kd.R_new' ho0 (Kd.R_lt (rk HO_5))) (below_size (bl1 HB GE336))); replace HO_5 := Aside0.mk (Kd.R_elder' (rk HO_5) (Kd.R_base ho0) hb); replace BK336 := Aside0.mk (blk_below (bk BK336) hb); replace HB := Aside0.mk (below_step (bl1 HB GE336) hb); (try clear hb); (try clear hb2); (try clear hk); (try clear hi); (try clear ho0); obtain ⟨Ao35, co35, eo35⟩ := Kd.R_slice HO347.out; subst eo35; have p348 : 0 ≤ (x6_1 : Int) := oT (by first | (with_reducible assumption) | assumption); have q348 : x6_1 < (t345.length : Int) := oT (by first | (with_reducible assumption) | assumption); obtain ⟨ad348, e348, hx348_0⟩ := Kd.at_int (Kd.R_reads' HO347.out).2.2 x6_1 p348 q348; cases e348; replace p348 := eq_true p348; replace q348 := eq_true q348))
    (try simp only [← hl5_2])
    go_roundg k2
    case measure => have := HK1.out; have := HK2.out; omega
    case rel => exact ⟨(x5_2), (wrap64 (x7_2 + 1)), (by first | rfl | (simp; done) | (simp [*]; done)), H', ⟨by have := HK1.out; have := HK2.out; omega⟩, ⟨by (try simp only [hl5_2]); (with_reducible repeat (first | apply Kd.R_alloc | apply Kd.R_drewN | apply Kd.R_drew)); exact Kd.R_mono HO_5.out (fun _ hk => trivial)⟩, ⟨by (try simp only [hl5_2]); (with_reducible repeat (first | refine blk_drewN ?_ _ | refine blk_drew ?_ | refine blk_alloc ?_ _)); exact BK336.out⟩, ⟨bl1 HB GE336⟩⟩
   rw [if_pos c21] at H
   have c21b0 : decide ((rd t345 x6_1) < 99999) = true := decide_eq_true c21
   clear c21
   by_cases c22 : x6_1 < (x5_2.length : Int)
   rotate_left
   ·rw [if_neg c22] at H
    exact absurd H (by simp)
   rw [if_pos c22] at H
   have c22b0 : decide (x6_1 < (x5_2.length : Int)) = true := decide_eq_true c22
   clear c22
   obtain ⟨y349, hy349⟩ : ∃ y_ : List Int, y_ = (x5_2.set (x6_1 : Int).toNat x7_2) := ⟨_, rfl⟩
   replace H : (spec_l18Most.l1 k2 a1 y349 x6_1 (wrap64 (x7_2 + 1)) a0_0 l0_1) = some r := by first | (rw [hy349]; with_reducible exact H) | (have H2_ := (Option.bind_some _ _).symm.trans H; rw [hy349]; with_reducible exact H2_) | (have H2_ := (Option.bind_some _ _).symm.trans H; with_reducible exact H2_) | with_reducible exact H | (rw [hy349]; exact H) | exact H
   have Ny349 := Aside0.mk hy349
   clear hy349
   have H' := Aside0.mk H
   clear H
   have hcz24_0 : wr.cell? ⟨gb336, 0, none⟩ = some (.int .i64 a0_0) := (blk_cell BK336.out 0).trans rfl
   have hcz24_1 : wr.cell? ⟨gb336, 1, none⟩ = some (.slice A0_1 l0_1.length c0_1) := (blk_cell BK336.out 1).trans rfl
   have hfz24_0 := blk_frozen BK336.out 0
   have hfz24_1 := blk_frozen BK336.out 1
   go_wp2_with (first | ((with_reducible refine gate_callee (f := 98) rfl ?_); refine goesL_ (some 26) rfl rfl Try.func98 (by kernel_rfl) rfl #[.agg #[.int .i64 a0_0, .slice A0_1 l0_1.length c0_1], .int .i64 x7_2] rfl (by (try simp only [List.map_toArray, List.map_cons, List.map_nil]); first | done | rfl | (simp only [List.length_drop, List.length_take]; rfl)) ?_; (with_reducible refine (spec_l18For.calls k2 a0_0 _ _ l0_1 x7_2 t341 t342 _ ?side1 ?side2 A17.out).mono ?_); (case side1 => repeat (first | exact (Kd.C_below HR0_1.out HB.out) | (with_reducible refine Kd.C_alloc ?_ _) | (with_reducible refine Kd.C_drewN ?_ _) | (with_reducible refine Kd.C_drew ?_))); (case side2 => exact HC0_1.out); rintro e w25 ⟨v343, rfl, ho0, hb⟩; refine ⟨_, rfl, ?_⟩; replace HO_5 := Aside0.mk (Kd.R_below (rk HO_5) hb); have HO344 := Aside0.mk (Kd.R_lower ho0 (below_size (bl1 HB GE336))); replace BK336 := Aside0.mk (blk_below (bk BK336) hb); replace HB := Aside0.mk (below_step (bl1 HB GE336) hb); (try clear hb); (try clear hb2); (try clear hk); (try clear hi); (try clear ho0); obtain ⟨Ao26, co26, eo26⟩ := Kd.R_slice HO344.out; subst eo26) | ((with_reducible refine gate_callee (f := 76) rfl ?_); refine goesL_ (some 28) rfl rfl Try.func76 (by kernel_rfl) rfl #[.agg #[.int .i64 t341, .slice Ao26 t342.length co26], .int .i64 a1] rfl (by (try simp only [List.map_toArray, List.map_cons, List.map_nil]); first | done | rfl | (simp only [List.length_drop, List.length_take]; rfl)) ?_; (with_reducible refine (spec_l3All.calls k2 t341 _ _ t342 a1 t345 _ ?side1 ?side2 A18.out).mono ?_); (case side1 => repeat (first | exact (Kd.R_reads' HO344.out).2.2 | (with_reducible refine Kd.C_alloc ?_ _) | (with_reducible refine Kd.C_drewN ?_ _) | (with_reducible refine Kd.C_drew ?_))); (case side2 => exact (Kd.R_reads' HO344.out).2.1); rintro e w27 ⟨v346, rfl, ho0, hb⟩; refine ⟨_, rfl, ?_⟩; replace HO344 := Aside0.mk (Kd.R_below (rk HO344) hb); have HO347 := Aside0.mk (Kd.R_lower (Kd.R_new' ho0 (Kd.R_lt (rk HO_5))) (below_size (bl1 HB GE336))); replace HO_5 := Aside0.mk (Kd.R_elder' (rk HO_5) (Kd.R_base ho0) hb); replace BK336 := Aside0.mk (blk_below (bk BK336) hb); replace HB := Aside0.mk (below_step (bl1 HB GE336) hb); (try clear hb); (try clear hb2); (try clear hk); (try clear hi); (try clear ho0); obtain ⟨Ao28, co28, eo28⟩ := Kd.R_slice HO347.out; subst eo28; have p348 : 0 ≤ (x6_1 : Int) := oT (by first | (with_reducible assumption) | assumption); have q348 : x6_1 < (t345.length : Int) := oT (by first | (with_reducible assumption) | assumption); obtain ⟨ad348, e348, hx348_0⟩ := Kd.at_int (Kd.R_reads' HO347.out).2.2 x6_1 p348 q348; cases e348; replace p348 := eq_true p348; replace q348 := eq_true q348; have p23 : 0 ≤ (x6_1 : Int) := oT (by first | (with_reducible assumption) | assumption); have q23 : (x6_1 : Int) < ((x5_2.length : Int) : Int) := oT (by first | (with_reducible assumption) | assumption); obtain ⟨hx23_0, hf23_0⟩ := Kd.R_celln 0 HO_5.out (x6_1 : Int) p23 q23; replace p23 := eq_true p23; replace q23 := eq_true q23; have n_ := Aside0.mk (Kd.R_mono (ok' := (fun k_ => some k_ ≠ (.slice (some ad348) t345.length co28 : Value).ownBlock)) HO_5.out (fun k_ hk => hk.2)); clear HO_5; have HO_5 := n_; clear n_; obtain ⟨hy29_, hz29_⟩ := Kd.R_celln 0 HO_5.out (x6_1 : Int) (oT (by first | (with_reducible assumption) | assumption)) (oT (by first | (with_reducible assumption) | assumption)); have HP29 := Kd.R_putg HO_5.out (x6_1 : Int) x7_2) | ((with_reducible refine gate_store (t := 3) (p := 36) rfl ?_); refine store_event (t := 3) (p := 36) (v := ?vo_w30) (w1 := (w27.setCell ⟨go12, (x6_1 : Int).toNat, none⟩ (.int .i64 x7_2))) ?hg ?ho ?hn ?hr ?_; (case ho => rfl); (case hg => rfl); (case hn => rfl); (case hr => first | (go_simp; done) | (go_simp; rfl)); intro w30 hw; have hg : w27.grownBy w30 (some go12) := (by rw [hw]; exact HP29.2); have hp_ : Kd.R (Kd.int .i64) 3 w30 w.heap.size (fun k_ => some k_ ≠ (.slice (some ad348) t345.length co28 : Value).ownBlock) (.slice (some ⟨go12, 0, none⟩) x5_2.length co12) y349 := (by rw [hw, Ny349.out]; exact HP29.1); clear HP29; replace BK336 := Aside0.mk (blk_grown (bk BK336) hg (Kd.R_ne HO_5.out BK336.out (by decide))); replace HO344 := Aside0.mk (Kd.R_over' (v := (.slice (some ⟨go12, 0, none⟩) x5_2.length co12)) (rk HO344) (Kd.R_typed HO_5.out) (by decide) hg); replace HO_5 := Aside0.mk (hp_); replace HO347 := Aside0.mk (Kd.R_after (v := (.slice (some ⟨go12, 0, none⟩) x5_2.length co12)) (v1 := (.slice (some ⟨go12, 0, none⟩) x5_2.length co12)) (ok := (fun _ => True)) (rk HO347) hg (.inl rfl)); replace HB := Aside0.mk ((by rw [hw]; exact below_set (HB.out) GB12.out : Below w.heap.size w w30)); clear hg hw hp_))
   (try simp only [← hl5_2])
   go_roundg k2
   case measure => have := HK1.out; have := HK2.out; omega
   case rel => exact ⟨(y349), (wrap64 (x7_2 + 1)), (by first | rfl | (simp; done) | (simp [*]; done)), H', ⟨by have := HK1.out; have := HK2.out; omega⟩, ⟨by (try simp only [hl5_2]); (with_reducible repeat (first | apply Kd.R_alloc | apply Kd.R_drewN | apply Kd.R_drew)); exact Kd.R_mono HO_5.out (fun _ hk => trivial)⟩, ⟨by (try simp only [hl5_2]); (with_reducible repeat (first | refine blk_drewN ?_ _ | refine blk_drew ?_ | refine blk_alloc ?_ _)); exact BK336.out⟩, ⟨bl1 HB GE336⟩⟩

end Go.Proofs.Ytgickejeakmenaa.F
