-- Printed by wip/px/px.py of this claim's repository (the kit's printer, extended there). Lean checks it.
import Derived.Test.YtlgolgfcolnddaaFKinds
namespace Go.Proofs.Ytlgolgfcolnddaa.F
open Go.RowKit Go.Proofs.YtlgolgfcolnddaaW.PrintWords Go.Proofs.YtlgolgfcolnddaaW.PrintLast Go.Proofs.YtlgolgfcolnddaaW.PrintMore
attribute [local go_sem] max2_int min2_int max_two min_two max_three min_three max_four min_four   -- for this text's walks alone
set_option linter.unusedVariables false
set_option linter.unusedSimpArgs false

/-! ### spec_l3All: function 107 -/
mutual
def spec_l3All.l0 : Nat → Int → List Int → Int → Int → List (S58) → Option (List Int)
 | 0, _, _, _, _, _ => none
 | k + 1, x1, x5, x6, x163000, x163001 => if x6 < x163000 then (if 0 ≤ x6 then (if x6 < (x5.length : Int) then (spec_l3All.l0 k x1 (x5.set (x6 : Int).toNat 99999) (wrap64 (x6 + 1)) x163000 x163001) else (none)) else (none)) else (if 0 ≤ x1 then (if x1 < (x5.length : Int) then (spec_l3All.l1 k (x5.set (x1 : Int).toNat 0) 0 x163000 x163001) else (none)) else (none))
def spec_l3All.l1 : Nat → List Int → Int → Int → List (S58) → Option (List Int)
 | 0, _, _, _, _ => none
 | k + 1, x5, x7, x163000, x163001 => if x7 < x163000 then (spec_l3All.l2 k x5 x7 0 x163000 x163001) else (some x5)
def spec_l3All.l2 : Nat → List Int → Int → Int → Int → List (S58) → Option (List Int)
 | 0, _, _, _, _, _ => none
 | k + 1, x5, x7, x8, x163000, x163001 => if x8 < (x163001.length : Int) then (if 0 ≤ x8 then (if 0 ≤ ((rd_T58 x163001 x8).f0) then (if ((rd_T58 x163001 x8).f0) < (x5.length : Int) then (if (rd x5 ((rd_T58 x163001 x8).f0)) < 99999 then (if 0 ≤ ((rd_T58 x163001 x8).f1) then (if ((rd_T58 x163001 x8).f1) < (x5.length : Int) then (if (wrap64 ((rd x5 ((rd_T58 x163001 x8).f0)) + ((rd_T58 x163001 x8).f2))) < (rd x5 ((rd_T58 x163001 x8).f1)) then (spec_l3All.l2 k (x5.set (((rd_T58 x163001 x8).f1) : Int).toNat (wrap64 ((rd x5 ((rd_T58 x163001 x8).f0)) + ((rd_T58 x163001 x8).f2)))) x7 (wrap64 (x8 + 1)) x163000 x163001) else (spec_l3All.l2 k x5 x7 (wrap64 (x8 + 1)) x163000 x163001)) else (none)) else (none)) else (spec_l3All.l2 k x5 x7 (wrap64 (x8 + 1)) x163000 x163001)) else (none)) else (none)) else (none)) else (spec_l3All.l1 k x5 (wrap64 (x7 + 1)) x163000 x163001)
end
def spec_l3All.f (k : Nat) (a0_0 : Int) (l0_1 : List (S58)) (a1 : Int) : Option (List Int) := if 0 ≤ a0_0 then (if (a0_0 : Int).toNat ≤ 35184372088832 then (spec_l3All.l0 k a1 (List.replicate (a0_0 : Int).toNat 0) 0 a0_0 l0_1) else (none)) else (none)
theorem spec_l3All.mono_l : ∀ k, (∀ y0 y1 y2 y3 y4, LeO (spec_l3All.l0 k y0 y1 y2 y3 y4) (spec_l3All.l0 (k + 1) y0 y1 y2 y3 y4)) ∧ (∀ y0 y1 y2 y3, LeO (spec_l3All.l1 k y0 y1 y2 y3) (spec_l3All.l1 (k + 1) y0 y1 y2 y3)) ∧ (∀ y0 y1 y2 y3 y4, LeO (spec_l3All.l2 k y0 y1 y2 y3 y4) (spec_l3All.l2 (k + 1) y0 y1 y2 y3 y4))
 | 0 => ⟨fun _ _ _ _ _ r h => by simp [spec_l3All.l0] at h, fun _ _ _ _ r h => by simp [spec_l3All.l1] at h, fun _ _ _ _ _ r h => by simp [spec_l3All.l2] at h⟩
 | k + 1 => by
  obtain ⟨ih0, ih1, ih2⟩ := spec_l3All.mono_l k
  refine ⟨?_, ?_, ?_⟩
  ·intro y0 y1 y2 y3 y4
   unfold spec_l3All.l0
   repeat' first
   | (with_reducible exact ih0 _ _ _ _ _)
   | (with_reducible exact ih1 _ _ _ _)
   | (with_reducible exact ih2 _ _ _ _ _)
   | (with_reducible exact LeO.refl _)
   | (with_reducible exact LeO.none _)
   | (with_reducible refine LeO.ite ?_ ?_)
   | (with_reducible refine LeO.bind ?_ (fun _ => ?_))
   | exact ih0 _ _ _ _ _
   | exact ih1 _ _ _ _
   | exact ih2 _ _ _ _ _
   | exact LeO.none _
   | refine LeO.ite ?_ ?_
   | refine LeO.bind ?_ (fun _ => ?_)
  ·intro y0 y1 y2 y3
   unfold spec_l3All.l1
   repeat' first
   | (with_reducible exact ih0 _ _ _ _ _)
   | (with_reducible exact ih1 _ _ _ _)
   | (with_reducible exact ih2 _ _ _ _ _)
   | (with_reducible exact LeO.refl _)
   | (with_reducible exact LeO.none _)
   | (with_reducible refine LeO.ite ?_ ?_)
   | (with_reducible refine LeO.bind ?_ (fun _ => ?_))
   | exact ih0 _ _ _ _ _
   | exact ih1 _ _ _ _
   | exact ih2 _ _ _ _ _
   | exact LeO.none _
   | refine LeO.ite ?_ ?_
   | refine LeO.bind ?_ (fun _ => ?_)
  ·intro y0 y1 y2 y3 y4
   unfold spec_l3All.l2
   repeat' first
   | (with_reducible exact ih0 _ _ _ _ _)
   | (with_reducible exact ih1 _ _ _ _)
   | (with_reducible exact ih2 _ _ _ _ _)
   | (with_reducible exact LeO.refl _)
   | (with_reducible exact LeO.none _)
   | (with_reducible refine LeO.ite ?_ ?_)
   | (with_reducible refine LeO.bind ?_ (fun _ => ?_))
   | exact ih0 _ _ _ _ _
   | exact ih1 _ _ _ _
   | exact ih2 _ _ _ _ _
   | exact LeO.none _
   | refine LeO.ite ?_ ?_
   | refine LeO.bind ?_ (fun _ => ?_)
theorem spec_l3All.mono : ∀ a0 a1 a2 k, LeO (spec_l3All.f k a0 a1 a2) (spec_l3All.f (k + 1) a0 a1 a2) := by
 intro a0 a1 a2 k
 obtain ⟨ih0, ih1, ih2⟩ := spec_l3All.mono_l k
 unfold spec_l3All.f
 repeat' first
   | (with_reducible exact ih0 _ _ _ _ _)
   | (with_reducible exact ih1 _ _ _ _)
   | (with_reducible exact ih2 _ _ _ _ _)
   | (with_reducible exact LeO.refl _)
   | (with_reducible exact LeO.none _)
   | (with_reducible refine LeO.ite ?_ ?_)
   | (with_reducible refine LeO.bind ?_ (fun _ => ?_))
   | exact ih0 _ _ _ _ _
   | exact ih1 _ _ _ _
   | exact ih2 _ _ _ _ _
   | exact LeO.none _
   | refine LeO.ite ?_ ?_
   | refine LeO.bind ?_ (fun _ => ?_)
def spec_l3All.T14 : Bool × List (List Nat × List Nat) := (true, [([], []), ([], []), ([1], [1]), ([0, 2], [0, 2]), ([3], [3]), ([4], [4]), ([5], [5]), ([6], [6]), ([6], [6]), ([8, 6], [6, 8]), ([7, 9, 6], [6, 7, 9]), ([10, 6], [6, 10]), ([6], [6]), ([12, 6], [6, 12]), ([11, 13, 6], [6, 11, 13]), ([6], [6]), ([6], [6]), ([16, 6], [6, 16]), ([15, 17, 6], [6, 15, 17]), ([18, 6], [6, 18]), ([14, 19, 6], [6, 14, 19]), ([6, 20], [6, 20])])
def spec_l3All.B14 : List Nat := [0, 0, 2, 7, 15, 31, 63, 127, 127, 383, 1023, 2047, 127, 4223, 16383, 127, 127, 65663, 229503, 491647, 1048575, 2097151]
theorem spec_l3All.tab14 : rtab .any (opsOf Try.f107 14) = spec_l3All.T14 := by kernel_rfl
theorem spec_l3All.bits14 : waitsOk spec_l3All.T14.2 spec_l3All.B14 = true := by kernel_rfl
def spec_l3All.T15 : Bool × List (List Nat × List Nat) := (true, [([], []), ([], []), ([1], [1]), ([], []), ([], []), ([4], [4]), ([3, 5], [3, 5]), ([6], [6]), ([], []), ([8], [8]), ([7, 9], [7, 9]), ([0, 2, 0, 1, 2, 3, 4, 5, 6, 7, 8, 9, 10], [0, 2]), ([11, 10, 0, 1, 2, 3, 4, 5, 6, 7, 8, 9, 10], [10, 11])])
def spec_l3All.B15 : List Nat := [0, 0, 2, 0, 0, 16, 56, 120, 0, 256, 1016, 2047, 4095]
theorem spec_l3All.tab15 : rtab .any (opsOf Try.f107 15) = spec_l3All.T15 := by kernel_rfl
theorem spec_l3All.bits15 : waitsOk spec_l3All.T15.2 spec_l3All.B15 = true := by kernel_rfl
set_option maxHeartbeats 8000000 in
set_option maxRecDepth 100000 in
theorem spec_l3All.calls (k : Nat) (a0_0 : Int) (A0_1 : Option Addr) (c0_1 : Nat) (l0_1 : List (S58)) (a1 : Int) (r : List Int) (w : World) (hr0_1 : Kd.C k58 w A0_1 l0_1.length l0_1) (hc0_1 : l0_1.length ≤ c0_1) (h : spec_l3All.f k a0_0 l0_1 a1 = some r) :
  Calls Try.prog 107 #[.agg #[.int .i64 a0_0, .slice A0_1 l0_1.length c0_1], .int .i64 a1] w fun e w' => ∃ v0_ : Value, e = .returned (v0_) ∧ Kd.R (Kd.int .i64) 3 w' w.heap.size (fun _ => True) v0_ r ∧ Below w.heap.size w w' := by
 have hu25 := Try.underlying25
 have hu58 := Try.underlying58
 have HR0_1 := ak hr0_1
 have HC0_1 := ak hc0_1
 clear hr0_1 hc0_1
 have HB := ak (Below.refl w.heap.size w)
 have H : (if 0 ≤ a0_0 then (if (a0_0 : Int).toNat ≤ 35184372088832 then (spec_l3All.l0 k a1 (List.replicate (a0_0 : Int).toNat 0) 0 a0_0 l0_1) else (none)) else (none)) = some r := h
 clear h
 by_cases c3 : 0 ≤ a0_0
 rotate_left
 ·rw [if_neg c3] at H
  exact absurd H (by simp)
 rw [if_pos c3] at H
 have c3b0 := eq_true c3
 have c3b1 : decide (0 ≤ a0_0) = true := decide_eq_true c3
 clear c3
 by_cases c4 : (a0_0 : Int).toNat ≤ 35184372088832
 rotate_left
 ·rw [if_neg c4] at H
  exact absurd H (by simp)
 rw [if_pos c4] at H
 have c4b0 := eq_true c4
 have c4b1 : decide ((a0_0 : Int).toNat ≤ 35184372088832) = true := decide_eq_true c4
 clear c4
 obtain ⟨y163, hy163⟩ : ∃ y_ : List Int, y_ = (List.replicate (a0_0 : Int).toNat 0) := ⟨_, rfl⟩
 replace H : (spec_l3All.l0 k a1 y163 0 a0_0 l0_1) = some r := by first | (rw [hy163]; with_reducible exact H) | (have H2_ := (Option.bind_some _ _).symm.trans H; rw [hy163]; with_reducible exact H2_) | (have H2_ := (Option.bind_some _ _).symm.trans H; with_reducible exact H2_) | with_reducible exact H | (rw [hy163]; exact H) | exact H
 have Ny163 := ak hy163
 clear hy163
 have H' := ak H
 clear H
 go_enter Try.func107, Try.ntmps107
 go_wp2_with (first | ((with_reducible refine gate_dst (N := 2) rfl ?_); refine box_event ?hg (N := 2) ?hd (cs := #[.int .i64 a0_0, .slice A0_1 l0_1.length c0_1]) (t := 25) ?hr ?_; (case hd => rfl); (case hg => rfl); (case hr => first | (go_simp; done) | (go_simp; rfl)); intro gb162 hg w5 hbox hb; have BK162 := ak (hbox); have GW162 := ak ((by rw [hg]; exact (below_size (bl HB)) : w.heap.size ≤ gb162)); have GE162 := ak ((by rw [hg]; exact (below_size (bl HB)) : w.heap.size ≤ gb162)); replace HB := ak (below_step (bl HB) hb); clear hb hbox hg; have hcz6_0 := bc w5 BK162 0 (.int .i64 a0_0) rfl; have hcz6_1 := bc w5 BK162 1 (.slice A0_1 l0_1.length c0_1) rfl; have hfz6_0 := fz BK162 0; have hfz6_1 := fz BK162 1) | ((with_reducible refine gate_dst (N := 12) rfl ?_); refine Kd.R_make (Kd.int .i64) _ 3 rfl (N := 12) rfl 33 _ _ rfl a0_0 rfl rfl Try.underlying33 (.int .i64 0) 8 info3 rfl (by decide) (by omega) 0 (ok := fun _ => True) (okp := fun _ => True) rfl (fun _ hk => hk) trivial (oT (by first | (with_reducible assumption) | assumption)) (Nat.le_trans (Nat.mul_le_mul_right _ (oT (by first | (with_reducible assumption) | assumption) : a0_0.toNat ≤ 35184372088832)) (by omega)) (Below.refl _ _) (Nat.le_refl _) ?_; intro v164 w7 ho8 hb hg_ hnew_; clear hg_ hnew_; (first | rw [← Ny163.out] at ho8 | (simp only [Int.reduceToNat] at ho8; rw [← Ny163.out] at ho8)); have HO165 := ak (Kd.R_lower ho8 (below_size (bl1 HB GE162))); replace BK162 := ak (blk_below (bk BK162) hb); replace HB := ak (below_step (bl1 HB GE162) hb); clear hb ho8))
 go_loopg [6] k (fun kq v6 w' => ∃ (x5_1 : List Int) (x6_1 : Int), v6 = .int .i64 x6_1 ∧ Aside0 (spec_l3All.l0 kq a1 x5_1 x6_1 a0_0 l0_1 = some r) ∧ Aside0 (kq ≤ k) ∧ Aside0 (Kd.R (Kd.int .i64) 3 w' w.heap.size (fun _ => True) v164 x5_1) ∧ Aside0 (w'.heap[gb162]? = some (.cells #[.int .i64 a0_0, (.slice A0_1 l0_1.length c0_1)] 25 (0, 0))) ∧ Aside0 (Below w.heap.size w w'))
 case atStart => exact ⟨(y163), (0), (by first | rfl | (simp; done) | (simp [*]; done)), H', ⟨Nat.le_refl _⟩, ⟨rk HO165⟩, ⟨bk BK162⟩, ⟨bl1 HB GE162⟩⟩
 clear H'
 try clear c1
 try clear p2
 try clear c3
 try clear c3b0
 try clear c3b1
 try clear c4
 try clear c4b0
 try clear c4b1
 try clear hcz6_0
 try clear hcz6_1
 try clear hfz6_0
 try clear hfz6_1
 obtain ⟨x5_1, x6_1, rfl, HA, HK1, HO_5, BK162, HB⟩ := hrel
 cases gk with
 | zero => exact absurd HA.out (by simp [spec_l3All.l0])
 | succ k1 =>
  have H := HA.out
  clear HA
  simp only [spec_l3All.l0] at H
  by_cases c9 : x6_1 < a0_0
  ·rw [if_pos c9] at H
   have c9b0 : decide (x6_1 < a0_0) = true := decide_eq_true c9
   clear c9
   by_cases c10 : 0 ≤ x6_1
   rotate_left
   ·rw [if_neg c10] at H
    exact absurd H (by simp)
   rw [if_pos c10] at H
   have c10b0 : decide (0 ≤ x6_1) = true := decide_eq_true c10
   clear c10
   by_cases c11 : x6_1 < (x5_1.length : Int)
   rotate_left
   ·rw [if_neg c11] at H
    exact absurd H (by simp)
   rw [if_pos c11] at H
   have c11b0 : decide (x6_1 < (x5_1.length : Int)) = true := decide_eq_true c11
   clear c11
   obtain ⟨y166, hy166⟩ : ∃ y_ : List Int, y_ = (x5_1.set (x6_1 : Int).toNat 99999) := ⟨_, rfl⟩
   replace H : (spec_l3All.l0 k1 a1 y166 (wrap64 (x6_1 + 1)) a0_0 l0_1) = some r := by first | (rw [hy166]; with_reducible exact H) | (have H2_ := (Option.bind_some _ _).symm.trans H; rw [hy166]; with_reducible exact H2_) | (have H2_ := (Option.bind_some _ _).symm.trans H; with_reducible exact H2_) | with_reducible exact H | (rw [hy166]; exact H) | exact H
   have Ny166 := ak hy166
   clear hy166
   have H' := ak H
   clear H
   have hcz13_0 := bc wr BK162 0 (.int .i64 a0_0) rfl
   have hcz13_1 := bc wr BK162 1 (.slice A0_1 l0_1.length c0_1) rfl
   have hfz13_0 := fz BK162 0
   have hfz13_1 := fz BK162 1
   have p12 : 0 ≤ (x6_1 : Int) := oT (by first | (with_reducible assumption) | assumption)
   have q12 : (x6_1 : Int) < ((x5_1.length : Int) : Int) := oT (by first | (with_reducible assumption) | assumption)
   obtain ⟨go12, co12, eo12, gb12, gl12, cl12, HG12⟩ := Kd.R_form HO_5.out (by omega)
   (first | cases eo12 | (injection eo12 with ea_ en_ ec_; (first | subst ea_ | (injection ea_ with ea_; subst ea_)); subst ec_; clear en_))
   have GB12 := ak gb12
   have GG12 := ak HG12
   clear gb12 gl12 HG12
   obtain ⟨hx12_0, hf12_0⟩ := Kd.R_celln 0 HO_5.out (x6_1 : Int) p12 q12
   replace p12 := eq_true p12
   replace q12 := eq_true q12
   have HP14 := Kd.R_putg HO_5.out (x6_1 : Int) 99999
   go_wp2_with (first | ((with_reducible refine gate_store (t := 3) (p := 21) rfl ?_); refine store_event (t := 3) (p := 21) (v := ?vo_w15) (w1 := (wr.setCell ⟨go12, (x6_1 : Int).toNat, none⟩ (.int .i64 99999))) ?hg ?ho ?hn ?hr ?_; (case ho => rfl); (case hg => rfl); (case hn => rfl); (case hr => first | (go_simp; done) | (go_simp; rfl)); intro w15 hw; have hg : wr.grownBy w15 (some go12) := (by rw [hw]; exact HP14.2); have hp_ : Kd.R (Kd.int .i64) 3 w15 w.heap.size (fun _ => True) (.slice (some ⟨go12, 0, none⟩) x5_1.length co12) y166 := (by rw [hw, Ny166.out]; exact HP14.1); clear HP14; replace BK162 := ak (blk_grown (bk BK162) hg (Kd.R_ne HO_5.out BK162.out (by decide))); replace HO_5 := ak (hp_); replace HB := ak ((by rw [hw]; exact below_set (HB.out) GB12.out : Below w.heap.size w w15)); clear hg hw hp_))
   go_roundg k1
   case measure => have := HK1.out; omega
   case rel => exact ⟨(y166), (wrap64 (x6_1 + 1)), (by first | rfl | (simp; done) | (simp [*]; done)), H', ⟨by have := HK1.out; omega⟩, ⟨rk HO_5⟩, ⟨bk BK162⟩, ⟨bl1 HB GE162⟩⟩
  rw [if_neg c9] at H
  have c9b0 : decide (x6_1 < a0_0) = false := decide_eq_false c9
  clear c9
  by_cases c16 : 0 ≤ a1
  rotate_left
  ·rw [if_neg c16] at H
   exact absurd H (by simp)
  rw [if_pos c16] at H
  have c16b0 : decide (0 ≤ a1) = true := decide_eq_true c16
  clear c16
  by_cases c17 : a1 < (x5_1.length : Int)
  rotate_left
  ·rw [if_neg c17] at H
   exact absurd H (by simp)
  rw [if_pos c17] at H
  have c17b0 : decide (a1 < (x5_1.length : Int)) = true := decide_eq_true c17
  clear c17
  obtain ⟨y167, hy167⟩ : ∃ y_ : List Int, y_ = (x5_1.set (a1 : Int).toNat 0) := ⟨_, rfl⟩
  replace H : (spec_l3All.l1 k1 y167 0 a0_0 l0_1) = some r := by first | (rw [hy167]; with_reducible exact H) | (have H2_ := (Option.bind_some _ _).symm.trans H; rw [hy167]; with_reducible exact H2_) | (have H2_ := (Option.bind_some _ _).symm.trans H; with_reducible exact H2_) | with_reducible exact H | (rw [hy167]; exact H) | exact H
  have Ny167 := ak hy167
  clear hy167
  have H' := ak H
  clear H
  have hcz19_0 := bc wr BK162 0 (.int .i64 a0_0) rfl
  have hcz19_1 := bc wr BK162 1 (.slice A0_1 l0_1.length c0_1) rfl
  have hfz19_0 := fz BK162 0
  have hfz19_1 := fz BK162 1
  have p18 : 0 ≤ (a1 : Int) := oT (by first | (with_reducible assumption) | assumption)
  have q18 : (a1 : Int) < ((x5_1.length : Int) : Int) := oT (by first | (with_reducible assumption) | assumption)
  obtain ⟨go18, co18, eo18, gb18, gl18, cl18, HG18⟩ := Kd.R_form HO_5.out (by omega)
  (first | cases eo18 | (injection eo18 with ea_ en_ ec_; (first | subst ea_ | (injection ea_ with ea_; subst ea_)); subst ec_; clear en_))
  have GB18 := ak gb18
  have GG18 := ak HG18
  clear gb18 gl18 HG18
  obtain ⟨hx18_0, hf18_0⟩ := Kd.R_celln 0 HO_5.out (a1 : Int) p18 q18
  replace p18 := eq_true p18
  replace q18 := eq_true q18
  have HP20 := Kd.R_putg HO_5.out (a1 : Int) 0
  go_wp2_with (first | ((with_reducible refine gate_store (t := 3) (p := 24) rfl ?_); refine store_event (t := 3) (p := 24) (v := ?vo_w21) (w1 := (wr.setCell ⟨go18, (a1 : Int).toNat, none⟩ (.int .i64 0))) ?hg ?ho ?hn ?hr ?_; (case ho => rfl); (case hg => rfl); (case hn => rfl); (case hr => first | (go_simp; done) | (go_simp; rfl)); intro w21 hw; have hg : wr.grownBy w21 (some go18) := (by rw [hw]; exact HP20.2); have hp_ : Kd.R (Kd.int .i64) 3 w21 w.heap.size (fun _ => True) (.slice (some ⟨go18, 0, none⟩) x5_1.length co18) y167 := (by rw [hw, Ny167.out]; exact HP20.1); clear HP20; replace BK162 := ak (blk_grown (bk BK162) hg (Kd.R_ne HO_5.out BK162.out (by decide))); replace HO_5 := ak (hp_); replace HB := ak ((by rw [hw]; exact below_set (HB.out) GB18.out : Below w.heap.size w w21)); clear hg hw hp_))
  go_loopg [7] k1 (fun kq v7 w' => ∃ (x5_2 : List Int) (x7_2 : Int), v7 = .int .i64 x7_2 ∧ Aside0 (spec_l3All.l1 kq x5_2 x7_2 a0_0 l0_1 = some r) ∧ Aside0 (kq ≤ k1) ∧ Aside0 (Kd.R (Kd.int .i64) 3 w' w.heap.size (fun _ => True) (.slice (some ⟨go18, 0, none⟩) x5_1.length co18) x5_2) ∧ Aside0 (w'.heap[gb162]? = some (.cells #[.int .i64 a0_0, (.slice A0_1 l0_1.length c0_1)] 25 (0, 0))) ∧ Aside0 (Below w.heap.size w w'))
  case atStart => exact ⟨(y167), (0), (by first | rfl | (simp; done) | (simp [*]; done)), H', ⟨Nat.le_refl _⟩, ⟨rk HO_5⟩, ⟨bk BK162⟩, ⟨bl1 HB GE162⟩⟩
  clear H'
  try clear c1
  try clear p1
  try clear q1
  try clear hx1
  try clear p2
  try clear c3
  try clear c3b0
  try clear c3b1
  try clear c4
  try clear c4b0
  try clear c4b1
  try clear p6
  try clear c9
  try clear c9b0
  try clear c10
  try clear c10b0
  try clear c11
  try clear c11b0
  try clear p12
  try clear q12
  try clear hx12
  try clear hf12
  try clear c16
  try clear c16b0
  try clear c17
  try clear c17b0
  try clear p18
  try clear q18
  try clear hx18
  try clear hf18
  try clear hcz13_0
  try clear hcz13_1
  try clear hcz19_0
  try clear hcz19_1
  try clear hcz6_0
  try clear hcz6_1
  try clear hfz13_0
  try clear hfz13_1
  try clear hfz19_0
  try clear hfz19_1
  try clear hfz6_0
  try clear hfz6_1
  try clear hx12_0
  try clear hx18_0
  try clear p12
  try clear p18
  try clear p2
  try clear q12
  try clear q18
  obtain ⟨x5_2, x7_2, rfl, HA, HK2, HO_5, BK162, HB⟩ := hrel
  have hl5_2 := (Kd.R_reads' HO_5.out).1
  rw [hl5_2] at HO_5
  (try simp only [hl5_2])
  (try simp only [hl5_2] at BK162)
  cases gk with
  | zero => exact absurd HA.out (by simp [spec_l3All.l1])
  | succ k2 =>
   have H := HA.out
   clear HA
   simp only [spec_l3All.l1] at H
   by_cases c22 : x7_2 < a0_0
   rotate_left
   ·rw [if_neg c22] at H
    have c22b0 : decide (x7_2 < a0_0) = false := decide_eq_false c22
    clear c22
    obtain rfl := Option.some.inj H
    have hcz54_0 := bc wr BK162 0 (.int .i64 a0_0) rfl
    have hcz54_1 := bc wr BK162 1 (.slice A0_1 l0_1.length c0_1) rfl
    have hfz54_0 := fz BK162 0
    have hfz54_1 := fz BK162 1
    go_wp2
    go_ret
    exact ⟨_, by first | rfl | (simp [errW_none, errW_some] <;> rfl) | (simp [*, errW_none, errW_some] <;> rfl), rk HO_5, bl1 HB GE162⟩
   rw [if_pos c22] at H
   have c22b0 : decide (x7_2 < a0_0) = true := decide_eq_true c22
   clear c22
   have H' := ak H
   clear H
   have hcz23_0 := bc wr BK162 0 (.int .i64 a0_0) rfl
   have hcz23_1 := bc wr BK162 1 (.slice A0_1 l0_1.length c0_1) rfl
   have hfz23_0 := fz BK162 0
   have hfz23_1 := fz BK162 1
   go_wp2
   go_loopg [8] k2 (fun kq v8 w' => ∃ (x5_3 : List Int) (x8_3 : Int), v8 = .int .i64 x8_3 ∧ Aside0 (spec_l3All.l2 kq x5_3 x7_2 x8_3 a0_0 l0_1 = some r) ∧ Aside0 (kq ≤ k2) ∧ Aside0 (Kd.R (Kd.int .i64) 3 w' w.heap.size (fun _ => True) (.slice (some ⟨go18, 0, none⟩) x5_2.length co18) x5_3) ∧ Aside0 (w'.heap[gb162]? = some (.cells #[.int .i64 a0_0, (.slice A0_1 l0_1.length c0_1)] 25 (0, 0))) ∧ Aside0 (Below w.heap.size w w'))
   case atStart => exact ⟨(x5_2), (0), (by first | rfl | (simp; done) | (simp [*]; done)), H', ⟨Nat.le_refl _⟩, ⟨by (try simp only [hl5_2]); (with_reducible repeat (first | apply Kd.R_alloc | apply Kd.R_drewN | apply Kd.R_drew)); exact HO_5.out⟩, ⟨by (try simp only [hl5_2]); (with_reducible repeat (first | refine blk_drewN ?_ _ | refine blk_drew ?_ | refine blk_alloc ?_ _)); exact BK162.out⟩, ⟨bl1 HB GE162⟩⟩
   clear H'
   try clear c1
   try clear p1
   try clear q1
   try clear hx1
   try clear c2
   try clear p2
   try clear c3
   try clear c3b0
   try clear c3b1
   try clear c4
   try clear c4b0
   try clear c4b1
   try clear p6
   try clear c9
   try clear c9b0
   try clear c10
   try clear c10b0
   try clear c11
   try clear c11b0
   try clear p12
   try clear q12
   try clear hx12
   try clear hf12
   try clear c16
   try clear c16b0
   try clear c17
   try clear c17b0
   try clear p18
   try clear q18
   try clear hx18
   try clear hf18
   try clear c22
   try clear c22b0
   try clear hcz13_0
   try clear hcz13_1
   try clear hcz19_0
   try clear hcz19_1
   try clear hcz23_0
   try clear hcz23_1
   try clear hcz6_0
   try clear hcz6_1
   try clear hfz13_0
   try clear hfz13_1
   try clear hfz19_0
   try clear hfz19_1
   try clear hfz23_0
   try clear hfz23_1
   try clear hfz6_0
   try clear hfz6_1
   try clear hx12_0
   try clear hx18_0
   try clear p1
   try clear p12
   try clear p18
   try clear p2
   try clear p6
   try clear q1
   try clear q12
   try clear q18
   obtain ⟨x5_3, x8_3, rfl, HA, HK3, HO_5, BK162, HB⟩ := hrel
   have hl5_3 := (Kd.R_reads' HO_5.out).1
   rw [hl5_3] at HO_5
   (try simp only [hl5_3])
   (try simp only [hl5_3] at BK162)
   cases gk with
   | zero => exact absurd HA.out (by simp [spec_l3All.l2])
   | succ k3 =>
    have H := HA.out
    clear HA
    simp only [spec_l3All.l2] at H
    by_cases c24 : x8_3 < (l0_1.length : Int)
    rotate_left
    ·rw [if_neg c24] at H
     have c24b0 : decide (x8_3 < (l0_1.length : Int)) = false := decide_eq_false c24
     clear c24
     have H' := ak H
     clear H
     have hcz53_0 := bc wr BK162 0 (.int .i64 a0_0) rfl
     have hcz53_1 := bc wr BK162 1 (.slice A0_1 l0_1.length c0_1) rfl
     have hfz53_0 := fz BK162 0
     have hfz53_1 := fz BK162 1
     go_wp2
     (try simp only [← hl5_2, ← hl5_3])
     go_roundg k3
     case measure => have := HK1.out; have := HK2.out; have := HK3.out; omega
     case rel => exact ⟨(x5_3), (wrap64 (x7_2 + 1)), (by first | rfl | (simp; done) | (simp [*]; done)), H', ⟨by have := HK1.out; have := HK2.out; have := HK3.out; omega⟩, ⟨by (try simp only [hl5_2]); (try simp only [hl5_3]); (with_reducible repeat (first | apply Kd.R_alloc | apply Kd.R_drewN | apply Kd.R_drew)); exact HO_5.out⟩, ⟨by (try simp only [hl5_2]); (try simp only [hl5_3]); (with_reducible repeat (first | refine blk_drewN ?_ _ | refine blk_drew ?_ | refine blk_alloc ?_ _)); exact BK162.out⟩, ⟨bl1 HB GE162⟩⟩
    rw [if_pos c24] at H
    have c24b0 : decide (x8_3 < (l0_1.length : Int)) = true := decide_eq_true c24
    clear c24
    by_cases c25 : 0 ≤ x8_3
    rotate_left
    ·rw [if_neg c25] at H
     exact absurd H (by simp)
    rw [if_pos c25] at H
    have c25b0 : decide (0 ≤ x8_3) = true := decide_eq_true c25
    clear c25
    by_cases c26 : 0 ≤ ((rd_T58 l0_1 x8_3).f0)
    rotate_left
    ·rw [if_neg c26] at H
     exact absurd H (by simp)
    rw [if_pos c26] at H
    have c26b0 : decide (0 ≤ ((rd_T58 l0_1 x8_3).f0)) = true := decide_eq_true c26
    clear c26
    by_cases c27 : ((rd_T58 l0_1 x8_3).f0) < (x5_3.length : Int)
    rotate_left
    ·rw [if_neg c27] at H
     exact absurd H (by simp)
    rw [if_pos c27] at H
    have c27b0 : decide (((rd_T58 l0_1 x8_3).f0) < (x5_3.length : Int)) = true := decide_eq_true c27
    clear c27
    by_cases c28 : (rd x5_3 ((rd_T58 l0_1 x8_3).f0)) < 99999
    rotate_left
    ·rw [if_neg c28] at H
     have c28b0 : decide ((rd x5_3 ((rd_T58 l0_1 x8_3).f0)) < 99999) = false := decide_eq_false c28
     clear c28
     have H' := ak H
     clear H
     have hcz47_0 := bc wr BK162 0 (.int .i64 a0_0) rfl
     have hcz47_1 := bc wr BK162 1 (.slice A0_1 l0_1.length c0_1) rfl
     have hfz47_0 := fz BK162 0
     have hfz47_1 := fz BK162 1
     have p168 : 0 ≤ (x8_3 : Int) := oT (by first | (with_reducible assumption) | assumption)
     have q168 : x8_3 < (l0_1.length : Int) := oT (by first | (with_reducible assumption) | assumption)
     obtain ⟨ad168, e168, hx168_0, hx168_1, hx168_2, hx168_3, hx168_4⟩ := at_T58 HR0_1.out x8_3 p168 q168
     cases e168
     replace hx168_0 := hcb HB.out hx168_0
     replace hx168_1 := hcb HB.out hx168_1
     replace hx168_2 := hcb HB.out hx168_2
     replace hx168_3 := hcb HB.out hx168_3
     replace hx168_4 := hcb HB.out hx168_4
     replace p168 := eq_true p168
     replace q168 := eq_true q168
     try go_wp2_with (first | ((with_reducible refine gate_dst (N := 9) rfl ?_); refine box_event ?hg (N := 9) ?hd (cs := #[.int .i64 0, .int .i64 0, .int .i64 0, .int .i64 0, .int .i64 0]) (t := 58) ?hr ?_; (case hd => rfl); (case hg => rfl); (case hr => first | (go_simp; done) | (go_simp; rfl)); intro gb169 hg w48 hbox hb; replace HO_5 := ak (Kd.R_below (rk HO_5) hb); have BK169 := ak (hbox); have GW169 := ak ((by rw [hg]; exact (below_size (bl1 HB GE162)) : w.heap.size ≤ gb169)); have GE169 := ak ((by rw [hg]; exact (below_size (bl1 HB GE162)) : w.heap.size ≤ gb169)); replace HB := ak (below_step (bl1 HB GE162) hb); have NB162_169 := ak ((by rw [hg]; exact Nat.ne_of_lt (blk_lt (bk BK162)) : gb162 ≠ gb169)); have NB169_162 := ak ((by rw [hg]; exact Nat.ne_of_gt (blk_lt (bk BK162)) : gb169 ≠ gb162)); replace BK162 := ak (blk_below (bk BK162) hb); clear hb hbox hg; have hnb49 := NB169_162.out; have hnc49 := NB162_169.out; have hcz50_0 := bc w48 BK169 0 (.int .i64 0) rfl; have hcz50_1 := bc w48 BK169 1 (.int .i64 0) rfl; have hcz50_2 := bc w48 BK169 2 (.int .i64 0) rfl; have hcz50_3 := bc w48 BK169 3 (.int .i64 0) rfl; have hcz50_4 := bc w48 BK169 4 (.int .i64 0) rfl; have hfz50_0 := fz BK169 0; have hfz50_1 := fz BK169 1; have hfz50_2 := fz BK169 2; have hfz50_3 := fz BK169 3; have hfz50_4 := fz BK169 4))
     have n0_ : Aside0 (Kd.R (Kd.int .i64) 3 (((((w48.setCell ⟨gb169, 0, none⟩ (.int .i64 ((rd_T58 l0_1 x8_3).f0))).setCell ⟨gb169, 1, none⟩ (.int .i64 ((rd_T58 l0_1 x8_3).f1))).setCell ⟨gb169, 2, none⟩ (.int .i64 ((rd_T58 l0_1 x8_3).f2))).setCell ⟨gb169, 3, none⟩ (.int .i64 ((rd_T58 l0_1 x8_3).f3))).setCell ⟨gb169, 4, none⟩ (.int .i64 ((rd_T58 l0_1 x8_3).f4))) w.heap.size (fun _ => True) (.slice (some ⟨go18, 0, none⟩) x5_3.length co18) x5_3) := ⟨by (with_reducible repeat (first | apply Kd.R_alloc | apply Kd.R_drewN | apply Kd.R_drew)); exact Kd.R_mono (Kd.R_far (p := ⟨gb169, 4, none⟩) (Kd.R_far (p := ⟨gb169, 3, none⟩) (Kd.R_far (p := ⟨gb169, 2, none⟩) (Kd.R_far (p := ⟨gb169, 1, none⟩) (Kd.R_far (p := ⟨gb169, 0, none⟩) (Kd.R_types HO_5.out BK169.out (by decide)) (fun _ hk => hk.2) (.int .i64 ((rd_T58 l0_1 x8_3).f0))) (fun _ hk => hk.2) (.int .i64 ((rd_T58 l0_1 x8_3).f1))) (fun _ hk => hk.2) (.int .i64 ((rd_T58 l0_1 x8_3).f2))) (fun _ hk => hk.2) (.int .i64 ((rd_T58 l0_1 x8_3).f3))) (fun _ hk => hk.2) (.int .i64 ((rd_T58 l0_1 x8_3).f4))) (fun _ hk => trivial)⟩
     have n1_ : Aside0 ((((((w48.setCell ⟨gb169, 0, none⟩ (.int .i64 ((rd_T58 l0_1 x8_3).f0))).setCell ⟨gb169, 1, none⟩ (.int .i64 ((rd_T58 l0_1 x8_3).f1))).setCell ⟨gb169, 2, none⟩ (.int .i64 ((rd_T58 l0_1 x8_3).f2))).setCell ⟨gb169, 3, none⟩ (.int .i64 ((rd_T58 l0_1 x8_3).f3))).setCell ⟨gb169, 4, none⟩ (.int .i64 ((rd_T58 l0_1 x8_3).f4))).heap[gb162]? = some (.cells #[.int .i64 a0_0, .slice (some ad168) l0_1.length c0_1] 25 (0, 0))) := ⟨by (with_reducible repeat (first | refine blk_drewN ?_ _ | refine blk_drew ?_ | refine blk_alloc ?_ _)); refine blk_far ?_ NB162_169.out _; refine blk_far ?_ NB162_169.out _; refine blk_far ?_ NB162_169.out _; refine blk_far ?_ NB162_169.out _; refine blk_far ?_ NB162_169.out _; (with_reducible repeat (first | refine blk_drewN ?_ _ | refine blk_drew ?_ | refine blk_alloc ?_ _)); exact BK162.out⟩
     have n2_ : Aside0 ((((((w48.setCell ⟨gb169, 0, none⟩ (.int .i64 ((rd_T58 l0_1 x8_3).f0))).setCell ⟨gb169, 1, none⟩ (.int .i64 ((rd_T58 l0_1 x8_3).f1))).setCell ⟨gb169, 2, none⟩ (.int .i64 ((rd_T58 l0_1 x8_3).f2))).setCell ⟨gb169, 3, none⟩ (.int .i64 ((rd_T58 l0_1 x8_3).f3))).setCell ⟨gb169, 4, none⟩ (.int .i64 ((rd_T58 l0_1 x8_3).f4))).heap[gb169]? = some (.cells #[.int .i64 ((rd_T58 l0_1 x8_3).f0), .int .i64 ((rd_T58 l0_1 x8_3).f1), .int .i64 ((rd_T58 l0_1 x8_3).f2), .int .i64 ((rd_T58 l0_1 x8_3).f3), .int .i64 ((rd_T58 l0_1 x8_3).f4)] 58 (0, 0))) := ⟨by (with_reducible repeat (first | refine blk_drewN ?_ _ | refine blk_drew ?_ | refine blk_alloc ?_ _)); refine blk_put (cs := #[.int .i64 ((rd_T58 l0_1 x8_3).f0), .int .i64 ((rd_T58 l0_1 x8_3).f1), .int .i64 ((rd_T58 l0_1 x8_3).f2), .int .i64 ((rd_T58 l0_1 x8_3).f3), .int .i64 0]) ?_ 4 _ rfl; refine blk_put (cs := #[.int .i64 ((rd_T58 l0_1 x8_3).f0), .int .i64 ((rd_T58 l0_1 x8_3).f1), .int .i64 ((rd_T58 l0_1 x8_3).f2), .int .i64 0, .int .i64 0]) ?_ 3 _ rfl; refine blk_put (cs := #[.int .i64 ((rd_T58 l0_1 x8_3).f0), .int .i64 ((rd_T58 l0_1 x8_3).f1), .int .i64 0, .int .i64 0, .int .i64 0]) ?_ 2 _ rfl; refine blk_put (cs := #[.int .i64 ((rd_T58 l0_1 x8_3).f0), .int .i64 0, .int .i64 0, .int .i64 0, .int .i64 0]) ?_ 1 _ rfl; refine blk_put (cs := #[.int .i64 0, .int .i64 0, .int .i64 0, .int .i64 0, .int .i64 0]) ?_ 0 _ rfl; (with_reducible repeat (first | refine blk_drewN ?_ _ | refine blk_drew ?_ | refine blk_alloc ?_ _)); exact BK169.out⟩
     have n3_ : Aside0 (Below w.heap.size w (((((w48.setCell ⟨gb169, 0, none⟩ (.int .i64 ((rd_T58 l0_1 x8_3).f0))).setCell ⟨gb169, 1, none⟩ (.int .i64 ((rd_T58 l0_1 x8_3).f1))).setCell ⟨gb169, 2, none⟩ (.int .i64 ((rd_T58 l0_1 x8_3).f2))).setCell ⟨gb169, 3, none⟩ (.int .i64 ((rd_T58 l0_1 x8_3).f3))).setCell ⟨gb169, 4, none⟩ (.int .i64 ((rd_T58 l0_1 x8_3).f4)))) := ⟨bl2 HB GE162 GE169⟩
     (try clear HO_5)
     (try clear BK162)
     (try clear BK169)
     (try clear HB)
     generalize (((((w48.setCell ⟨gb169, 0, none⟩ (.int .i64 ((rd_T58 l0_1 x8_3).f0))).setCell ⟨gb169, 1, none⟩ (.int .i64 ((rd_T58 l0_1 x8_3).f1))).setCell ⟨gb169, 2, none⟩ (.int .i64 ((rd_T58 l0_1 x8_3).f2))).setCell ⟨gb169, 3, none⟩ (.int .i64 ((rd_T58 l0_1 x8_3).f3))).setCell ⟨gb169, 4, none⟩ (.int .i64 ((rd_T58 l0_1 x8_3).f4))) = w51 at n0_ n1_ n2_ n3_ ⊢
     have HO_5 := n0_
     have BK162 := n1_
     have BK169 := n2_
     have HB := n3_
     clear n0_ n1_ n2_ n3_
     replace HO_5 := ak (Kd.R_drew HO_5.out)
     replace BK162 := ak (blk_drew BK162.out)
     replace BK169 := ak (blk_drew BK169.out)
     replace HB := ak (below_drew1 HB.out)
     have p170 : 0 ≤ (((rd_T58 l0_1 x8_3).f0) : Int) := oT (by first | (with_reducible assumption) | assumption)
     have q170 : ((rd_T58 l0_1 x8_3).f0) < (x5_3.length : Int) := oT (by first | (with_reducible assumption) | assumption)
     obtain ⟨ad170, e170, hx170_0⟩ := Kd.at_int (Kd.R_reads' HO_5.out).2.2 ((rd_T58 l0_1 x8_3).f0) p170 q170
     obtain rfl : (⟨go18, 0, none⟩ : Addr) = ad170 := (by injection e170)
     (first | simp only [add_plain] at hx170_0 | simp only [add_at] at hx170_0 | simp only [Addr.add, Nat.zero_add] at hx170_0 | skip)
     replace p170 := eq_true p170
     replace q170 := eq_true q170
     refine start_ (n := 22) (S := fun w' => w'.cell? ⟨gb169, 0, none⟩ = some (.int .i64 ((rd_T58 l0_1 x8_3).f0)) ∧ w'.cell? ⟨gb169, 1, none⟩ = some (.int .i64 ((rd_T58 l0_1 x8_3).f1)) ∧ w'.cell? ⟨gb169, 2, none⟩ = some (.int .i64 ((rd_T58 l0_1 x8_3).f2)) ∧ w'.cell? ⟨gb169, 3, none⟩ = some (.int .i64 ((rd_T58 l0_1 x8_3).f3)) ∧ w'.cell? ⟨gb169, 4, none⟩ = some (.int .i64 ((rd_T58 l0_1 x8_3).f4)) ∧ w'.cell? ⟨go18, (((rd_T58 l0_1 x8_3).f0)).toNat, none⟩ = some (.int .i64 (rd x5_3 ((rd_T58 l0_1 x8_3).f0)))) (ds := []) (ms 22 0) (by kernel_rfl) rfl (by kernel_rfl) ⟨(blk_cell BK169.out 0).trans rfl, (blk_cell BK169.out 1).trans rfl, (blk_cell BK169.out 2).trans rfl, (blk_cell BK169.out 3).trans rfl, (blk_cell BK169.out 4).trans rfl, hx170_0⟩ (fun hHeld => ?_); refine with_tabW spec_l3All.tab14 spec_l3All.bits14 (fun HT_ HW_ => ?_)
     generalize w51.drew = w52 at HO_5 BK162 BK169 HB hx170_0 hHeld ⊢
     refine pu 0 43 ?_ (ms 22 1) rfl rfl HT_ (by kernel_rfl) (fun _ _ _ h => h) (by rfl) ?_ ?_ ?_ ?_
     rotate_left
     ·intro w'
      go_simp
      with_reducible rfl
     rotate_left
     ·simp only [SX]
      rfl
     refine pu 1 44 ?_ (ms 22 3) rfl rfl HT_ (by kernel_rfl) (fun _ _ _ h => h) (by rfl) ?_ ?_ ?_ ?_
     rotate_left
     ·intro w'
      go_simp
      with_reducible rfl
     rotate_left
     ·simp only [SX]
      rfl
     refine tk 2 45 ?_ (ms 22 7) rfl rfl HT_ HW_ (by kernel_rfl) (fun _ _ _ h => h) (by rfl) ?_ hHeld ?_ ?_ ?_
     rotate_left
     ·rintro w' ⟨s0, s1, s2, s3, s4, s5⟩
      go_simp
      with_reducible rfl
     rotate_left
     ·simp only [SX]
      rfl
     refine pu 3 46 ?_ (ms 22 15) rfl rfl HT_ (by kernel_rfl) (fun _ _ _ h => h) (by rfl) ?_ ?_ ?_ ?_
     rotate_left
     ·intro w'
      go_simp
      with_reducible rfl
     rotate_left
     ·simp only [SX]
      rfl
     refine tk 4 47 ?_ (ms 22 31) rfl rfl HT_ HW_ (by kernel_rfl) (fun _ _ _ h => h) (by rfl) ?_ hHeld ?_ ?_ ?_
     rotate_left
     ·rintro w' ⟨s0, s1, s2, s3, s4, s5⟩
      go_simp
      with_reducible rfl
     rotate_left
     ·simp only [SX]
      rfl
     refine pu 5 48 ?_ (ms 22 63) rfl rfl HT_ (by kernel_rfl) (fun _ _ _ h => h) (by rfl) ?_ ?_ ?_ ?_
     rotate_left
     ·intro w'
      go_simp
      with_reducible rfl
     rotate_left
     ·simp only [SX]
      rfl
     refine pu 6 49 ?_ (ms 22 127) rfl rfl HT_ (by kernel_rfl) (fun _ _ _ h => h) (by rfl) ?_ ?_ ?_ ?_
     rotate_left
     ·intro w'
      go_simp
      with_reducible rfl
     rotate_left
     ·simp only [SX]
      rfl
     refine pure_ (i := 7) (N := some 50) (v := undef) (a' := ?_) (ms 22 255) rfl rfl (any_of HT_.out (by kernel_rfl)) (fun _ _ _ h => h) (Or.inr ⟨by rfl, rfl⟩) ?_ ?_
     rotate_left
     ·simp only [SX]
      rfl
     refine pure_ (i := 8) (N := some 51) (v := undef) (a' := ?_) (ms 22 511) rfl rfl (any_of HT_.out (by kernel_rfl)) (fun _ _ _ h => h) (Or.inr ⟨by rfl, rfl⟩) ?_ ?_
     rotate_left
     ·simp only [SX]
      rfl
     refine pure_ (i := 9) (N := some 52) (v := undef) (a' := ?_) (ms 22 1023) rfl rfl (any_of HT_.out (by kernel_rfl)) (fun _ _ _ h => h) (Or.inr ⟨by rfl, rfl⟩) ?_ ?_
     rotate_left
     ·simp only [SX]
      rfl
     refine pure_ (i := 10) (N := some 53) (v := undef) (a' := ?_) (ms 22 2047) rfl rfl (any_of HT_.out (by kernel_rfl)) (fun _ _ _ h => h) (Or.inr ⟨by rfl, rfl⟩) ?_ ?_
     rotate_left
     ·simp only [SX]
      rfl
     refine pure_ (i := 11) (N := some 54) (v := undef) (a' := ?_) (ms 22 4095) rfl rfl (any_of HT_.out (by kernel_rfl)) (fun _ _ _ h => h) (Or.inr ⟨by rfl, rfl⟩) ?_ ?_
     rotate_left
     ·simp only [SX]
      rfl
     refine pure_ (i := 12) (N := some 55) (v := undef) (a' := ?_) (ms 22 8191) rfl rfl (any_of HT_.out (by kernel_rfl)) (fun _ _ _ h => h) (Or.inr ⟨by rfl, rfl⟩) ?_ ?_
     rotate_left
     ·simp only [SX]
      rfl
     refine pure_ (i := 13) (N := some 56) (v := undef) (a' := ?_) (ms 22 16383) rfl rfl (any_of HT_.out (by kernel_rfl)) (fun _ _ _ h => h) (Or.inr ⟨by rfl, rfl⟩) ?_ ?_
     rotate_left
     ·simp only [SX]
      rfl
     refine pure_ (i := 14) (N := some 57) (v := undef) (a' := ?_) (ms 22 32767) rfl rfl (any_of HT_.out (by kernel_rfl)) (fun _ _ _ h => h) (Or.inr ⟨by rfl, rfl⟩) ?_ ?_
     rotate_left
     ·simp only [SX]
      rfl
     refine pure_ (i := 15) (N := some 58) (v := undef) (a' := ?_) (ms 22 65535) rfl rfl (any_of HT_.out (by kernel_rfl)) (fun _ _ _ h => h) (Or.inr ⟨by rfl, rfl⟩) ?_ ?_
     rotate_left
     ·simp only [SX]
      rfl
     refine pure_ (i := 16) (N := some 59) (v := undef) (a' := ?_) (ms 22 131071) rfl rfl (any_of HT_.out (by kernel_rfl)) (fun _ _ _ h => h) (Or.inr ⟨by rfl, rfl⟩) ?_ ?_
     rotate_left
     ·simp only [SX]
      rfl
     refine pure_ (i := 17) (N := some 60) (v := undef) (a' := ?_) (ms 22 262143) rfl rfl (any_of HT_.out (by kernel_rfl)) (fun _ _ _ h => h) (Or.inr ⟨by rfl, rfl⟩) ?_ ?_
     rotate_left
     ·simp only [SX]
      rfl
     refine pure_ (i := 18) (N := some 61) (v := undef) (a' := ?_) (ms 22 524287) rfl rfl (any_of HT_.out (by kernel_rfl)) (fun _ _ _ h => h) (Or.inr ⟨by rfl, rfl⟩) ?_ ?_
     rotate_left
     ·simp only [SX]
      rfl
     refine pure_ (i := 19) (N := some 62) (v := undef) (a' := ?_) (ms 22 1048575) rfl rfl (any_of HT_.out (by kernel_rfl)) (fun _ _ _ h => h) (Or.inr ⟨by rfl, rfl⟩) ?_ ?_
     rotate_left
     ·simp only [SX]
      rfl
     refine pure_ (i := 20) (N := some 63) (v := undef) (a' := ?_) (ms 22 2097151) rfl rfl (any_of HT_.out (by kernel_rfl)) (fun _ _ _ h => h) (Or.inr ⟨by rfl, rfl⟩) ?_ ?_
     rotate_left
     ·simp only [SX]
      rfl
     refine pu 21 64 ?_ (ms 22 4194303) rfl rfl HT_ (by kernel_rfl) (fun _ _ _ h => h) (by rfl) ?_ ?_ ?_ ?_
     rotate_left
     ·intro w'
      go_simp
      with_reducible rfl
     rotate_left
     ·simp only [SX]
      rfl
     refine done_ (done_of HT_.out (by kernel_rfl)) ?_
     try go_wp2
     (try simp only [← hl5_3])
     go_roundg k3
     case measure => have := HK1.out; have := HK2.out; have := HK3.out; omega
     case rel => exact ⟨(x5_3), (wrap64 (x8_3 + 1)), (by first | rfl | (simp; done) | (simp [*]; done)), H', ⟨by have := HK1.out; have := HK2.out; have := HK3.out; omega⟩, ⟨by (try simp only [hl5_2]); (try simp only [hl5_3]); (with_reducible repeat (first | apply Kd.R_alloc | apply Kd.R_drewN | apply Kd.R_drew)); exact HO_5.out⟩, ⟨by (try simp only [hl5_2]); (try simp only [hl5_3]); (with_reducible repeat (first | refine blk_drewN ?_ _ | refine blk_drew ?_ | refine blk_alloc ?_ _)); exact BK162.out⟩, ⟨bl2 HB GE162 GE169⟩⟩
    rw [if_pos c28] at H
    have c28b0 : decide ((rd x5_3 ((rd_T58 l0_1 x8_3).f0)) < 99999) = true := decide_eq_true c28
    clear c28
    by_cases c29 : 0 ≤ ((rd_T58 l0_1 x8_3).f1)
    rotate_left
    ·rw [if_neg c29] at H
     exact absurd H (by simp)
    rw [if_pos c29] at H
    have c29b0 : decide (0 ≤ ((rd_T58 l0_1 x8_3).f1)) = true := decide_eq_true c29
    clear c29
    by_cases c30 : ((rd_T58 l0_1 x8_3).f1) < (x5_3.length : Int)
    rotate_left
    ·rw [if_neg c30] at H
     exact absurd H (by simp)
    rw [if_pos c30] at H
    have c30b0 : decide (((rd_T58 l0_1 x8_3).f1) < (x5_3.length : Int)) = true := decide_eq_true c30
    clear c30
    by_cases c31 : (wrap64 ((rd x5_3 ((rd_T58 l0_1 x8_3).f0)) + ((rd_T58 l0_1 x8_3).f2))) < (rd x5_3 ((rd_T58 l0_1 x8_3).f1))
    rotate_left
    ·rw [if_neg c31] at H
     have c31b0 : decide ((wrap64 ((rd x5_3 ((rd_T58 l0_1 x8_3).f0)) + ((rd_T58 l0_1 x8_3).f2))) < (rd x5_3 ((rd_T58 l0_1 x8_3).f1))) = false := decide_eq_false c31
     clear c31
     have H' := ak H
     clear H
     have hcz41_0 := bc wr BK162 0 (.int .i64 a0_0) rfl
     have hcz41_1 := bc wr BK162 1 (.slice A0_1 l0_1.length c0_1) rfl
     have hfz41_0 := fz BK162 0
     have hfz41_1 := fz BK162 1
     have p168 : 0 ≤ (x8_3 : Int) := oT (by first | (with_reducible assumption) | assumption)
     have q168 : x8_3 < (l0_1.length : Int) := oT (by first | (with_reducible assumption) | assumption)
     obtain ⟨ad168, e168, hx168_0, hx168_1, hx168_2, hx168_3, hx168_4⟩ := at_T58 HR0_1.out x8_3 p168 q168
     cases e168
     replace hx168_0 := hcb HB.out hx168_0
     replace hx168_1 := hcb HB.out hx168_1
     replace hx168_2 := hcb HB.out hx168_2
     replace hx168_3 := hcb HB.out hx168_3
     replace hx168_4 := hcb HB.out hx168_4
     replace p168 := eq_true p168
     replace q168 := eq_true q168
     try go_wp2_with (first | ((with_reducible refine gate_dst (N := 9) rfl ?_); refine box_event ?hg (N := 9) ?hd (cs := #[.int .i64 0, .int .i64 0, .int .i64 0, .int .i64 0, .int .i64 0]) (t := 58) ?hr ?_; (case hd => rfl); (case hg => rfl); (case hr => first | (go_simp; done) | (go_simp; rfl)); intro gb169 hg w42 hbox hb; replace HO_5 := ak (Kd.R_below (rk HO_5) hb); have BK169 := ak (hbox); have GW169 := ak ((by rw [hg]; exact (below_size (bl1 HB GE162)) : w.heap.size ≤ gb169)); have GE169 := ak ((by rw [hg]; exact (below_size (bl1 HB GE162)) : w.heap.size ≤ gb169)); replace HB := ak (below_step (bl1 HB GE162) hb); have NB162_169 := ak ((by rw [hg]; exact Nat.ne_of_lt (blk_lt (bk BK162)) : gb162 ≠ gb169)); have NB169_162 := ak ((by rw [hg]; exact Nat.ne_of_gt (blk_lt (bk BK162)) : gb169 ≠ gb162)); replace BK162 := ak (blk_below (bk BK162) hb); clear hb hbox hg; have hnb43 := NB169_162.out; have hnc43 := NB162_169.out; have hcz44_0 := bc w42 BK169 0 (.int .i64 0) rfl; have hcz44_1 := bc w42 BK169 1 (.int .i64 0) rfl; have hcz44_2 := bc w42 BK169 2 (.int .i64 0) rfl; have hcz44_3 := bc w42 BK169 3 (.int .i64 0) rfl; have hcz44_4 := bc w42 BK169 4 (.int .i64 0) rfl; have hfz44_0 := fz BK169 0; have hfz44_1 := fz BK169 1; have hfz44_2 := fz BK169 2; have hfz44_3 := fz BK169 3; have hfz44_4 := fz BK169 4))
     have n0_ : Aside0 (Kd.R (Kd.int .i64) 3 (((((w42.setCell ⟨gb169, 0, none⟩ (.int .i64 ((rd_T58 l0_1 x8_3).f0))).setCell ⟨gb169, 1, none⟩ (.int .i64 ((rd_T58 l0_1 x8_3).f1))).setCell ⟨gb169, 2, none⟩ (.int .i64 ((rd_T58 l0_1 x8_3).f2))).setCell ⟨gb169, 3, none⟩ (.int .i64 ((rd_T58 l0_1 x8_3).f3))).setCell ⟨gb169, 4, none⟩ (.int .i64 ((rd_T58 l0_1 x8_3).f4))) w.heap.size (fun _ => True) (.slice (some ⟨go18, 0, none⟩) x5_3.length co18) x5_3) := ⟨by (with_reducible repeat (first | apply Kd.R_alloc | apply Kd.R_drewN | apply Kd.R_drew)); exact Kd.R_mono (Kd.R_far (p := ⟨gb169, 4, none⟩) (Kd.R_far (p := ⟨gb169, 3, none⟩) (Kd.R_far (p := ⟨gb169, 2, none⟩) (Kd.R_far (p := ⟨gb169, 1, none⟩) (Kd.R_far (p := ⟨gb169, 0, none⟩) (Kd.R_types HO_5.out BK169.out (by decide)) (fun _ hk => hk.2) (.int .i64 ((rd_T58 l0_1 x8_3).f0))) (fun _ hk => hk.2) (.int .i64 ((rd_T58 l0_1 x8_3).f1))) (fun _ hk => hk.2) (.int .i64 ((rd_T58 l0_1 x8_3).f2))) (fun _ hk => hk.2) (.int .i64 ((rd_T58 l0_1 x8_3).f3))) (fun _ hk => hk.2) (.int .i64 ((rd_T58 l0_1 x8_3).f4))) (fun _ hk => trivial)⟩
     have n1_ : Aside0 ((((((w42.setCell ⟨gb169, 0, none⟩ (.int .i64 ((rd_T58 l0_1 x8_3).f0))).setCell ⟨gb169, 1, none⟩ (.int .i64 ((rd_T58 l0_1 x8_3).f1))).setCell ⟨gb169, 2, none⟩ (.int .i64 ((rd_T58 l0_1 x8_3).f2))).setCell ⟨gb169, 3, none⟩ (.int .i64 ((rd_T58 l0_1 x8_3).f3))).setCell ⟨gb169, 4, none⟩ (.int .i64 ((rd_T58 l0_1 x8_3).f4))).heap[gb162]? = some (.cells #[.int .i64 a0_0, .slice (some ad168) l0_1.length c0_1] 25 (0, 0))) := ⟨by (with_reducible repeat (first | refine blk_drewN ?_ _ | refine blk_drew ?_ | refine blk_alloc ?_ _)); refine blk_far ?_ NB162_169.out _; refine blk_far ?_ NB162_169.out _; refine blk_far ?_ NB162_169.out _; refine blk_far ?_ NB162_169.out _; refine blk_far ?_ NB162_169.out _; (with_reducible repeat (first | refine blk_drewN ?_ _ | refine blk_drew ?_ | refine blk_alloc ?_ _)); exact BK162.out⟩
     have n2_ : Aside0 ((((((w42.setCell ⟨gb169, 0, none⟩ (.int .i64 ((rd_T58 l0_1 x8_3).f0))).setCell ⟨gb169, 1, none⟩ (.int .i64 ((rd_T58 l0_1 x8_3).f1))).setCell ⟨gb169, 2, none⟩ (.int .i64 ((rd_T58 l0_1 x8_3).f2))).setCell ⟨gb169, 3, none⟩ (.int .i64 ((rd_T58 l0_1 x8_3).f3))).setCell ⟨gb169, 4, none⟩ (.int .i64 ((rd_T58 l0_1 x8_3).f4))).heap[gb169]? = some (.cells #[.int .i64 ((rd_T58 l0_1 x8_3).f0), .int .i64 ((rd_T58 l0_1 x8_3).f1), .int .i64 ((rd_T58 l0_1 x8_3).f2), .int .i64 ((rd_T58 l0_1 x8_3).f3), .int .i64 ((rd_T58 l0_1 x8_3).f4)] 58 (0, 0))) := ⟨by (with_reducible repeat (first | refine blk_drewN ?_ _ | refine blk_drew ?_ | refine blk_alloc ?_ _)); refine blk_put (cs := #[.int .i64 ((rd_T58 l0_1 x8_3).f0), .int .i64 ((rd_T58 l0_1 x8_3).f1), .int .i64 ((rd_T58 l0_1 x8_3).f2), .int .i64 ((rd_T58 l0_1 x8_3).f3), .int .i64 0]) ?_ 4 _ rfl; refine blk_put (cs := #[.int .i64 ((rd_T58 l0_1 x8_3).f0), .int .i64 ((rd_T58 l0_1 x8_3).f1), .int .i64 ((rd_T58 l0_1 x8_3).f2), .int .i64 0, .int .i64 0]) ?_ 3 _ rfl; refine blk_put (cs := #[.int .i64 ((rd_T58 l0_1 x8_3).f0), .int .i64 ((rd_T58 l0_1 x8_3).f1), .int .i64 0, .int .i64 0, .int .i64 0]) ?_ 2 _ rfl; refine blk_put (cs := #[.int .i64 ((rd_T58 l0_1 x8_3).f0), .int .i64 0, .int .i64 0, .int .i64 0, .int .i64 0]) ?_ 1 _ rfl; refine blk_put (cs := #[.int .i64 0, .int .i64 0, .int .i64 0, .int .i64 0, .int .i64 0]) ?_ 0 _ rfl; (with_reducible repeat (first | refine blk_drewN ?_ _ | refine blk_drew ?_ | refine blk_alloc ?_ _)); exact BK169.out⟩
     have n3_ : Aside0 (Below w.heap.size w (((((w42.setCell ⟨gb169, 0, none⟩ (.int .i64 ((rd_T58 l0_1 x8_3).f0))).setCell ⟨gb169, 1, none⟩ (.int .i64 ((rd_T58 l0_1 x8_3).f1))).setCell ⟨gb169, 2, none⟩ (.int .i64 ((rd_T58 l0_1 x8_3).f2))).setCell ⟨gb169, 3, none⟩ (.int .i64 ((rd_T58 l0_1 x8_3).f3))).setCell ⟨gb169, 4, none⟩ (.int .i64 ((rd_T58 l0_1 x8_3).f4)))) := ⟨bl2 HB GE162 GE169⟩
     (try clear HO_5)
     (try clear BK162)
     (try clear BK169)
     (try clear HB)
     generalize (((((w42.setCell ⟨gb169, 0, none⟩ (.int .i64 ((rd_T58 l0_1 x8_3).f0))).setCell ⟨gb169, 1, none⟩ (.int .i64 ((rd_T58 l0_1 x8_3).f1))).setCell ⟨gb169, 2, none⟩ (.int .i64 ((rd_T58 l0_1 x8_3).f2))).setCell ⟨gb169, 3, none⟩ (.int .i64 ((rd_T58 l0_1 x8_3).f3))).setCell ⟨gb169, 4, none⟩ (.int .i64 ((rd_T58 l0_1 x8_3).f4))) = w45 at n0_ n1_ n2_ n3_ ⊢
     have HO_5 := n0_
     have BK162 := n1_
     have BK169 := n2_
     have HB := n3_
     clear n0_ n1_ n2_ n3_
     replace HO_5 := ak (Kd.R_drew HO_5.out)
     replace BK162 := ak (blk_drew BK162.out)
     replace BK169 := ak (blk_drew BK169.out)
     replace HB := ak (below_drew1 HB.out)
     have p170 : 0 ≤ (((rd_T58 l0_1 x8_3).f0) : Int) := oT (by first | (with_reducible assumption) | assumption)
     have q170 : ((rd_T58 l0_1 x8_3).f0) < (x5_3.length : Int) := oT (by first | (with_reducible assumption) | assumption)
     obtain ⟨ad170, e170, hx170_0⟩ := Kd.at_int (Kd.R_reads' HO_5.out).2.2 ((rd_T58 l0_1 x8_3).f0) p170 q170
     obtain rfl : (⟨go18, 0, none⟩ : Addr) = ad170 := (by injection e170)
     (first | simp only [add_plain] at hx170_0 | simp only [add_at] at hx170_0 | simp only [Addr.add, Nat.zero_add] at hx170_0 | skip)
     replace p170 := eq_true p170
     replace q170 := eq_true q170
     have p171 : 0 ≤ (((rd_T58 l0_1 x8_3).f0) : Int) := oT (by first | (with_reducible assumption) | assumption)
     have q171 : ((rd_T58 l0_1 x8_3).f0) < (x5_3.length : Int) := oT (by first | (with_reducible assumption) | assumption)
     obtain ⟨ad171, e171, hx171_0⟩ := Kd.at_int (Kd.R_reads' HO_5.out).2.2 ((rd_T58 l0_1 x8_3).f0) p171 q171
     obtain rfl : (⟨go18, 0, none⟩ : Addr) = ad171 := (by injection e171)
     (first | simp only [add_plain] at hx171_0 | simp only [add_at] at hx171_0 | simp only [Addr.add, Nat.zero_add] at hx171_0 | skip)
     replace p171 := eq_true p171
     replace q171 := eq_true q171
     have p172 : 0 ≤ (((rd_T58 l0_1 x8_3).f1) : Int) := oT (by first | (with_reducible assumption) | assumption)
     have q172 : ((rd_T58 l0_1 x8_3).f1) < (x5_3.length : Int) := oT (by first | (with_reducible assumption) | assumption)
     obtain ⟨ad172, e172, hx172_0⟩ := Kd.at_int (Kd.R_reads' HO_5.out).2.2 ((rd_T58 l0_1 x8_3).f1) p172 q172
     obtain rfl : (⟨go18, 0, none⟩ : Addr) = ad172 := (by injection e172)
     (first | simp only [add_plain] at hx172_0 | simp only [add_at] at hx172_0 | simp only [Addr.add, Nat.zero_add] at hx172_0 | skip)
     replace p172 := eq_true p172
     replace q172 := eq_true q172
     refine start_ (n := 22) (S := fun w' => w'.cell? ⟨gb169, 0, none⟩ = some (.int .i64 ((rd_T58 l0_1 x8_3).f0)) ∧ w'.cell? ⟨gb169, 1, none⟩ = some (.int .i64 ((rd_T58 l0_1 x8_3).f1)) ∧ w'.cell? ⟨gb169, 2, none⟩ = some (.int .i64 ((rd_T58 l0_1 x8_3).f2)) ∧ w'.cell? ⟨gb169, 3, none⟩ = some (.int .i64 ((rd_T58 l0_1 x8_3).f3)) ∧ w'.cell? ⟨gb169, 4, none⟩ = some (.int .i64 ((rd_T58 l0_1 x8_3).f4)) ∧ w'.cell? ⟨go18, (((rd_T58 l0_1 x8_3).f0)).toNat, none⟩ = some (.int .i64 (rd x5_3 ((rd_T58 l0_1 x8_3).f0))) ∧ w'.cell? ⟨go18, (((rd_T58 l0_1 x8_3).f0)).toNat, none⟩ = some (.int .i64 (rd x5_3 ((rd_T58 l0_1 x8_3).f0))) ∧ w'.cell? ⟨go18, (((rd_T58 l0_1 x8_3).f1)).toNat, none⟩ = some (.int .i64 (rd x5_3 ((rd_T58 l0_1 x8_3).f1)))) (ds := []) (ms 22 0) (by kernel_rfl) rfl (by kernel_rfl) ⟨(blk_cell BK169.out 0).trans rfl, (blk_cell BK169.out 1).trans rfl, (blk_cell BK169.out 2).trans rfl, (blk_cell BK169.out 3).trans rfl, (blk_cell BK169.out 4).trans rfl, hx170_0, hx171_0, hx172_0⟩ (fun hHeld => ?_); refine with_tabW spec_l3All.tab14 spec_l3All.bits14 (fun HT_ HW_ => ?_)
     generalize w45.drew = w46 at HO_5 BK162 BK169 HB hx170_0 hx171_0 hx172_0 hHeld ⊢
     refine pu 0 43 ?_ (ms 22 1) rfl rfl HT_ (by kernel_rfl) (fun _ _ _ h => h) (by rfl) ?_ ?_ ?_ ?_
     rotate_left
     ·intro w'
      go_simp
      with_reducible rfl
     rotate_left
     ·simp only [SX]
      rfl
     refine pu 1 44 ?_ (ms 22 3) rfl rfl HT_ (by kernel_rfl) (fun _ _ _ h => h) (by rfl) ?_ ?_ ?_ ?_
     rotate_left
     ·intro w'
      go_simp
      with_reducible rfl
     rotate_left
     ·simp only [SX]
      rfl
     refine tk 2 45 ?_ (ms 22 7) rfl rfl HT_ HW_ (by kernel_rfl) (fun _ _ _ h => h) (by rfl) ?_ hHeld ?_ ?_ ?_
     rotate_left
     ·rintro w' ⟨s0, s1, s2, s3, s4, s5, s6, s7⟩
      go_simp
      with_reducible rfl
     rotate_left
     ·simp only [SX]
      rfl
     refine pu 3 46 ?_ (ms 22 15) rfl rfl HT_ (by kernel_rfl) (fun _ _ _ h => h) (by rfl) ?_ ?_ ?_ ?_
     rotate_left
     ·intro w'
      go_simp
      with_reducible rfl
     rotate_left
     ·simp only [SX]
      rfl
     refine tk 4 47 ?_ (ms 22 31) rfl rfl HT_ HW_ (by kernel_rfl) (fun _ _ _ h => h) (by rfl) ?_ hHeld ?_ ?_ ?_
     rotate_left
     ·rintro w' ⟨s0, s1, s2, s3, s4, s5, s6, s7⟩
      go_simp
      with_reducible rfl
     rotate_left
     ·simp only [SX]
      rfl
     refine pu 5 48 ?_ (ms 22 63) rfl rfl HT_ (by kernel_rfl) (fun _ _ _ h => h) (by rfl) ?_ ?_ ?_ ?_
     rotate_left
     ·intro w'
      go_simp
      with_reducible rfl
     rotate_left
     ·simp only [SX]
      rfl
     refine pu 6 49 ?_ (ms 22 127) rfl rfl HT_ (by kernel_rfl) (fun _ _ _ h => h) (by rfl) ?_ ?_ ?_ ?_
     rotate_left
     ·intro w'
      go_simp
      with_reducible rfl
     rotate_left
     ·simp only [SX]
      rfl
     refine pu 7 50 ?_ (ms 22 255) rfl rfl HT_ (by kernel_rfl) (fun _ _ _ h => h) (by rfl) ?_ ?_ ?_ ?_
     rotate_left
     ·intro w'
      go_simp
      with_reducible rfl
     rotate_left
     ·simp only [SX]
      rfl
     refine pu 8 51 ?_ (ms 22 511) rfl rfl HT_ (by kernel_rfl) (fun _ _ _ h => h) (by rfl) ?_ ?_ ?_ ?_
     rotate_left
     ·intro w'
      go_simp
      with_reducible rfl
     rotate_left
     ·simp only [SX]
      rfl
     refine pu 12 55 ?_ (ms 22 4607) rfl rfl HT_ (by kernel_rfl) (fun _ _ _ h => h) (by rfl) ?_ ?_ ?_ ?_
     rotate_left
     ·intro w'
      go_simp
      with_reducible rfl
     rotate_left
     ·simp only [SX]
      rfl
     refine pu 15 58 ?_ (ms 22 37375) rfl rfl HT_ (by kernel_rfl) (fun _ _ _ h => h) (by rfl) ?_ ?_ ?_ ?_
     rotate_left
     ·intro w'
      go_simp
      with_reducible rfl
     rotate_left
     ·simp only [SX]
      rfl
     refine pu 16 59 ?_ (ms 22 102911) rfl rfl HT_ (by kernel_rfl) (fun _ _ _ h => h) (by rfl) ?_ ?_ ?_ ?_
     rotate_left
     ·intro w'
      go_simp
      with_reducible rfl
     rotate_left
     ·simp only [SX]
      rfl
     refine tk 9 52 ?_ (ms 22 103423) rfl rfl HT_ HW_ (by kernel_rfl) (fun _ _ _ h => h) (by rfl) ?_ hHeld ?_ ?_ ?_
     rotate_left
     ·rintro w' ⟨s0, s1, s2, s3, s4, s5, s6, s7⟩
      go_simp
      with_reducible rfl
     rotate_left
     ·simp only [SX]
      rfl
     refine pu 10 53 ?_ (ms 22 104447) rfl rfl HT_ (by kernel_rfl) (fun _ _ _ h => h) (by rfl) ?_ ?_ ?_ ?_
     rotate_left
     ·intro w'
      go_simp
      with_reducible rfl
     rotate_left
     ·simp only [SX]
      rfl
     refine tk 11 54 ?_ (ms 22 106495) rfl rfl HT_ HW_ (by kernel_rfl) (fun _ _ _ h => h) (by rfl) ?_ hHeld ?_ ?_ ?_
     rotate_left
     ·rintro w' ⟨s0, s1, s2, s3, s4, s5, s6, s7⟩
      go_simp
      with_reducible rfl
     rotate_left
     ·simp only [SX]
      rfl
     refine tk 13 56 ?_ (ms 22 114687) rfl rfl HT_ HW_ (by kernel_rfl) (fun _ _ _ h => h) (by rfl) ?_ hHeld ?_ ?_ ?_
     rotate_left
     ·rintro w' ⟨s0, s1, s2, s3, s4, s5, s6, s7⟩
      go_simp
      with_reducible rfl
     rotate_left
     ·simp only [SX]
      rfl
     refine pu 14 57 ?_ (ms 22 131071) rfl rfl HT_ (by kernel_rfl) (fun _ _ _ h => h) (by rfl) ?_ ?_ ?_ ?_
     rotate_left
     ·intro w'
      go_simp
      with_reducible rfl
     rotate_left
     ·simp only [SX]
      rfl
     refine tk 17 60 ?_ (ms 22 262143) rfl rfl HT_ HW_ (by kernel_rfl) (fun _ _ _ h => h) (by rfl) ?_ hHeld ?_ ?_ ?_
     rotate_left
     ·rintro w' ⟨s0, s1, s2, s3, s4, s5, s6, s7⟩
      go_simp
      with_reducible rfl
     rotate_left
     ·simp only [SX]
      rfl
     refine pu 18 61 ?_ (ms 22 524287) rfl rfl HT_ (by kernel_rfl) (fun _ _ _ h => h) (by rfl) ?_ ?_ ?_ ?_
     rotate_left
     ·intro w'
      go_simp
      with_reducible rfl
     rotate_left
     ·simp only [SX]
      rfl
     refine tk 19 62 ?_ (ms 22 1048575) rfl rfl HT_ HW_ (by kernel_rfl) (fun _ _ _ h => h) (by rfl) ?_ hHeld ?_ ?_ ?_
     rotate_left
     ·rintro w' ⟨s0, s1, s2, s3, s4, s5, s6, s7⟩
      go_simp
      with_reducible rfl
     rotate_left
     ·simp only [SX]
      rfl
     refine pu 20 63 ?_ (ms 22 2097151) rfl rfl HT_ (by kernel_rfl) (fun _ _ _ h => h) (by rfl) ?_ ?_ ?_ ?_
     rotate_left
     ·intro w'
      go_simp
      with_reducible rfl
     rotate_left
     ·simp only [SX]
      rfl
     refine pu 21 64 ?_ (ms 22 4194303) rfl rfl HT_ (by kernel_rfl) (fun _ _ _ h => h) (by rfl) ?_ ?_ ?_ ?_
     rotate_left
     ·intro w'
      go_simp
      with_reducible rfl
     rotate_left
     ·simp only [SX]
      rfl
     refine done_ (done_of HT_.out (by kernel_rfl)) ?_
     try go_wp2
     (try simp only [← hl5_3])
     go_roundg k3
     case measure => have := HK1.out; have := HK2.out; have := HK3.out; omega
     case rel => exact ⟨(x5_3), (wrap64 (x8_3 + 1)), (by first | rfl | (simp; done) | (simp [*]; done)), H', ⟨by have := HK1.out; have := HK2.out; have := HK3.out; omega⟩, ⟨by (try simp only [hl5_2]); (try simp only [hl5_3]); (with_reducible repeat (first | apply Kd.R_alloc | apply Kd.R_drewN | apply Kd.R_drew)); exact HO_5.out⟩, ⟨by (try simp only [hl5_2]); (try simp only [hl5_3]); (with_reducible repeat (first | refine blk_drewN ?_ _ | refine blk_drew ?_ | refine blk_alloc ?_ _)); exact BK162.out⟩, ⟨bl2 HB GE162 GE169⟩⟩
    rw [if_pos c31] at H
    have c31b0 : decide ((wrap64 ((rd x5_3 ((rd_T58 l0_1 x8_3).f0)) + ((rd_T58 l0_1 x8_3).f2))) < (rd x5_3 ((rd_T58 l0_1 x8_3).f1))) = true := decide_eq_true c31
    clear c31
    obtain ⟨y174, hy174⟩ : ∃ y_ : List Int, y_ = (x5_3.set (((rd_T58 l0_1 x8_3).f1) : Int).toNat (wrap64 ((rd x5_3 ((rd_T58 l0_1 x8_3).f0)) + ((rd_T58 l0_1 x8_3).f2)))) := ⟨_, rfl⟩
    replace H : (spec_l3All.l2 k3 y174 x7_2 (wrap64 (x8_3 + 1)) a0_0 l0_1) = some r := by first | (rw [hy174]; with_reducible exact H) | (have H2_ := (Option.bind_some _ _).symm.trans H; rw [hy174]; with_reducible exact H2_) | (have H2_ := (Option.bind_some _ _).symm.trans H; with_reducible exact H2_) | with_reducible exact H | (rw [hy174]; exact H) | exact H
    have Ny174 := ak hy174
    clear hy174
    have H' := ak H
    clear H
    have hcz33_0 := bc wr BK162 0 (.int .i64 a0_0) rfl
    have hcz33_1 := bc wr BK162 1 (.slice A0_1 l0_1.length c0_1) rfl
    have hfz33_0 := fz BK162 0
    have hfz33_1 := fz BK162 1
    have p168 : 0 ≤ (x8_3 : Int) := oT (by first | (with_reducible assumption) | assumption)
    have q168 : x8_3 < (l0_1.length : Int) := oT (by first | (with_reducible assumption) | assumption)
    obtain ⟨ad168, e168, hx168_0, hx168_1, hx168_2, hx168_3, hx168_4⟩ := at_T58 HR0_1.out x8_3 p168 q168
    cases e168
    replace hx168_0 := hcb HB.out hx168_0
    replace hx168_1 := hcb HB.out hx168_1
    replace hx168_2 := hcb HB.out hx168_2
    replace hx168_3 := hcb HB.out hx168_3
    replace hx168_4 := hcb HB.out hx168_4
    replace p168 := eq_true p168
    replace q168 := eq_true q168
    try go_wp2_with (first | ((with_reducible refine gate_dst (N := 9) rfl ?_); refine box_event ?hg (N := 9) ?hd (cs := #[.int .i64 0, .int .i64 0, .int .i64 0, .int .i64 0, .int .i64 0]) (t := 58) ?hr ?_; (case hd => rfl); (case hg => rfl); (case hr => first | (go_simp; done) | (go_simp; rfl)); intro gb169 hg w34 hbox hb; replace HO_5 := ak (Kd.R_below (rk HO_5) hb); have BK169 := ak (hbox); have GW169 := ak ((by rw [hg]; exact (below_size (bl1 HB GE162)) : w.heap.size ≤ gb169)); have GE169 := ak ((by rw [hg]; exact (below_size (bl1 HB GE162)) : w.heap.size ≤ gb169)); replace HB := ak (below_step (bl1 HB GE162) hb); have NB162_169 := ak ((by rw [hg]; exact Nat.ne_of_lt (blk_lt (bk BK162)) : gb162 ≠ gb169)); have NB169_162 := ak ((by rw [hg]; exact Nat.ne_of_gt (blk_lt (bk BK162)) : gb169 ≠ gb162)); replace BK162 := ak (blk_below (bk BK162) hb); clear hb hbox hg; have hnb35 := NB169_162.out; have hnc35 := NB162_169.out; have hcz36_0 := bc w34 BK169 0 (.int .i64 0) rfl; have hcz36_1 := bc w34 BK169 1 (.int .i64 0) rfl; have hcz36_2 := bc w34 BK169 2 (.int .i64 0) rfl; have hcz36_3 := bc w34 BK169 3 (.int .i64 0) rfl; have hcz36_4 := bc w34 BK169 4 (.int .i64 0) rfl; have hfz36_0 := fz BK169 0; have hfz36_1 := fz BK169 1; have hfz36_2 := fz BK169 2; have hfz36_3 := fz BK169 3; have hfz36_4 := fz BK169 4))
    have n0_ : Aside0 (Kd.R (Kd.int .i64) 3 (((((w34.setCell ⟨gb169, 0, none⟩ (.int .i64 ((rd_T58 l0_1 x8_3).f0))).setCell ⟨gb169, 1, none⟩ (.int .i64 ((rd_T58 l0_1 x8_3).f1))).setCell ⟨gb169, 2, none⟩ (.int .i64 ((rd_T58 l0_1 x8_3).f2))).setCell ⟨gb169, 3, none⟩ (.int .i64 ((rd_T58 l0_1 x8_3).f3))).setCell ⟨gb169, 4, none⟩ (.int .i64 ((rd_T58 l0_1 x8_3).f4))) w.heap.size (fun _ => True) (.slice (some ⟨go18, 0, none⟩) x5_3.length co18) x5_3) := ⟨by (with_reducible repeat (first | apply Kd.R_alloc | apply Kd.R_drewN | apply Kd.R_drew)); exact Kd.R_mono (Kd.R_far (p := ⟨gb169, 4, none⟩) (Kd.R_far (p := ⟨gb169, 3, none⟩) (Kd.R_far (p := ⟨gb169, 2, none⟩) (Kd.R_far (p := ⟨gb169, 1, none⟩) (Kd.R_far (p := ⟨gb169, 0, none⟩) (Kd.R_types HO_5.out BK169.out (by decide)) (fun _ hk => hk.2) (.int .i64 ((rd_T58 l0_1 x8_3).f0))) (fun _ hk => hk.2) (.int .i64 ((rd_T58 l0_1 x8_3).f1))) (fun _ hk => hk.2) (.int .i64 ((rd_T58 l0_1 x8_3).f2))) (fun _ hk => hk.2) (.int .i64 ((rd_T58 l0_1 x8_3).f3))) (fun _ hk => hk.2) (.int .i64 ((rd_T58 l0_1 x8_3).f4))) (fun _ hk => trivial)⟩
    have n1_ : Aside0 ((((((w34.setCell ⟨gb169, 0, none⟩ (.int .i64 ((rd_T58 l0_1 x8_3).f0))).setCell ⟨gb169, 1, none⟩ (.int .i64 ((rd_T58 l0_1 x8_3).f1))).setCell ⟨gb169, 2, none⟩ (.int .i64 ((rd_T58 l0_1 x8_3).f2))).setCell ⟨gb169, 3, none⟩ (.int .i64 ((rd_T58 l0_1 x8_3).f3))).setCell ⟨gb169, 4, none⟩ (.int .i64 ((rd_T58 l0_1 x8_3).f4))).heap[gb162]? = some (.cells #[.int .i64 a0_0, .slice (some ad168) l0_1.length c0_1] 25 (0, 0))) := ⟨by (with_reducible repeat (first | refine blk_drewN ?_ _ | refine blk_drew ?_ | refine blk_alloc ?_ _)); refine blk_far ?_ NB162_169.out _; refine blk_far ?_ NB162_169.out _; refine blk_far ?_ NB162_169.out _; refine blk_far ?_ NB162_169.out _; refine blk_far ?_ NB162_169.out _; (with_reducible repeat (first | refine blk_drewN ?_ _ | refine blk_drew ?_ | refine blk_alloc ?_ _)); exact BK162.out⟩
    have n2_ : Aside0 ((((((w34.setCell ⟨gb169, 0, none⟩ (.int .i64 ((rd_T58 l0_1 x8_3).f0))).setCell ⟨gb169, 1, none⟩ (.int .i64 ((rd_T58 l0_1 x8_3).f1))).setCell ⟨gb169, 2, none⟩ (.int .i64 ((rd_T58 l0_1 x8_3).f2))).setCell ⟨gb169, 3, none⟩ (.int .i64 ((rd_T58 l0_1 x8_3).f3))).setCell ⟨gb169, 4, none⟩ (.int .i64 ((rd_T58 l0_1 x8_3).f4))).heap[gb169]? = some (.cells #[.int .i64 ((rd_T58 l0_1 x8_3).f0), .int .i64 ((rd_T58 l0_1 x8_3).f1), .int .i64 ((rd_T58 l0_1 x8_3).f2), .int .i64 ((rd_T58 l0_1 x8_3).f3), .int .i64 ((rd_T58 l0_1 x8_3).f4)] 58 (0, 0))) := ⟨by (with_reducible repeat (first | refine blk_drewN ?_ _ | refine blk_drew ?_ | refine blk_alloc ?_ _)); refine blk_put (cs := #[.int .i64 ((rd_T58 l0_1 x8_3).f0), .int .i64 ((rd_T58 l0_1 x8_3).f1), .int .i64 ((rd_T58 l0_1 x8_3).f2), .int .i64 ((rd_T58 l0_1 x8_3).f3), .int .i64 0]) ?_ 4 _ rfl; refine blk_put (cs := #[.int .i64 ((rd_T58 l0_1 x8_3).f0), .int .i64 ((rd_T58 l0_1 x8_3).f1), .int .i64 ((rd_T58 l0_1 x8_3).f2), .int .i64 0, .int .i64 0]) ?_ 3 _ rfl; refine blk_put (cs := #[.int .i64 ((rd_T58 l0_1 x8_3).f0), .int .i64 ((rd_T58 l0_1 x8_3).f1), .int .i64 0, .int .i64 0, .int .i64 0]) ?_ 2 _ rfl; refine blk_put (cs := #[.int .i64 ((rd_T58 l0_1 x8_3).f0), .int .i64 0, .int .i64 0, .int .i64 0, .int .i64 0]) ?_ 1 _ rfl; refine blk_put (cs := #[.int .i64 0, .int .i64 0, .int .i64 0, .int .i64 0, .int .i64 0]) ?_ 0 _ rfl; (with_reducible repeat (first | refine blk_drewN ?_ _ | refine blk_drew ?_ | refine blk_alloc ?_ _)); exact BK169.out⟩
    have n3_ : Aside0 (Below w.heap.size w (((((w34.setCell ⟨gb169, 0, none⟩ (.int .i64 ((rd_T58 l0_1 x8_3).f0))).setCell ⟨gb169, 1, none⟩ (.int .i64 ((rd_T58 l0_1 x8_3).f1))).setCell ⟨gb169, 2, none⟩ (.int .i64 ((rd_T58 l0_1 x8_3).f2))).setCell ⟨gb169, 3, none⟩ (.int .i64 ((rd_T58 l0_1 x8_3).f3))).setCell ⟨gb169, 4, none⟩ (.int .i64 ((rd_T58 l0_1 x8_3).f4)))) := ⟨bl2 HB GE162 GE169⟩
    (try clear HO_5)
    (try clear BK162)
    (try clear BK169)
    (try clear HB)
    generalize (((((w34.setCell ⟨gb169, 0, none⟩ (.int .i64 ((rd_T58 l0_1 x8_3).f0))).setCell ⟨gb169, 1, none⟩ (.int .i64 ((rd_T58 l0_1 x8_3).f1))).setCell ⟨gb169, 2, none⟩ (.int .i64 ((rd_T58 l0_1 x8_3).f2))).setCell ⟨gb169, 3, none⟩ (.int .i64 ((rd_T58 l0_1 x8_3).f3))).setCell ⟨gb169, 4, none⟩ (.int .i64 ((rd_T58 l0_1 x8_3).f4))) = w37 at n0_ n1_ n2_ n3_ ⊢
    have HO_5 := n0_
    have BK162 := n1_
    have BK169 := n2_
    have HB := n3_
    clear n0_ n1_ n2_ n3_
    replace HO_5 := ak (Kd.R_drew HO_5.out)
    replace BK162 := ak (blk_drew BK162.out)
    replace BK169 := ak (blk_drew BK169.out)
    replace HB := ak (below_drew1 HB.out)
    have p170 : 0 ≤ (((rd_T58 l0_1 x8_3).f0) : Int) := oT (by first | (with_reducible assumption) | assumption)
    have q170 : ((rd_T58 l0_1 x8_3).f0) < (x5_3.length : Int) := oT (by first | (with_reducible assumption) | assumption)
    obtain ⟨ad170, e170, hx170_0⟩ := Kd.at_int (Kd.R_reads' HO_5.out).2.2 ((rd_T58 l0_1 x8_3).f0) p170 q170
    obtain rfl : (⟨go18, 0, none⟩ : Addr) = ad170 := (by injection e170)
    (first | simp only [add_plain] at hx170_0 | simp only [add_at] at hx170_0 | simp only [Addr.add, Nat.zero_add] at hx170_0 | skip)
    replace p170 := eq_true p170
    replace q170 := eq_true q170
    have p171 : 0 ≤ (((rd_T58 l0_1 x8_3).f0) : Int) := oT (by first | (with_reducible assumption) | assumption)
    have q171 : ((rd_T58 l0_1 x8_3).f0) < (x5_3.length : Int) := oT (by first | (with_reducible assumption) | assumption)
    obtain ⟨ad171, e171, hx171_0⟩ := Kd.at_int (Kd.R_reads' HO_5.out).2.2 ((rd_T58 l0_1 x8_3).f0) p171 q171
    obtain rfl : (⟨go18, 0, none⟩ : Addr) = ad171 := (by injection e171)
    (first | simp only [add_plain] at hx171_0 | simp only [add_at] at hx171_0 | simp only [Addr.add, Nat.zero_add] at hx171_0 | skip)
    replace p171 := eq_true p171
    replace q171 := eq_true q171
    have p172 : 0 ≤ (((rd_T58 l0_1 x8_3).f1) : Int) := oT (by first | (with_reducible assumption) | assumption)
    have q172 : ((rd_T58 l0_1 x8_3).f1) < (x5_3.length : Int) := oT (by first | (with_reducible assumption) | assumption)
    obtain ⟨ad172, e172, hx172_0⟩ := Kd.at_int (Kd.R_reads' HO_5.out).2.2 ((rd_T58 l0_1 x8_3).f1) p172 q172
    obtain rfl : (⟨go18, 0, none⟩ : Addr) = ad172 := (by injection e172)
    (first | simp only [add_plain] at hx172_0 | simp only [add_at] at hx172_0 | simp only [Addr.add, Nat.zero_add] at hx172_0 | skip)
    replace p172 := eq_true p172
    replace q172 := eq_true q172
    refine start_ (n := 22) (S := fun w' => w'.cell? ⟨gb169, 0, none⟩ = some (.int .i64 ((rd_T58 l0_1 x8_3).f0)) ∧ w'.cell? ⟨gb169, 1, none⟩ = some (.int .i64 ((rd_T58 l0_1 x8_3).f1)) ∧ w'.cell? ⟨gb169, 2, none⟩ = some (.int .i64 ((rd_T58 l0_1 x8_3).f2)) ∧ w'.cell? ⟨gb169, 3, none⟩ = some (.int .i64 ((rd_T58 l0_1 x8_3).f3)) ∧ w'.cell? ⟨gb169, 4, none⟩ = some (.int .i64 ((rd_T58 l0_1 x8_3).f4)) ∧ w'.cell? ⟨go18, (((rd_T58 l0_1 x8_3).f0)).toNat, none⟩ = some (.int .i64 (rd x5_3 ((rd_T58 l0_1 x8_3).f0))) ∧ w'.cell? ⟨go18, (((rd_T58 l0_1 x8_3).f0)).toNat, none⟩ = some (.int .i64 (rd x5_3 ((rd_T58 l0_1 x8_3).f0))) ∧ w'.cell? ⟨go18, (((rd_T58 l0_1 x8_3).f1)).toNat, none⟩ = some (.int .i64 (rd x5_3 ((rd_T58 l0_1 x8_3).f1)))) (ds := []) (ms 22 0) (by kernel_rfl) rfl (by kernel_rfl) ⟨(blk_cell BK169.out 0).trans rfl, (blk_cell BK169.out 1).trans rfl, (blk_cell BK169.out 2).trans rfl, (blk_cell BK169.out 3).trans rfl, (blk_cell BK169.out 4).trans rfl, hx170_0, hx171_0, hx172_0⟩ (fun hHeld => ?_); refine with_tabW spec_l3All.tab14 spec_l3All.bits14 (fun HT_ HW_ => ?_)
    generalize w37.drew = w38 at HO_5 BK162 BK169 HB hx170_0 hx171_0 hx172_0 hHeld ⊢
    refine pu 0 43 ?_ (ms 22 1) rfl rfl HT_ (by kernel_rfl) (fun _ _ _ h => h) (by rfl) ?_ ?_ ?_ ?_
    rotate_left
    ·intro w'
     go_simp
     with_reducible rfl
    rotate_left
    ·simp only [SX]
     rfl
    refine pu 1 44 ?_ (ms 22 3) rfl rfl HT_ (by kernel_rfl) (fun _ _ _ h => h) (by rfl) ?_ ?_ ?_ ?_
    rotate_left
    ·intro w'
     go_simp
     with_reducible rfl
    rotate_left
    ·simp only [SX]
     rfl
    refine tk 2 45 ?_ (ms 22 7) rfl rfl HT_ HW_ (by kernel_rfl) (fun _ _ _ h => h) (by rfl) ?_ hHeld ?_ ?_ ?_
    rotate_left
    ·rintro w' ⟨s0, s1, s2, s3, s4, s5, s6, s7⟩
     go_simp
     with_reducible rfl
    rotate_left
    ·simp only [SX]
     rfl
    refine pu 3 46 ?_ (ms 22 15) rfl rfl HT_ (by kernel_rfl) (fun _ _ _ h => h) (by rfl) ?_ ?_ ?_ ?_
    rotate_left
    ·intro w'
     go_simp
     with_reducible rfl
    rotate_left
    ·simp only [SX]
     rfl
    refine tk 4 47 ?_ (ms 22 31) rfl rfl HT_ HW_ (by kernel_rfl) (fun _ _ _ h => h) (by rfl) ?_ hHeld ?_ ?_ ?_
    rotate_left
    ·rintro w' ⟨s0, s1, s2, s3, s4, s5, s6, s7⟩
     go_simp
     with_reducible rfl
    rotate_left
    ·simp only [SX]
     rfl
    refine pu 5 48 ?_ (ms 22 63) rfl rfl HT_ (by kernel_rfl) (fun _ _ _ h => h) (by rfl) ?_ ?_ ?_ ?_
    rotate_left
    ·intro w'
     go_simp
     with_reducible rfl
    rotate_left
    ·simp only [SX]
     rfl
    refine pu 6 49 ?_ (ms 22 127) rfl rfl HT_ (by kernel_rfl) (fun _ _ _ h => h) (by rfl) ?_ ?_ ?_ ?_
    rotate_left
    ·intro w'
     go_simp
     with_reducible rfl
    rotate_left
    ·simp only [SX]
     rfl
    refine pu 7 50 ?_ (ms 22 255) rfl rfl HT_ (by kernel_rfl) (fun _ _ _ h => h) (by rfl) ?_ ?_ ?_ ?_
    rotate_left
    ·intro w'
     go_simp
     with_reducible rfl
    rotate_left
    ·simp only [SX]
     rfl
    refine pu 8 51 ?_ (ms 22 511) rfl rfl HT_ (by kernel_rfl) (fun _ _ _ h => h) (by rfl) ?_ ?_ ?_ ?_
    rotate_left
    ·intro w'
     go_simp
     with_reducible rfl
    rotate_left
    ·simp only [SX]
     rfl
    refine pu 12 55 ?_ (ms 22 4607) rfl rfl HT_ (by kernel_rfl) (fun _ _ _ h => h) (by rfl) ?_ ?_ ?_ ?_
    rotate_left
    ·intro w'
     go_simp
     with_reducible rfl
    rotate_left
    ·simp only [SX]
     rfl
    refine pu 15 58 ?_ (ms 22 37375) rfl rfl HT_ (by kernel_rfl) (fun _ _ _ h => h) (by rfl) ?_ ?_ ?_ ?_
    rotate_left
    ·intro w'
     go_simp
     with_reducible rfl
    rotate_left
    ·simp only [SX]
     rfl
    refine pu 16 59 ?_ (ms 22 102911) rfl rfl HT_ (by kernel_rfl) (fun _ _ _ h => h) (by rfl) ?_ ?_ ?_ ?_
    rotate_left
    ·intro w'
     go_simp
     with_reducible rfl
    rotate_left
    ·simp only [SX]
     rfl
    refine tk 9 52 ?_ (ms 22 103423) rfl rfl HT_ HW_ (by kernel_rfl) (fun _ _ _ h => h) (by rfl) ?_ hHeld ?_ ?_ ?_
    rotate_left
    ·rintro w' ⟨s0, s1, s2, s3, s4, s5, s6, s7⟩
     go_simp
     with_reducible rfl
    rotate_left
    ·simp only [SX]
     rfl
    refine pu 10 53 ?_ (ms 22 104447) rfl rfl HT_ (by kernel_rfl) (fun _ _ _ h => h) (by rfl) ?_ ?_ ?_ ?_
    rotate_left
    ·intro w'
     go_simp
     with_reducible rfl
    rotate_left
    ·simp only [SX]
     rfl
    refine tk 11 54 ?_ (ms 22 106495) rfl rfl HT_ HW_ (by kernel_rfl) (fun _ _ _ h => h) (by rfl) ?_ hHeld ?_ ?_ ?_
    rotate_left
    ·rintro w' ⟨s0, s1, s2, s3, s4, s5, s6, s7⟩
     go_simp
     with_reducible rfl
    rotate_left
    ·simp only [SX]
     rfl
    refine tk 13 56 ?_ (ms 22 114687) rfl rfl HT_ HW_ (by kernel_rfl) (fun _ _ _ h => h) (by rfl) ?_ hHeld ?_ ?_ ?_
    rotate_left
    ·rintro w' ⟨s0, s1, s2, s3, s4, s5, s6, s7⟩
     go_simp
     with_reducible rfl
    rotate_left
    ·simp only [SX]
     rfl
    refine pu 14 57 ?_ (ms 22 131071) rfl rfl HT_ (by kernel_rfl) (fun _ _ _ h => h) (by rfl) ?_ ?_ ?_ ?_
    rotate_left
    ·intro w'
     go_simp
     with_reducible rfl
    rotate_left
    ·simp only [SX]
     rfl
    refine tk 17 60 ?_ (ms 22 262143) rfl rfl HT_ HW_ (by kernel_rfl) (fun _ _ _ h => h) (by rfl) ?_ hHeld ?_ ?_ ?_
    rotate_left
    ·rintro w' ⟨s0, s1, s2, s3, s4, s5, s6, s7⟩
     go_simp
     with_reducible rfl
    rotate_left
    ·simp only [SX]
     rfl
    refine pu 18 61 ?_ (ms 22 524287) rfl rfl HT_ (by kernel_rfl) (fun _ _ _ h => h) (by rfl) ?_ ?_ ?_ ?_
    rotate_left
    ·intro w'
     go_simp
     with_reducible rfl
    rotate_left
    ·simp only [SX]
     rfl
    refine tk 19 62 ?_ (ms 22 1048575) rfl rfl HT_ HW_ (by kernel_rfl) (fun _ _ _ h => h) (by rfl) ?_ hHeld ?_ ?_ ?_
    rotate_left
    ·rintro w' ⟨s0, s1, s2, s3, s4, s5, s6, s7⟩
     go_simp
     with_reducible rfl
    rotate_left
    ·simp only [SX]
     rfl
    refine pu 20 63 ?_ (ms 22 2097151) rfl rfl HT_ (by kernel_rfl) (fun _ _ _ h => h) (by rfl) ?_ ?_ ?_ ?_
    rotate_left
    ·intro w'
     go_simp
     with_reducible rfl
    rotate_left
    ·simp only [SX]
     rfl
    refine pu 21 64 ?_ (ms 22 4194303) rfl rfl HT_ (by kernel_rfl) (fun _ _ _ h => h) (by rfl) ?_ ?_ ?_ ?_
    rotate_left
    ·intro w'
     go_simp
     with_reducible rfl
    rotate_left
    ·simp only [SX]
     rfl
    refine done_ (done_of HT_.out (by kernel_rfl)) ?_
    try go_wp2
    replace HO_5 := ak (Kd.R_drew HO_5.out)
    replace BK162 := ak (blk_drew BK162.out)
    replace BK169 := ak (blk_drew BK169.out)
    replace HB := ak (below_drew1 HB.out)
    have p173 : 0 ≤ (((rd_T58 l0_1 x8_3).f0) : Int) := oT (by first | (with_reducible assumption) | assumption)
    have q173 : ((rd_T58 l0_1 x8_3).f0) < (x5_3.length : Int) := oT (by first | (with_reducible assumption) | assumption)
    obtain ⟨ad173, e173, hx173_0⟩ := Kd.at_int (Kd.R_reads' HO_5.out).2.2 ((rd_T58 l0_1 x8_3).f0) p173 q173
    obtain rfl : (⟨go18, 0, none⟩ : Addr) = ad173 := (by injection e173)
    (first | simp only [add_plain] at hx173_0 | simp only [add_at] at hx173_0 | simp only [Addr.add, Nat.zero_add] at hx173_0 | skip)
    replace p173 := eq_true p173
    replace q173 := eq_true q173
    have p32 : 0 ≤ (((rd_T58 l0_1 x8_3).f1) : Int) := oT (by first | (with_reducible assumption) | assumption)
    have q32 : (((rd_T58 l0_1 x8_3).f1) : Int) < ((x5_3.length : Int) : Int) := oT (by first | (with_reducible assumption) | assumption)
    obtain ⟨hx32_0, hf32_0⟩ := Kd.R_celln 0 HO_5.out (((rd_T58 l0_1 x8_3).f1) : Int) p32 q32
    replace p32 := eq_true p32
    replace q32 := eq_true q32
    have HP40 := Kd.R_putn HO_5.out (((rd_T58 l0_1 x8_3).f1) : Int) (wrap64 ((rd x5_3 ((rd_T58 l0_1 x8_3).f0)) + ((rd_T58 l0_1 x8_3).f2)))
    rw [← Ny174.out] at HP40
    have HQ40 := ak HP40
    clear HP40
    refine start_ (n := 13) (S := fun w' => w'.cell? ⟨gb169, 0, none⟩ = some (.int .i64 ((rd_T58 l0_1 x8_3).f0)) ∧ w'.cell? ⟨gb169, 1, none⟩ = some (.int .i64 ((rd_T58 l0_1 x8_3).f1)) ∧ w'.cell? ⟨gb169, 2, none⟩ = some (.int .i64 ((rd_T58 l0_1 x8_3).f2)) ∧ w'.cell? ⟨gb169, 3, none⟩ = some (.int .i64 ((rd_T58 l0_1 x8_3).f3)) ∧ w'.cell? ⟨gb169, 4, none⟩ = some (.int .i64 ((rd_T58 l0_1 x8_3).f4)) ∧ w'.cell? ⟨go18, (((rd_T58 l0_1 x8_3).f0)).toNat, none⟩ = some (.int .i64 (rd x5_3 ((rd_T58 l0_1 x8_3).f0)))) (ds := [12]) (ms 13 0) (by kernel_rfl) rfl (by kernel_rfl) ⟨(blk_cell BK169.out 0).trans rfl, (blk_cell BK169.out 1).trans rfl, (blk_cell BK169.out 2).trans rfl, (blk_cell BK169.out 3).trans rfl, (blk_cell BK169.out 4).trans rfl, hx173_0⟩ (fun hHeld => ?_); refine with_tabW spec_l3All.tab15 spec_l3All.bits15 (fun HT_ HW_ => ?_)
    generalize w38.drew = w39 at HO_5 BK162 BK169 HB HQ40 hf32_0 hx173_0 hx32_0 hHeld ⊢
    refine pu 0 65 ?_ (ms 13 1) rfl rfl HT_ (by kernel_rfl) (fun _ _ _ h => h) (by rfl) ?_ ?_ ?_ ?_
    rotate_left
    ·intro w'
     go_simp
     with_reducible rfl
    rotate_left
    ·simp only [SX]
     rfl
    refine pu 1 66 ?_ (ms 13 3) rfl rfl HT_ (by kernel_rfl) (fun _ _ _ h => h) (by rfl) ?_ ?_ ?_ ?_
    rotate_left
    ·intro w'
     go_simp
     with_reducible rfl
    rotate_left
    ·simp only [SX]
     rfl
    refine pu 3 68 ?_ (ms 13 11) rfl rfl HT_ (by kernel_rfl) (fun _ _ _ h => h) (by rfl) ?_ ?_ ?_ ?_
    rotate_left
    ·intro w'
     go_simp
     with_reducible rfl
    rotate_left
    ·simp only [SX]
     rfl
    refine pu 4 69 ?_ (ms 13 27) rfl rfl HT_ (by kernel_rfl) (fun _ _ _ h => h) (by rfl) ?_ ?_ ?_ ?_
    rotate_left
    ·intro w'
     go_simp
     with_reducible rfl
    rotate_left
    ·simp only [SX]
     rfl
    refine pu 8 73 ?_ (ms 13 283) rfl rfl HT_ (by kernel_rfl) (fun _ _ _ h => h) (by rfl) ?_ ?_ ?_ ?_
    rotate_left
    ·intro w'
     go_simp
     with_reducible rfl
    rotate_left
    ·simp only [SX]
     rfl
    refine tk 2 67 ?_ (ms 13 287) rfl rfl HT_ HW_ (by kernel_rfl) (fun _ _ _ h => h) (by rfl) ?_ hHeld ?_ ?_ ?_
    rotate_left
    ·rintro w' ⟨s0, s1, s2, s3, s4, s5⟩
     go_simp
     with_reducible rfl
    rotate_left
    ·simp only [SX]
     rfl
    refine tk 5 70 ?_ (ms 13 319) rfl rfl HT_ HW_ (by kernel_rfl) (fun _ _ _ h => h) (by rfl) ?_ hHeld ?_ ?_ ?_
    rotate_left
    ·rintro w' ⟨s0, s1, s2, s3, s4, s5⟩
     go_simp
     with_reducible rfl
    rotate_left
    ·simp only [SX]
     rfl
    refine pu 6 71 ?_ (ms 13 383) rfl rfl HT_ (by kernel_rfl) (fun _ _ _ h => h) (by rfl) ?_ ?_ ?_ ?_
    rotate_left
    ·intro w'
     go_simp
     with_reducible rfl
    rotate_left
    ·simp only [SX]
     rfl
    refine tk 7 72 ?_ (ms 13 511) rfl rfl HT_ HW_ (by kernel_rfl) (fun _ _ _ h => h) (by rfl) ?_ hHeld ?_ ?_ ?_
    rotate_left
    ·rintro w' ⟨s0, s1, s2, s3, s4, s5⟩
     go_simp
     with_reducible rfl
    rotate_left
    ·simp only [SX]
     rfl
    refine tk 9 74 ?_ (ms 13 1023) rfl rfl HT_ HW_ (by kernel_rfl) (fun _ _ _ h => h) (by rfl) ?_ hHeld ?_ ?_ ?_
    rotate_left
    ·rintro w' ⟨s0, s1, s2, s3, s4, s5⟩
     go_simp
     with_reducible rfl
    rotate_left
    ·simp only [SX]
     rfl
    refine pu 10 75 ?_ (ms 13 2047) rfl rfl HT_ (by kernel_rfl) (fun _ _ _ h => h) (by rfl) ?_ ?_ ?_ ?_
    rotate_left
    ·intro w'
     go_simp
     with_reducible rfl
    rotate_left
    ·simp only [SX]
     rfl
    refine pu 11 76 ?_ (ms 13 4095) rfl rfl HT_ (by kernel_rfl) (fun _ _ _ h => h) (by rfl) ?_ ?_ ?_ ?_
    rotate_left
    ·intro w'
     go_simp
     with_reducible rfl
    rotate_left
    ·simp only [SX]
     rfl
    refine last_ (i := 12) (N := none) (ms 13 8191) rfl rfl (one_of HT_.out (by kernel_rfl)) (by decide) (fun K hK => ?_)
    refine skip_ (w1 := ?_) (by rfl) rfl ?_ ?_
    rotate_left
    ·go_simp
     rfl
    refine hK.out _ _ ?_
    clear hK K
    refine done_ (done_of HT_.out (by kernel_rfl)) ?_
    try go_wp2
    (try simp only [← hl5_3])
    go_roundg k3
    case measure => have := HK1.out; have := HK2.out; have := HK3.out; omega
    case rel => exact ⟨(y174), (wrap64 (x8_3 + 1)), (by first | rfl | (simp; done) | (simp [*]; done)), H', ⟨by have := HK1.out; have := HK2.out; have := HK3.out; omega⟩, ⟨by (try simp only [hl5_2]); (try simp only [hl5_3]); (with_reducible repeat (first | apply Kd.R_alloc | apply Kd.R_drewN | apply Kd.R_drew)); exact HQ40.out⟩, ⟨by (try simp only [hl5_2]); (try simp only [hl5_3]); (with_reducible repeat (first | refine blk_drewN ?_ _ | refine blk_drew ?_ | refine blk_alloc ?_ _)); refine blk_far ?_ (by have h_ := Kd.R_ne HO_5.out BK162.out (by decide); intro e_; exact h_ (by rw [e_]; rfl)) _; (with_reducible repeat (first | refine blk_drewN ?_ _ | refine blk_drew ?_ | refine blk_alloc ?_ _)); exact BK162.out⟩, ⟨by repeat (first | (with_reducible first | exact HB.out | apply below_alloc | apply pw_below_drewN | apply below_drew1 | refine below_set ?_ GB18.out | refine below_set ?_ GE162.out | refine below_set ?_ GE169.out) | exact HB.out)⟩⟩

end Go.Proofs.Ytlgolgfcolnddaa.F
