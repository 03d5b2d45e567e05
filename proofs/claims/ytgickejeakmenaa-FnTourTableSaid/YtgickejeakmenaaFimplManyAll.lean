-- Printed by wip/px/px.py of this claim's repository (the kit's printer, extended there). Lean checks it.
import Derived.Test.YtgickejeakmenaaFKinds
import Derived.Test.YtgickejeakmenaaFimplNear
import Derived.Test.YtgickejeakmenaaFimpllistOk
namespace Go.Proofs.Ytgickejeakmenaa.F
open Go.RowKit Go.Proofs.YtgickejeakmenaaW.PrintWords Go.Proofs.YtgickejeakmenaaW.PrintLast Go.Proofs.YtgickejeakmenaaW.PrintMore
attribute [local go_sem] max2_int min2_int max_two min_two max_three min_three max_four min_four   -- for this text's walks alone
set_option linter.unusedVariables false
set_option linter.unusedSimpArgs false

/-! ### impl_ManyAll: function 34 -/
mutual
def impl_ManyAll.j0 : Nat → List Int → List Int → Bool → Int → List (S41) → Option ((List (List Int)))
 | 0, _, _, _, _, _ => none
 | k + 1, x1, x2, x23, x959000, x959001 => if x23 = true then (some ([] : List (List Int))) else (if ((x1.length : Int) : Int).toNat ≤ 11728124029610 then (impl_ManyAll.l0 k x2 (([] : List (List Int))) x1 (x1.length : Int) 0 x959000 x959001) else (none))
def impl_ManyAll.l0 : Nat → List Int → List (List Int) → List Int → Int → Int → Int → List (S41) → Option ((List (List Int)))
 | 0, _, _, _, _, _, _, _ => none
 | k + 1, x2, x7, x27, x28, x29, x959000, x959001 => if x29 < x28 then (if 0 ≤ x29 then (if x29 < (x27.length : Int) then ((impl_Net_from.f k x959000 x959001 (rd x27 x29)).bind fun t965 => (if ((x2.length : Int) : Int).toNat ≤ 35184372088832 then (impl_ManyAll.l1 k x2 x7 t965 (([] : List Int)) x27 x28 x29 x2 (x2.length : Int) 0 x959000 x959001) else (none))) else (none)) else (none)) else (some x7)
def impl_ManyAll.l1 : Nat → List Int → List (List Int) → List Int → List Int → List Int → Int → Int → List Int → Int → Int → Int → List (S41) → Option ((List (List Int)))
 | 0, _, _, _, _, _, _, _, _, _, _, _, _ => none
 | k + 1, x2, x7, x10, x11, x27, x28, x29, x39, x40, x41, x959000, x959001 => if x41 < x40 then (if 0 ≤ x41 then (if x41 < (x39.length : Int) then (if 0 ≤ (rd x39 x41) then (if (rd x39 x41) < (x10.length : Int) then (if x11.length < 17592186044416 then (impl_ManyAll.l1 k x2 x7 x10 (x11 ++ [rd x10 (rd x39 x41)]) x27 x28 x29 x39 x40 (wrap64 (x41 + 1)) x959000 x959001) else (none)) else (none)) else (none)) else (none)) else (none)) else (if x7.length < 5864062014805 then (impl_ManyAll.l0 k x2 (x7 ++ [x11]) x27 x28 (wrap64 (x29 + 1)) x959000 x959001) else (none))
end
def impl_ManyAll.f (k : Nat) (a0_0 : Int) (l0_1 : List (S41)) (l1 : List Int) (l2 : List Int) : Option ((List (List Int))) := (impl_listOk.f a0_0 l0_1 l1).bind fun t959 => (if t959 = true then ((impl_listOk.f a0_0 l0_1 l2).bind fun t960 => (impl_ManyAll.j0 k l1 l2 (!t960) a0_0 l0_1)) else (impl_ManyAll.j0 k l1 l2 true a0_0 l0_1))
theorem impl_ManyAll.mono_l : ∀ k, (∀ y0 y1 y2 y3 y4, LeO (impl_ManyAll.j0 k y0 y1 y2 y3 y4) (impl_ManyAll.j0 (k + 1) y0 y1 y2 y3 y4)) ∧ (∀ y0 y1 y2 y3 y4 y5 y6, LeO (impl_ManyAll.l0 k y0 y1 y2 y3 y4 y5 y6) (impl_ManyAll.l0 (k + 1) y0 y1 y2 y3 y4 y5 y6)) ∧ (∀ y0 y1 y2 y3 y4 y5 y6 y7 y8 y9 y10 y11, LeO (impl_ManyAll.l1 k y0 y1 y2 y3 y4 y5 y6 y7 y8 y9 y10 y11) (impl_ManyAll.l1 (k + 1) y0 y1 y2 y3 y4 y5 y6 y7 y8 y9 y10 y11))
 | 0 => ⟨fun _ _ _ _ _ r h => by simp [impl_ManyAll.j0] at h, fun _ _ _ _ _ _ _ r h => by simp [impl_ManyAll.l0] at h, fun _ _ _ _ _ _ _ _ _ _ _ _ r h => by simp [impl_ManyAll.l1] at h⟩
 | k + 1 => by
  obtain ⟨ih0, ih1, ih2⟩ := impl_ManyAll.mono_l k
  refine ⟨?_, ?_, ?_⟩
  ·intro y0 y1 y2 y3 y4
   unfold impl_ManyAll.j0
   repeat' first | (with_reducible exact ih1 _ _ _ _ _ _ _) | (with_reducible exact LeO.refl _) | (with_reducible refine LeO.ite ?_ ?_)
  ·intro y0 y1 y2 y3 y4 y5 y6
   unfold impl_ManyAll.l0
   repeat' first | (with_reducible exact ih2 _ _ _ _ _ _ _ _ _ _ _ _) | (with_reducible exact impl_Net_from.mono _ _ _ _) | (with_reducible exact LeO.refl _) | (with_reducible refine LeO.ite ?_ ?_) | (with_reducible refine LeO.bind ?_ (fun _ => ?_))
  ·intro y0 y1 y2 y3 y4 y5 y6 y7 y8 y9 y10 y11
   unfold impl_ManyAll.l1
   repeat' first | (with_reducible exact ih1 _ _ _ _ _ _ _) | (with_reducible exact ih2 _ _ _ _ _ _ _ _ _ _ _ _) | (with_reducible exact LeO.refl _) | (with_reducible refine LeO.ite ?_ ?_)
theorem impl_ManyAll.mono : ∀ a0 a1 a2 a3 k, LeO (impl_ManyAll.f k a0 a1 a2 a3) (impl_ManyAll.f (k + 1) a0 a1 a2 a3) := by
 intro a0 a1 a2 a3 k
 obtain ⟨ih0, ih1, ih2⟩ := impl_ManyAll.mono_l k
 unfold impl_ManyAll.f
 repeat' first | (with_reducible exact ih0 _ _ _ _ _) | (with_reducible exact LeO.refl _) | (with_reducible refine LeO.ite ?_ ?_) | (with_reducible refine LeO.bind ?_ (fun _ => ?_))
set_option maxHeartbeats 8000000 in
set_option maxRecDepth 100000 in
theorem impl_ManyAll.calls (k : Nat) (a0_0 : Int) (A0_1 : Option Addr) (c0_1 : Nat) (l0_1 : List (S41)) (A1 : Option Addr) (c1 : Nat) (l1 : List Int) (A2 : Option Addr) (c2 : Nat) (l2 : List Int) (r : List (List Int)) (w : World) (hr0_1 : Kd.C k41 w A0_1 l0_1.length l0_1) (hc0_1 : l0_1.length ≤ c0_1) (hr1 : Kd.C (Kd.int .i64) w A1 l1.length l1) (hc1 : l1.length ≤ c1) (hr2 : Kd.C (Kd.int .i64) w A2 l2.length l2) (hc2 : l2.length ≤ c2) (h : impl_ManyAll.f k a0_0 l0_1 l1 l2 = some r) :
  Calls Try.prog 34 #[.agg #[.int .i64 a0_0, .slice A0_1 l0_1.length c0_1], .slice A1 l1.length c1, .slice A2 l2.length c2] w fun e w' => ∃ v0_ : Value, e = .returned (v0_) ∧ Kd.S (Kd.slice 3 (Kd.int .i64)) 26 w' w.heap.size (fun _ => True) v0_ r ∧ Below w.heap.size w w' := by
 have hu25 := Try.underlying25
 have HR0_1 := ak hr0_1
 have HC0_1 := ak hc0_1
 clear hr0_1 hc0_1
 have HR1 := ak hr1
 have HC1 := ak hc1
 clear hr1 hc1
 have HR2 := ak hr2
 have HC2 := ak hc2
 clear hr2 hc2
 have HB := ak (Below.refl w.heap.size w)
 have H : ((impl_listOk.f a0_0 l0_1 l1).bind fun t959 => (if t959 = true then ((impl_listOk.f a0_0 l0_1 l2).bind fun t960 => (impl_ManyAll.j0 k l1 l2 (!t960) a0_0 l0_1)) else (impl_ManyAll.j0 k l1 l2 true a0_0 l0_1))) = some r := h
 clear h
 have HC4 := ak H
 clear H
 go_enter Try.func34, Try.ntmps34
 go_upto_region 1 with (((with_reducible refine gate_dst (N := 3) rfl ?_); refine box_event ?hg (N := 3) ?hd (cs := #[.int .i64 a0_0, .slice A0_1 l0_1.length c0_1]) (t := 25) ?hr ?_; (case hd => rfl); (case hg => rfl); (case hr => (go_simp; done)); intro gb958 hg w5 hbox hb; have BK958 := ak (hbox); have GW958 := ak ((by rw [hg]; exact (below_size (bl HB)) : w.heap.size ≤ gb958)); have GE958 := ak ((by rw [hg]; exact (below_size (bl HB)) : w.heap.size ≤ gb958)); replace HB := ak (below_step (bl HB) hb); clear hb hbox hg))
 (try simp only [Act.put, List.setIfInBounds_toArray, List.set_cons_zero, List.set_cons_succ])
 go_cut [23] (fun v23 wc => ∃ (kq : Nat) (x23_3 : Bool), v23 = .bool x23_3 ∧ Aside0 (impl_ManyAll.j0 kq l1 l2 x23_3 a0_0 l0_1 = some r) ∧ Aside0 (kq ≤ k) ∧ Aside0 (wc.heap[gb958]? = some (.cells #[.int .i64 a0_0, (.slice A0_1 l0_1.length c0_1)] 25 (0, 0))) ∧ Aside0 (Below w.heap.size w wc))
 case first =>
  have H := HC4.out
  clear HC4
  replace H := Option.bind_eq_some_iff.mp H
  obtain ⟨t959, A60, H⟩ := H
  have A6 := ak A60
  clear A60
  by_cases c7 : t959 = true
  rotate_left
  ·replace c7 := Bool.eq_false_iff.mpr c7
   subst c7
   rw [if_neg (show ¬ (false = true) by decide)] at H
   have H' := ak H
   clear H
   have hcz13_0 := bc w5 BK958 0 (.int .i64 a0_0) rfl
   have hcz13_1 := bc w5 BK958 1 (.slice A0_1 l0_1.length c0_1) rfl
   have hfz13_0 := fz BK958 0
   have hfz13_1 := fz BK958 1
   go_wp2_with (((with_reducible refine gate_callee (f := 82) rfl ?_); refine goesL_ (some 16) rfl rfl Try.func82 (by kernel_rfl) rfl #[.agg #[.int .i64 a0_0, .slice A0_1 l0_1.length c0_1], .slice A1 l1.length c1] rfl (by (try simp only [List.map_toArray, List.map_cons, List.map_nil]); rfl) ?_; (with_reducible refine (impl_listOk.calls a0_0 _ _ l0_1 _ _ l1 false _ ?side1 ?side2 ?side3 ?side4 A6.out).mono ?_); (case side1 => repeat (exact (Kd.C_below HR0_1.out HB.out))); (case side2 => exact HC0_1.out); (case side3 => repeat (exact (Kd.C_below HR1.out HB.out))); (case side4 => exact HC1.out); rintro e w14 ⟨rfl, hb⟩; refine ⟨_, rfl, ?_⟩; replace BK958 := ak (blk_below (bk BK958) hb); replace HB := ak (below_step (bl1 HB GE958) hb); (try clear hb); (try clear hb2); (try clear hk); (try clear hi)))
   go_meet
   case rel => exact ⟨_, (true), (by rfl), H', ⟨by omega⟩, ⟨bk BK958⟩, ⟨bl1 HB GE958⟩⟩
  subst c7
  rw [if_pos rfl] at H
  replace H := Option.bind_eq_some_iff.mp H
  obtain ⟨t960, A80, H⟩ := H
  have A8 := ak A80
  clear A80
  have H' := ak H
  clear H
  have hcz9_0 := bc w5 BK958 0 (.int .i64 a0_0) rfl
  have hcz9_1 := bc w5 BK958 1 (.slice A0_1 l0_1.length c0_1) rfl
  have hfz9_0 := fz BK958 0
  have hfz9_1 := fz BK958 1
  go_wp2_with (first | ((with_reducible refine gate_callee (f := 82) rfl ?_); refine goesL_ (some 16) rfl rfl Try.func82 (by kernel_rfl) rfl #[.agg #[.int .i64 a0_0, .slice A0_1 l0_1.length c0_1], .slice A1 l1.length c1] rfl (by (try simp only [List.map_toArray, List.map_cons, List.map_nil]); rfl) ?_; (with_reducible refine (impl_listOk.calls a0_0 _ _ l0_1 _ _ l1 true _ ?side1 ?side2 ?side3 ?side4 A6.out).mono ?_); (case side1 => repeat (exact (Kd.C_below HR0_1.out HB.out))); (case side2 => exact HC0_1.out); (case side3 => repeat (exact (Kd.C_below HR1.out HB.out))); (case side4 => exact HC1.out); rintro e w10 ⟨rfl, hb⟩; refine ⟨_, rfl, ?_⟩; replace BK958 := ak (blk_below (bk BK958) hb); replace HB := ak (below_step (bl1 HB GE958) hb); (try clear hb); (try clear hb2); (try clear hk); (try clear hi); have hcz11_0 := bc w10 BK958 0 (.int .i64 a0_0) rfl; have hcz11_1 := bc w10 BK958 1 (.slice A0_1 l0_1.length c0_1) rfl; have hfz11_0 := fz BK958 0; have hfz11_1 := fz BK958 1) | (go_at_call 82; (with_reducible refine (impl_listOk.calls a0_0 _ _ l0_1 _ _ l2 t960 _ ?side1 ?side2 ?side3 ?side4 A8.out).mono ?_); (case side1 => repeat (exact (Kd.C_below HR0_1.out HB.out))); (case side2 => exact HC0_1.out); (case side3 => repeat (exact (Kd.C_below HR2.out HB.out))); (case side4 => exact HC2.out); rintro e w12 ⟨rfl, hb⟩; have n0_ := ak (blk_below (bk BK958) hb); have n1_ := ak (below_step (bl1 HB GE958) hb); clear BK958; clear HB; have BK958 := n0_; have HB := n1_; clear n0_ n1_; (try clear hb); (try clear hb2); (try clear hk); (try clear hi)))
  go_meet
  case rel => exact ⟨_, (!t960), (by rfl), H', ⟨by omega⟩, ⟨bk BK958⟩, ⟨bl1 HB GE958⟩⟩
 clear HC4
 try clear c1
 try clear c2
 try clear p2
 try clear c3
 try clear c7
 try clear c8
 try clear hcz11_0
 try clear hcz11_1
 try clear hcz13_0
 try clear hcz13_1
 try clear hcz9_0
 try clear hcz9_1
 try clear hfz11_0
 try clear hfz11_1
 try clear hfz13_0
 try clear hfz13_1
 try clear hfz9_0
 try clear hfz9_1
 obtain ⟨kq, x23_3, rfl, HA, HJ3, BK958, HB⟩ := hcut
 cases kq with
 | zero => exact absurd HA.out (by simp [impl_ManyAll.j0])
 | succ kj3 =>
  have H := HA.out
  clear HA
  simp only [impl_ManyAll.j0] at H
  by_cases c15 : x23_3 = true
  ·subst c15
   rw [if_pos rfl] at H
   obtain rfl := Option.some.inj H
   go_wp2
   go_ret
   exact ⟨_, by rfl, by exact Kd.S_nil _ _ _ _ _, bl1 HB GE958⟩
  replace c15 := Bool.eq_false_iff.mpr c15
  subst c15
  rw [if_neg (show ¬ (false = true) by decide)] at H
  by_cases c16 : ((l1.length : Int) : Int).toNat ≤ 11728124029610
  rotate_left
  ·rw [if_neg c16] at H
   exact absurd H (by simp)
  rw [if_pos c16] at H
  have c16b0 := eq_true c16
  have c16b1 : decide (((l1.length : Int) : Int).toNat ≤ 11728124029610) = true := decide_eq_true c16
  clear c16
  obtain ⟨y961, hy961⟩ : ∃ y_ : List (List Int), y_ = (([] : List (List Int))) := ⟨_, rfl⟩
  replace H : (impl_ManyAll.l0 kj3 l2 y961 l1 (l1.length : Int) 0 a0_0 l0_1) = some r := by (rw [hy961]; with_reducible exact H)
  have Ny961 := ak hy961
  clear hy961
  have H' := ak H
  clear H
  go_wp2_with (((with_reducible refine gate_dst (N := 26) rfl ?_); refine Kd.S_make0 (Kd.slice 3 (Kd.int .i64)) _ 26 rfl (N := 26) rfl 50 _ _ rfl (l1.length : Int) rfl rfl Try.underlying50 (.slice none 0 0) 24 info26 (by decide) (ok := fun _ => True) trivial (by omega) (Nat.le_trans (Nat.mul_le_mul_right _ (oT (by (with_reducible assumption)) : (l1.length : Int).toNat ≤ 11728124029610)) (by omega)) (Below.refl _ _) (Nat.le_refl _) ?_; intro v962 w17 ho18 hb hg_ hnew_; clear hg_ hnew_; (rw [← Ny961.out] at ho18); have HO963 := ak (Kd.S_lower ho18 (below_size (bl1 HB GE958))); replace BK958 := ak (blk_below (bk BK958) hb); replace HB := ak (below_step (bl1 HB GE958) hb); clear hb ho18))
  go_loopg [7, 29] kj3 (fun kq v7 v29 w' => ∃ (x7_2 : List (List Int)) (x29_2 : Int), v29 = .int .i64 x29_2 ∧ Aside0 (impl_ManyAll.l0 kq l2 x7_2 l1 (l1.length : Int) x29_2 a0_0 l0_1 = some r) ∧ Aside0 (kq ≤ kj3) ∧ Aside0 (Kd.S (Kd.slice 3 (Kd.int .i64)) 26 w' w.heap.size (fun _ => True) v7 x7_2) ∧ Aside0 (w'.heap[gb958]? = some (.cells #[.int .i64 a0_0, (.slice A0_1 l0_1.length c0_1)] 25 (0, 0))) ∧ Aside0 (Below w.heap.size w w'))
  case atStart => exact ⟨(y961), (0), (by rfl), H', ⟨Nat.le_refl _⟩, ⟨by exact HO963.out⟩, ⟨bk BK958⟩, ⟨bl1 HB GE958⟩⟩
  clear H'
  try clear c1
  try clear c2
  try clear p2
  try clear c3
  try clear c7
  try clear c8
  try clear c15
  try clear c16
  try clear c16b0
  try clear c16b1
  try clear hcz11_0
  try clear hcz11_1
  try clear hcz13_0
  try clear hcz13_1
  try clear hcz9_0
  try clear hcz9_1
  try clear hfz11_0
  try clear hfz11_1
  try clear hfz13_0
  try clear hfz13_1
  try clear hfz9_0
  try clear hfz9_1
  try clear p2
  obtain ⟨x7_2, x29_2, rfl, HA, HK2, HO_7, BK958, HB⟩ := hrel
  cases gk with
  | zero => exact absurd HA.out (by simp [impl_ManyAll.l0])
  | succ k2 =>
   have H := HA.out
   clear HA
   simp only [impl_ManyAll.l0] at H
   by_cases c19 : x29_2 < (l1.length : Int)
   rotate_left
   ·rw [if_neg c19] at H
    have c19b0 : decide (x29_2 < (l1.length : Int)) = false := decide_eq_false c19
    clear c19
    obtain rfl := Option.some.inj H
    go_wp2
    go_ret
    exact ⟨_, by rfl, by exact HO_7.out, bl1 HB GE958⟩
   rw [if_pos c19] at H
   have c19b0 : decide (x29_2 < (l1.length : Int)) = true := decide_eq_true c19
   clear c19
   by_cases c20 : 0 ≤ x29_2
   rotate_left
   ·rw [if_neg c20] at H
    exact absurd H (by simp)
   rw [if_pos c20] at H
   have c20b0 : decide (0 ≤ x29_2) = true := decide_eq_true c20
   clear c20
   by_cases c21 : x29_2 < (l1.length : Int)
   rotate_left
   ·rw [if_neg c21] at H
    exact absurd H (by simp)
   rw [if_pos c21] at H
   have c21b0 : decide (x29_2 < (l1.length : Int)) = true := decide_eq_true c21
   clear c21
   replace H := Option.bind_eq_some_iff.mp H
   obtain ⟨t965, A220, H⟩ := H
   have A22 := ak A220
   clear A220
   by_cases c23 : ((l2.length : Int) : Int).toNat ≤ 35184372088832
   rotate_left
   ·rw [if_neg c23] at H
    exact absurd H (by simp)
   rw [if_pos c23] at H
   have c23b0 := eq_true c23
   have c23b1 : decide (((l2.length : Int) : Int).toNat ≤ 35184372088832) = true := decide_eq_true c23
   clear c23
   obtain ⟨y968, hy968⟩ : ∃ y_ : List Int, y_ = (([] : List Int)) := ⟨_, rfl⟩
   replace H : (impl_ManyAll.l1 k2 l2 x7_2 t965 y968 l1 (l1.length : Int) x29_2 l2 (l2.length : Int) 0 a0_0 l0_1) = some r := by (rw [hy968]; with_reducible exact H)
   have Ny968 := ak hy968
   clear hy968
   have H' := ak H
   clear H
   have p964 : 0 ≤ (x29_2 : Int) := oT (by (with_reducible assumption))
   have q964 : x29_2 < (l1.length : Int) := oT (by (with_reducible assumption))
   obtain ⟨ad964, e964, hx964_0⟩ := Kd.at_int HR1.out x29_2 p964 q964
   cases e964
   replace hx964_0 := hcb HB.out hx964_0
   replace p964 := eq_true p964
   replace q964 := eq_true q964
   have hcz24_0 := bc wr BK958 0 (.int .i64 a0_0) rfl
   have hcz24_1 := bc wr BK958 1 (.slice A0_1 l0_1.length c0_1) rfl
   have hfz24_0 := fz BK958 0
   have hfz24_1 := fz BK958 1
   go_wp2_with (first | ((with_reducible refine gate_callee (f := 59) rfl ?_); refine goesL_ (some 35) rfl rfl Try.func59 (by kernel_rfl) rfl #[.agg #[.int .i64 a0_0, .slice A0_1 l0_1.length c0_1], .int .i64 (rd l1 x29_2)] rfl (by (try simp only [List.map_toArray, List.map_cons, List.map_nil]); rfl) ?_; (with_reducible refine (impl_Net_from.calls k2 a0_0 _ _ l0_1 (rd l1 x29_2) t965 _ ?side1 ?side2 A22.out).mono ?_); (case side1 => repeat (exact (Kd.C_below HR0_1.out HB.out))); (case side2 => exact HC0_1.out); rintro e w25 ⟨v966, rfl, ho0, hb⟩; refine ⟨_, rfl, ?_⟩; replace HO_7 := ak (Kd.S_elder' (by exact HO_7.out) (Kd.R_base ho0) hb); have HO967 := ak (Kd.R_lower ho0 (below_size (bl1 HB GE958))); replace BK958 := ak (blk_below (bk BK958) hb); replace HB := ak (below_step (bl1 HB GE958) hb); (try clear hb); (try clear hb2); (try clear hk); (try clear hi); (try clear ho0)) | ((with_reducible refine gate_dst (N := 38) rfl ?_); refine Kd.R_make0 (Kd.int .i64) _ 3 rfl (N := 38) rfl 26 _ _ rfl (l2.length : Int) rfl rfl Try.underlying26 (.int .i64 0) 8 info3 (by decide) (ok := fun _ => True) trivial (by omega) (Nat.le_trans (Nat.mul_le_mul_right _ (oT (by (with_reducible assumption)) : (l2.length : Int).toNat ≤ 35184372088832)) (by omega)) (Below.refl _ _) (Nat.le_refl _) ?_; intro v969 w26 ho27 hb hg_ hnew_; clear hg_ hnew_; (rw [← Ny968.out] at ho27); replace HO_7 := ak (Kd.S_elder' (by exact HO_7.out) (Kd.R_base ho27) hb); have HO970 := ak (Kd.R_lower (Kd.R_new' ho27 (Kd.R_lt (rk HO967))) (below_size (bl1 HB GE958))); replace HO967 := ak (Kd.R_elder' (rk HO967) (Kd.R_base ho27) hb); replace BK958 := ak (blk_below (bk BK958) hb); replace HB := ak (below_step (bl1 HB GE958) hb); clear hb ho27))
   go_loopg [11, 41] k2 (fun kq v11 v41 w' => ∃ (x11_3 : List Int) (x41_3 : Int), v41 = .int .i64 x41_3 ∧ Aside0 (impl_ManyAll.l1 kq l2 x7_2 t965 x11_3 l1 (l1.length : Int) x29_2 l2 (l2.length : Int) x41_3 a0_0 l0_1 = some r) ∧ Aside0 (kq ≤ k2) ∧ Aside0 (Kd.S (Kd.slice 3 (Kd.int .i64)) 26 w' w.heap.size (fun k_ => some k_ ≠ (v966 : Value).ownBlock ∧ some k_ ≠ (v11 : Value).ownBlock) u7 x7_2) ∧ Aside0 (Kd.R (Kd.int .i64) 3 w' w.heap.size (fun k_ => some k_ ≠ (v11 : Value).ownBlock) v966 t965) ∧ Aside0 (Kd.R (Kd.int .i64) 3 w' w.heap.size (fun k_ => some k_ ≠ (v966 : Value).ownBlock) v11 x11_3) ∧ Aside0 (w'.heap[gb958]? = some (.cells #[.int .i64 a0_0, (.slice A0_1 l0_1.length c0_1)] 25 (0, 0))) ∧ Aside0 (Below w.heap.size w w'))
   case atStart => exact ⟨(y968), (0), (by rfl), H', ⟨Nat.le_refl _⟩, ⟨by exact Kd.S_mono HO_7.out (fun _ hk => ⟨hk.1.2, hk.2⟩)⟩, ⟨by exact Kd.R_mono HO967.out (fun _ hk => hk.2)⟩, ⟨by exact Kd.R_mono HO970.out (fun _ hk => hk.2)⟩, ⟨bk BK958⟩, ⟨bl1 HB GE958⟩⟩
   clear H'
   try clear c1
   try clear c2
   try clear p2
   try clear c3
   try clear c5
   try clear c7
   try clear c8
   try clear p9
   try clear q9
   try clear hx9
   try clear c15
   try clear c16
   try clear c16b0
   try clear c16b1
   try clear c19
   try clear c19b0
   try clear c20
   try clear c20b0
   try clear c21
   try clear c21b0
   try clear c23
   try clear c23b0
   try clear c23b1
   try clear hcz11_0
   try clear hcz11_1
   try clear hcz13_0
   try clear hcz13_1
   try clear hcz24_0
   try clear hcz24_1
   try clear hcz9_0
   try clear hcz9_1
   try clear hfz11_0
   try clear hfz11_1
   try clear hfz13_0
   try clear hfz13_1
   try clear hfz24_0
   try clear hfz24_1
   try clear hfz9_0
   try clear hfz9_1
   try clear hx964_0
   try clear p2
   try clear p964
   try clear q964
   obtain ⟨x11_3, x41_3, rfl, HA, HK3, HO_7, HO_10, HO_11, BK958, HB⟩ := hrel
   cases gk with
   | zero => exact absurd HA.out (by simp [impl_ManyAll.l1])
   | succ k3 =>
    have H := HA.out
    clear HA
    simp only [impl_ManyAll.l1] at H
    by_cases c28 : x41_3 < (l2.length : Int)
    rotate_left
    ·rw [if_neg c28] at H
     have c28b0 : decide (x41_3 < (l2.length : Int)) = false := decide_eq_false c28
     clear c28
     by_cases c36 : x7_2.length < 5864062014805
     rotate_left
     ·rw [if_neg c36] at H
      exact absurd H (by simp)
     rw [if_pos c36] at H
     have LMc36 := ak c36
     clear c36
     obtain ⟨y976, hy976⟩ : ∃ y_ : List (List Int), y_ = (x7_2 ++ [x11_3]) := ⟨_, rfl⟩
     replace H : (impl_ManyAll.l0 k3 l2 y976 l1 (l1.length : Int) (wrap64 (x29_2 + 1)) a0_0 l0_1) = some r := by (rw [hy976]; with_reducible exact H)
     have Ny976 := ak hy976
     clear hy976
     have H' := ak H
     clear H
     obtain ⟨Ao38, co38, eo38⟩ := Kd.R_slice HO_11.out
     subst eo38
     go_wp2_with (((with_reducible refine gate_builtin (b := .append) (xs := #[.tmp 53, .tmp 55]) rfl ?_); at_builtin; refine Kd.S_append (Kd.slice 3 (Kd.int .i64)) (w0 := w) w.heap.size rfl (.tmp 53) (.tmp 55) 50 26 (.slice none 0 0) 24 rfl Try.underlying50 info26 rfl (by decide) (by omega) u7 x7_2 x11_3 [.slice Ao38 x11_3.length co38] (fun k_ => some k_ ≠ (v966 : Value).ownBlock) (fun k_ => some k_ = (.slice Ao38 x11_3.length co38 : Value).ownBlock) rfl rfl ?aP (fun k_ hk_ => ((Kd.R_mono (ok' := fun k_ => ((fun k_ => some k_ ≠ (v966 : Value).ownBlock)) k_ ∧ some k_ ≠ (u7 : Value).ownBlock) (Kd.R_apart' (HO_11.out) (Kd.S_typed HO_7.out) (by decide)) (fun k_ hk => ⟨hk.1, hk.2⟩))).1 k_ hk_.symm) ?aF ?aO ?aB ?aS ?aL ?_; (case aP => exact Kd.M_row (Kd.R_mono (Kd.R_tight rfl (Kd.R_mono (ok' := fun k_ => ((fun k_ => some k_ ≠ (v966 : Value).ownBlock)) k_ ∧ some k_ ≠ (u7 : Value).ownBlock) (Kd.R_apart' (HO_11.out) (Kd.S_typed HO_7.out) (by decide)) (fun k_ hk => ⟨hk.1, hk.2⟩))) (fun _ h_ => h_))); (case aB => exact (bl1 HB GE958)); (case aF => exact (fun k_ hk => Kd.fresh' (Kd.R_lt (rk HO_10)) k_ hk)); (case aO => exact (by exact Kd.S_mono HO_7.out (fun k_ hk => ⟨hk.1, fun e_ => hk.2 e_⟩))); (case aS => exact (below_size (bl1 HB GE958))); (case aL => have := LMc36.out; omega); intro v977 w37 ho hb hg hat; rw [← Ny976.out] at ho; have n0_ := ak (Kd.R_over' (rk HO_10) (Kd.S_typed (by exact HO_7.out)) (by decide) hg); have n1_ := ak (blk_grown (bk BK958) hg (Kd.S_ne HO_7.out BK958.out (by decide))); have n2_ := ak (hb); have n3_ := ak (ho); clear HO_10; clear BK958; clear HB; clear HO_7; clear HO_11; have HO_10 := n0_; have BK958 := n1_; have HB := n2_; have HO978 := n3_; clear n0_ n1_ n2_ n3_; clear ho hb hg hat))
     go_roundg k3
     case measure => have := HJ3.out; have := HK2.out; have := HK3.out; omega
     case rel => exact ⟨(y976), (wrap64 (x29_2 + 1)), (by rfl), H', ⟨by have := HJ3.out; have := HK2.out; have := HK3.out; omega⟩, ⟨by exact Kd.S_mono HO978.out (fun _ hk => trivial)⟩, ⟨bk BK958⟩, ⟨bl1 HB GE958⟩⟩
    rw [if_pos c28] at H
    have c28b0 : decide (x41_3 < (l2.length : Int)) = true := decide_eq_true c28
    clear c28
    by_cases c29 : 0 ≤ x41_3
    rotate_left
    ·rw [if_neg c29] at H
     exact absurd H (by simp)
    rw [if_pos c29] at H
    have c29b0 : decide (0 ≤ x41_3) = true := decide_eq_true c29
    clear c29
    by_cases c30 : x41_3 < (l2.length : Int)
    rotate_left
    ·rw [if_neg c30] at H
     exact absurd H (by simp)
    rw [if_pos c30] at H
    have c30b0 : decide (x41_3 < (l2.length : Int)) = true := decide_eq_true c30
    clear c30
    by_cases c31 : 0 ≤ (rd l2 x41_3)
    rotate_left
    ·rw [if_neg c31] at H
     exact absurd H (by simp)
    rw [if_pos c31] at H
    have c31b0 : decide (0 ≤ (rd l2 x41_3)) = true := decide_eq_true c31
    clear c31
    by_cases c32 : (rd l2 x41_3) < (t965.length : Int)
    rotate_left
    ·rw [if_neg c32] at H
     exact absurd H (by simp)
    rw [if_pos c32] at H
    have c32b0 : decide ((rd l2 x41_3) < (t965.length : Int)) = true := decide_eq_true c32
    clear c32
    by_cases c33 : x11_3.length < 17592186044416
    rotate_left
    ·rw [if_neg c33] at H
     exact absurd H (by simp)
    rw [if_pos c33] at H
    have LMc33 := ak c33
    clear c33
    obtain ⟨y973, hy973⟩ : ∃ y_ : List Int, y_ = (x11_3 ++ [rd t965 (rd l2 x41_3)]) := ⟨_, rfl⟩
    replace H : (impl_ManyAll.l1 k3 l2 x7_2 t965 y973 l1 (l1.length : Int) x29_2 l2 (l2.length : Int) (wrap64 (x41_3 + 1)) a0_0 l0_1) = some r := by (rw [hy973]; with_reducible exact H)
    have Ny973 := ak hy973
    clear hy973
    have H' := ak H
    clear H
    have p971 : 0 ≤ (x41_3 : Int) := oT (by (with_reducible assumption))
    have q971 : x41_3 < (l2.length : Int) := oT (by (with_reducible assumption))
    obtain ⟨ad971, e971, hx971_0⟩ := Kd.at_int HR2.out x41_3 p971 q971
    cases e971
    replace hx971_0 := hcb HB.out hx971_0
    replace p971 := eq_true p971
    replace q971 := eq_true q971
    obtain ⟨Ao34, co34, eo34⟩ := Kd.R_slice HO_10.out
    subst eo34
    have p972 : 0 ≤ ((rd l2 x41_3) : Int) := oT (by (with_reducible assumption))
    have q972 : (rd l2 x41_3) < (t965.length : Int) := oT (by (with_reducible assumption))
    obtain ⟨ad972, e972, hx972_0⟩ := Kd.at_int (Kd.R_reads' HO_10.out).2.2 (rd l2 x41_3) p972 q972
    cases e972
    replace p972 := eq_true p972
    replace q972 := eq_true q972
    go_wp2_with (((with_reducible refine gate_builtin (b := .append) (xs := #[.tmp 45, .tmp 50]) rfl ?_); at_builtin; refine Kd.R_append (Kd.int .i64) (w0 := w) w.heap.size rfl (.tmp 45) (.tmp 50) 26 3 (.int .i64 0) 8 rfl Try.underlying26 info3 rfl (by decide) (by omega) u11 x11_3 (rd t965 (rd l2 x41_3)) [.int .i64 (rd t965 (rd l2 x41_3))] (fun k_ => some k_ ≠ (.slice (some ad972) t965.length co34 : Value).ownBlock) (fun _ => False) rfl rfl ?aP (fun _ hk => hk.elim) ?aF ?aO ?aB ?aS ?aL ?_; (case aP => exact rfl); (case aB => exact (bl1 HB GE958)); (case aF => exact (fun k_ hk => Kd.fresh' (Kd.R_lt (rk HO_10)) k_ hk)); (case aO => exact (rk HO_11)); (case aS => exact (below_size (bl1 HB GE958))); (case aL => have := LMc33.out; omega); intro v974 w35 ho hb hg hat; rw [← Ny973.out] at ho; have n0_ := ak (Kd.S_after (ok := (fun k_ => some k_ ≠ (.slice (some ad972) t965.length co34 : Value).ownBlock)) (by exact HO_7.out) hg hat); have n1_ := ak (Kd.R_after (ok := (fun _ => True)) (by exact Kd.R_mono HO_10.out (fun _ hk => ⟨trivial, hk⟩)) hg hat); have n2_ := ak (blk_grown (bk BK958) hg (Kd.R_ne HO_11.out BK958.out (by decide))); have n3_ := ak (hb); have n4_ := ak (ho); clear HO_7; clear HO_10; clear BK958; clear HB; clear HO_11; have HO_7 := n0_; have HO_10 := n1_; have BK958 := n2_; have HB := n3_; have HO975 := n4_; clear n0_ n1_ n2_ n3_ n4_; clear ho hb hg hat))
    go_roundg k3
    case measure => have := HJ3.out; have := HK2.out; have := HK3.out; omega
    case rel => exact ⟨(y973), (wrap64 (x41_3 + 1)), (by rfl), H', ⟨by have := HJ3.out; have := HK2.out; have := HK3.out; omega⟩, ⟨by exact HO_7.out⟩, ⟨by exact Kd.R_mono HO_10.out (fun _ hk => hk.2)⟩, ⟨rk HO975⟩, ⟨bk BK958⟩, ⟨bl1 HB GE958⟩⟩

end Go.Proofs.Ytgickejeakmenaa.F
