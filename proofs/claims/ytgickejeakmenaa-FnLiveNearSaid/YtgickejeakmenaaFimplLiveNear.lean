-- Printed by wip/px/px.py of this claim's repository (the kit's printer, extended there). Lean checks it.
import Derived.Test.YtgickejeakmenaaFKinds
import Derived.Test.YtgickejeakmenaaFimplNethas
import Derived.Test.YtgickejeakmenaaFimplNear
import Derived.Test.YtgickejeakmenaaFimplLiveOk
import Derived.Test.YtgickejeakmenaaFimplLivenow
namespace Go.Proofs.Ytgickejeakmenaa.F
open Go.RowKit Go.Proofs.YtgickejeakmenaaW.PrintWords Go.Proofs.YtgickejeakmenaaW.PrintLast Go.Proofs.YtgickejeakmenaaW.PrintMore
attribute [local go_sem] max2_int min2_int max_two min_two max_three min_three max_four min_four   -- for this text's walks alone
set_option linter.unusedVariables false
set_option linter.unusedSimpArgs false

/-! ### impl_LiveNear: function 28 -/
def impl_LiveNear.j0 : Nat → Int → Int → Bool → Int → List (S41) → List (S113) → Option (Int)
 | 0, _, _, _, _, _, _ => none
 | k + 1, x1, x2, x18, x804000, x804001, x804002 => if x18 = true then (some (-1)) else ((impl_Live_now.f k x804000 x804001 x804002).bind fun bt809 => ((impl_Net_from.f k bt809.1 bt809.2 x1).bind fun t813 => (if 0 ≤ x2 then (if x2 < (t813.length : Int) then (some (rd t813 x2)) else (none)) else (none))))
def impl_LiveNear.f (k : Nat) (a0_0 : Int) (l0_1 : List (S41)) (l0_2 : List (S113)) (a1 : Int) (a2 : Int) : Option (Int) := (impl_LiveOk.f k a0_0 l0_1 l0_2).bind fun t804 => (if t804 = true then ((impl_Net_has.f a0_0 l0_1 (([a1, a2] : List Int))).bind fun t808 => (impl_LiveNear.j0 k a1 a2 (!t808) a0_0 l0_1 l0_2)) else (impl_LiveNear.j0 k a1 a2 true a0_0 l0_1 l0_2))
theorem impl_LiveNear.mono_l : ∀ k, (∀ y0 y1 y2 y3 y4 y5, LeO (impl_LiveNear.j0 k y0 y1 y2 y3 y4 y5) (impl_LiveNear.j0 (k + 1) y0 y1 y2 y3 y4 y5))
 | 0 => fun _ _ _ _ _ _ r h => by simp [impl_LiveNear.j0] at h
 | k + 1 => by
  have ih0 := impl_LiveNear.mono_l k
  ·intro y0 y1 y2 y3 y4 y5
   unfold impl_LiveNear.j0
   repeat' first | (with_reducible exact impl_Live_now.mono _ _ _ _) | (with_reducible exact impl_Net_from.mono _ _ _ _) | (with_reducible exact LeO.refl _) | (with_reducible refine LeO.ite ?_ ?_) | (with_reducible refine LeO.bind ?_ (fun _ => ?_))
theorem impl_LiveNear.mono : ∀ a0 a1 a2 a3 a4 k, LeO (impl_LiveNear.f k a0 a1 a2 a3 a4) (impl_LiveNear.f (k + 1) a0 a1 a2 a3 a4) := by
 intro a0 a1 a2 a3 a4 k
 have ih0 := impl_LiveNear.mono_l k
 unfold impl_LiveNear.f
 repeat' first | (with_reducible exact ih0 _ _ _ _ _ _) | (with_reducible exact impl_LiveOk.mono _ _ _ _) | (with_reducible exact LeO.refl _) | (with_reducible refine LeO.ite ?_ ?_) | (with_reducible refine LeO.bind ?_ (fun _ => ?_))
set_option maxHeartbeats 8000000 in
set_option maxRecDepth 100000 in
theorem impl_LiveNear.calls (k : Nat) (a0_0 : Int) (A0_1 : Option Addr) (c0_1 : Nat) (l0_1 : List (S41)) (A0_2 : Option Addr) (c0_2 : Nat) (l0_2 : List (S113)) (a1 : Int) (a2 : Int) (r : Int) (w : World) (hr0_1 : Kd.C k41 w A0_1 l0_1.length l0_1) (hc0_1 : l0_1.length ≤ c0_1) (hr0_2 : Kd.C k113 w A0_2 l0_2.length l0_2) (hc0_2 : l0_2.length ≤ c0_2) (h : impl_LiveNear.f k a0_0 l0_1 l0_2 a1 a2 = some r) :
  Calls Try.prog 28 #[.agg #[.int .i64 a0_0, .slice A0_1 l0_1.length c0_1, .slice A0_2 l0_2.length c0_2], .int .i64 a1, .int .i64 a2] w fun e w' => e = .returned (.int .i64 r) ∧ Below w.heap.size w w' := by
 have hu44 := Try.underlying44
 have hu25 := Try.underlying25
 have HR0_1 := ak hr0_1
 have HC0_1 := ak hc0_1
 clear hr0_1 hc0_1
 have HR0_2 := ak hr0_2
 have HC0_2 := ak hc0_2
 clear hr0_2 hc0_2
 have HB := ak (Below.refl w.heap.size w)
 have H : ((impl_LiveOk.f k a0_0 l0_1 l0_2).bind fun t804 => (if t804 = true then ((impl_Net_has.f a0_0 l0_1 (([a1, a2] : List Int))).bind fun t808 => (impl_LiveNear.j0 k a1 a2 (!t808) a0_0 l0_1 l0_2)) else (impl_LiveNear.j0 k a1 a2 true a0_0 l0_1 l0_2))) = some r := h
 clear h
 have HC4 := ak H
 clear H
 go_enter Try.func28, Try.ntmps28
 go_upto_region 1 with (((with_reducible refine gate_dst (N := 3) rfl ?_); refine box_event ?hg (N := 3) ?hd (cs := #[.int .i64 a0_0, .slice A0_1 l0_1.length c0_1, .slice A0_2 l0_2.length c0_2]) (t := 44) ?hr ?_; (case hd => rfl); (case hg => rfl); (case hr => (go_simp; done)); intro gb803 hg w5 hbox hb; have BK803 := ak (hbox); have GW803 := ak ((by rw [hg]; exact (below_size (bl HB)) : w.heap.size ≤ gb803)); have GE803 := ak ((by rw [hg]; exact (below_size (bl HB)) : w.heap.size ≤ gb803)); replace HB := ak (below_step (bl HB) hb); clear hb hbox hg))
 (try simp only [Act.put, List.setIfInBounds_toArray, List.set_cons_zero, List.set_cons_succ])
 go_cut [18] (fun v18 wc => ∃ (kq : Nat) (x18_3 : Bool), v18 = .bool x18_3 ∧ Aside0 (impl_LiveNear.j0 kq a1 a2 x18_3 a0_0 l0_1 l0_2 = some r) ∧ Aside0 (kq ≤ k) ∧ Aside0 (wc.heap[gb803]? = some (.cells #[.int .i64 a0_0, (.slice A0_1 l0_1.length c0_1), (.slice A0_2 l0_2.length c0_2)] 44 (0, 0))) ∧ Aside0 (Below w.heap.size w wc))
 case first =>
  have H := HC4.out
  clear HC4
  replace H := Option.bind_eq_some_iff.mp H
  obtain ⟨t804, A60, H⟩ := H
  have A6 := ak A60
  clear A60
  by_cases c7 : t804 = true
  rotate_left
  ·replace c7 := Bool.eq_false_iff.mpr c7
   subst c7
   rw [if_neg (show ¬ (false = true) by decide)] at H
   have H' := ak H
   clear H
   have hcz16_0 := bc w5 BK803 0 (.int .i64 a0_0) rfl
   have hcz16_1 := bc w5 BK803 1 (.slice A0_1 l0_1.length c0_1) rfl
   have hcz16_2 := bc w5 BK803 2 (.slice A0_2 l0_2.length c0_2) rfl
   have hfz16_0 := fz BK803 0
   have hfz16_1 := fz BK803 1
   have hfz16_2 := fz BK803 2
   go_wp2_with (((with_reducible refine gate_callee (f := 72) rfl ?_); refine goesL_ (some 8) rfl rfl Try.func72 (by kernel_rfl) rfl #[.agg #[.int .i64 a0_0, .slice A0_1 l0_1.length c0_1, .slice A0_2 l0_2.length c0_2]] rfl (by (try simp only [List.map_toArray, List.map_cons, List.map_nil]); rfl) ?_; (with_reducible refine (impl_LiveOk.calls k a0_0 _ _ l0_1 _ _ l0_2 false _ ?side1 ?side2 ?side3 ?side4 A6.out).mono ?_); (case side1 => repeat (exact (Kd.C_below HR0_1.out HB.out))); (case side2 => exact HC0_1.out); (case side3 => repeat (exact (Kd.C_below HR0_2.out HB.out))); (case side4 => exact HC0_2.out); rintro e w17 ⟨rfl, hb⟩; refine ⟨_, rfl, ?_⟩; replace BK803 := ak (blk_below (bk BK803) hb); replace HB := ak (below_step (bl1 HB GE803) hb); (try clear hb); (try clear hb2); (try clear hk); (try clear hi)))
   go_meet
   case rel => exact ⟨_, (true), (by rfl), H', ⟨by omega⟩, ⟨bk BK803⟩, ⟨bl1 HB GE803⟩⟩
  subst c7
  rw [if_pos rfl] at H
  obtain ⟨y805, hy805⟩ : ∃ y_ : List Int, y_ = (([a1, a2] : List Int)) := ⟨_, rfl⟩
  replace H : ((impl_Net_has.f a0_0 l0_1 y805).bind fun t808 => (impl_LiveNear.j0 k a1 a2 (!t808) a0_0 l0_1 l0_2)) = some r := by (rw [hy805]; with_reducible exact H)
  have Ny805 := ak hy805
  clear hy805
  replace H := Option.bind_eq_some_iff.mp H
  obtain ⟨t808, A80, H⟩ := H
  have A8 := ak A80
  clear A80
  have H' := ak H
  clear H
  have hcz9_0 := bc w5 BK803 0 (.int .i64 a0_0) rfl
  have hcz9_1 := bc w5 BK803 1 (.slice A0_1 l0_1.length c0_1) rfl
  have hcz9_2 := bc w5 BK803 2 (.slice A0_2 l0_2.length c0_2) rfl
  have hfz9_0 := fz BK803 0
  have hfz9_1 := fz BK803 1
  have hfz9_2 := fz BK803 2
  go_wp2_with (first | ((with_reducible refine gate_callee (f := 72) rfl ?_); refine goesL_ (some 8) rfl rfl Try.func72 (by kernel_rfl) rfl #[.agg #[.int .i64 a0_0, .slice A0_1 l0_1.length c0_1, .slice A0_2 l0_2.length c0_2]] rfl (by (try simp only [List.map_toArray, List.map_cons, List.map_nil]); rfl) ?_; (with_reducible refine (impl_LiveOk.calls k a0_0 _ _ l0_1 _ _ l0_2 true _ ?side1 ?side2 ?side3 ?side4 A6.out).mono ?_); (case side1 => repeat (exact (Kd.C_below HR0_1.out HB.out))); (case side2 => exact HC0_1.out); (case side3 => repeat (exact (Kd.C_below HR0_2.out HB.out))); (case side4 => exact HC0_2.out); rintro e w10 ⟨rfl, hb⟩; refine ⟨_, rfl, ?_⟩; replace BK803 := ak (blk_below (bk BK803) hb); replace HB := ak (below_step (bl1 HB GE803) hb); (try clear hb); (try clear hb2); (try clear hk); (try clear hi); have hcz11_0 := bc w10 BK803 0 (.int .i64 a0_0) rfl; have hcz11_1 := bc w10 BK803 1 (.slice A0_1 l0_1.length c0_1) rfl; have hcz11_2 := bc w10 BK803 2 (.slice A0_2 l0_2.length c0_2) rfl; have hfz11_0 := fz BK803 0; have hfz11_1 := fz BK803 1; have hfz11_2 := fz BK803 2) | ((with_reducible refine gate_dst (N := 15) rfl ?_); refine Kd.R_lit_w (Kd.int .i64) _ 3 ?hg (N := 15) ?hd (xs := ([a1, a2] : List Int)) (inner := [.int .i64 a1, .int .i64 a2]) (ok := fun _ => True) (okp := fun _ => True) ?hr ?hp (fun _ hk => hk) trivial (Below.refl _ _) (Nat.le_refl _) (by simp) ?_; (case hd => rfl); (case hg => rfl); (case hr => (go_simp; done)); (case hp => exact (Reps.one (show Kd.M (Kd.int .i64) _ _ _ a1 [.int .i64 a1] from rfl) (Reps.one (show Kd.M (Kd.int .i64) _ _ _ a2 [.int .i64 a2] from rfl) (Reps.none _ _)))); intro v806 w12 ho13 hb hg_ hnew_; clear hg_ hnew_; (rw [← Ny805.out] at ho13); have HO807 := ak (Kd.R_lower ho13 (below_size (bl1 HB GE803))); replace BK803 := ak (blk_below (bk BK803) hb); replace HB := ak (below_step (bl1 HB GE803) hb); clear hb ho13; obtain ⟨Ao14, co14, eo14⟩ := Kd.R_slice HO807.out; subst eo14) | (go_at_call 73; (with_reducible refine (impl_Net_has.calls a0_0 _ _ l0_1 _ _ y805 t808 _ ?side1 ?side2 ?side3 ?side4 A8.out).mono ?_); (case side1 => repeat (exact (Kd.C_below HR0_1.out HB.out))); (case side2 => exact HC0_1.out); (case side3 => repeat (exact (Kd.R_reads' HO807.out).2.2)); (case side4 => exact (Kd.R_reads' HO807.out).2.1); rintro e w15 ⟨rfl, hb⟩; have n0_ := ak (Kd.R_below (rk HO807) hb); have n1_ := ak (blk_below (bk BK803) hb); have n2_ := ak (below_step (bl1 HB GE803) hb); clear HO807; clear BK803; clear HB; have HO807 := n0_; have BK803 := n1_; have HB := n2_; clear n0_ n1_ n2_; (try clear hb); (try clear hb2); (try clear hk); (try clear hi)))
  go_meet
  case rel => exact ⟨_, (!t808), (by rfl), H', ⟨by omega⟩, ⟨bk BK803⟩, ⟨bl1 HB GE803⟩⟩
 clear HC4
 try clear c2
 try clear p2
 try clear c7
 try clear hcz11_0
 try clear hcz11_1
 try clear hcz11_2
 try clear hcz16_0
 try clear hcz16_1
 try clear hcz16_2
 try clear hcz9_0
 try clear hcz9_1
 try clear hcz9_2
 try clear hfz11_0
 try clear hfz11_1
 try clear hfz11_2
 try clear hfz16_0
 try clear hfz16_1
 try clear hfz16_2
 try clear hfz9_0
 try clear hfz9_1
 try clear hfz9_2
 obtain ⟨kq, x18_3, rfl, HA, HJ3, BK803, HB⟩ := hcut
 cases kq with
 | zero => exact absurd HA.out (by simp [impl_LiveNear.j0])
 | succ kj3 =>
  have H := HA.out
  clear HA
  simp only [impl_LiveNear.j0] at H
  by_cases c18 : x18_3 = true
  ·subst c18
   rw [if_pos rfl] at H
   obtain rfl := Option.some.inj H
   go_wp2
   go_ret
   exact ⟨by rfl, bl1 HB GE803⟩
  replace c18 := Bool.eq_false_iff.mpr c18
  subst c18
  rw [if_neg (show ¬ (false = true) by decide)] at H
  replace H := Option.bind_eq_some_iff.mp H
  obtain ⟨⟨t809, t810⟩, A190, H⟩ := H
  have A19 := ak A190
  clear A190
  replace H := Option.bind_eq_some_iff.mp H
  obtain ⟨t813, A200, H⟩ := H
  have A20 := ak A200
  clear A200
  by_cases c21 : 0 ≤ a2
  rotate_left
  ·rw [if_neg c21] at H
   exact absurd H (by simp)
  rw [if_pos c21] at H
  have c21b0 : decide (0 ≤ a2) = true := decide_eq_true c21
  clear c21
  by_cases c22 : a2 < (t813.length : Int)
  rotate_left
  ·rw [if_neg c22] at H
   exact absurd H (by simp)
  rw [if_pos c22] at H
  have c22b0 : decide (a2 < (t813.length : Int)) = true := decide_eq_true c22
  clear c22
  obtain rfl := Option.some.inj H
  have hcz23_0 := bc wc BK803 0 (.int .i64 a0_0) rfl
  have hcz23_1 := bc wc BK803 1 (.slice A0_1 l0_1.length c0_1) rfl
  have hcz23_2 := bc wc BK803 2 (.slice A0_2 l0_2.length c0_2) rfl
  have hfz23_0 := fz BK803 0
  have hfz23_1 := fz BK803 1
  have hfz23_2 := fz BK803 2
  go_wp2_with (first | ((with_reducible refine gate_callee (f := 74) rfl ?_); refine goesL_ (some 20) rfl rfl Try.func74 (by kernel_rfl) rfl #[.agg #[.int .i64 a0_0, .slice A0_1 l0_1.length c0_1, .slice A0_2 l0_2.length c0_2]] rfl (by (try simp only [List.map_toArray, List.map_cons, List.map_nil]); rfl) ?_; (with_reducible refine (impl_Live_now.calls kj3 a0_0 _ _ l0_1 _ _ l0_2 t809 t810 _ ?side1 ?side2 ?side3 ?side4 A19.out).mono ?_); (case side1 => repeat (exact (Kd.C_below HR0_1.out HB.out))); (case side2 => exact HC0_1.out); (case side3 => repeat (exact (Kd.C_below HR0_2.out HB.out))); (case side4 => exact HC0_2.out); rintro e w24 ⟨v811, rfl, ho0, hb⟩; refine ⟨_, rfl, ?_⟩; have HO812 := ak (Kd.R_lower ho0 (below_size (bl1 HB GE803))); replace BK803 := ak (blk_below (bk BK803) hb); replace HB := ak (below_step (bl1 HB GE803) hb); (try clear hb); (try clear hb2); (try clear hk); (try clear hi); (try clear ho0); obtain ⟨Ao25, co25, eo25⟩ := Kd.R_slice HO812.out; subst eo25) | ((with_reducible refine gate_callee (f := 59) rfl ?_); refine goesL_ (some 22) rfl rfl Try.func59 (by kernel_rfl) rfl #[.agg #[.int .i64 t809, .slice Ao25 t810.length co25], .int .i64 a1] rfl (by (try simp only [List.map_toArray, List.map_cons, List.map_nil]); rfl) ?_; (with_reducible refine (impl_Net_from.calls kj3 t809 _ _ t810 a1 t813 _ ?side1 ?side2 A20.out).mono ?_); (case side1 => repeat (exact (Kd.R_reads' HO812.out).2.2)); (case side2 => exact (Kd.R_reads' HO812.out).2.1); rintro e w26 ⟨v814, rfl, ho0, hb⟩; refine ⟨_, rfl, ?_⟩; replace HO812 := ak (Kd.R_below (rk HO812) hb); have HO815 := ak (Kd.R_lower ho0 (below_size (bl1 HB GE803))); replace BK803 := ak (blk_below (bk BK803) hb); replace HB := ak (below_step (bl1 HB GE803) hb); (try clear hb); (try clear hb2); (try clear hk); (try clear hi); (try clear ho0); obtain ⟨Ao27, co27, eo27⟩ := Kd.R_slice HO815.out; subst eo27; have p816 : 0 ≤ (a2 : Int) := oT (by (with_reducible assumption)); have q816 : a2 < (t813.length : Int) := oT (by (with_reducible assumption)); obtain ⟨ad816, e816, hx816_0⟩ := Kd.at_int (Kd.R_reads' HO815.out).2.2 a2 p816 q816; cases e816; replace p816 := eq_true p816; replace q816 := eq_true q816))
  go_ret
  exact ⟨by rfl, bl1 HB GE803⟩

end Go.Proofs.Ytgickejeakmenaa.F
