-- Printed by wip/px/px.py of this claim's repository (the kit's printer, extended there). Lean checks it.
import Derived.Test.YtgickejeakmenaaFKinds
import Derived.Test.YtgickejeakmenaaFspecl1In
import Derived.Test.YtgickejeakmenaaFspecl3All
import Derived.Test.YtgickejeakmenaaFspecl16Ok
import Derived.Test.YtgickejeakmenaaFspecl16Now
namespace Go.Proofs.Ytgickejeakmenaa.F
open Go.RowKit Go.Proofs.YtgickejeakmenaaW.PrintWords Go.Proofs.YtgickejeakmenaaW.PrintLast Go.Proofs.YtgickejeakmenaaW.PrintMore
attribute [local go_sem] max2_int min2_int max_two min_two max_three min_three max_four min_four   -- for this text's walks alone
set_option linter.unusedVariables false
set_option linter.unusedSimpArgs false

/-! ### spec_LiveNear: function 29 -/
def spec_LiveNear.j0 : Nat → Int → Int → Bool → Int → List (S41) → List (S113) → Option (Int)
 | 0, _, _, _, _, _, _ => none
 | k + 1, x1, x2, x27, x833000, x833001, x833002 => if x27 = true then (some (-1)) else ((spec_l16Now.f k x833000 x833001 x833002).bind fun bt836 => ((spec_l3All.f k bt836.1 bt836.2 x1).bind fun t840 => (if 0 ≤ x2 then (if x2 < (t840.length : Int) then (some (rd t840 x2)) else (none)) else (none))))
def spec_LiveNear.f (k : Nat) (a0_0 : Int) (l0_1 : List (S41)) (l0_2 : List (S113)) (a1 : Int) (a2 : Int) : Option (Int) := (spec_l16Ok.f k a0_0 l0_1 l0_2).bind fun t833 => (if t833 = true then ((spec_l1In.f a1 0 (wrap64 (a0_0 - 1))).bind fun t834 => (if t834 = true then ((spec_l1In.f a2 0 (wrap64 (a0_0 - 1))).bind fun t835 => (spec_LiveNear.j0 k a1 a2 (!t835) a0_0 l0_1 l0_2)) else (spec_LiveNear.j0 k a1 a2 true a0_0 l0_1 l0_2))) else (spec_LiveNear.j0 k a1 a2 true a0_0 l0_1 l0_2))
theorem spec_LiveNear.mono_l : ∀ k, (∀ y0 y1 y2 y3 y4 y5, LeO (spec_LiveNear.j0 k y0 y1 y2 y3 y4 y5) (spec_LiveNear.j0 (k + 1) y0 y1 y2 y3 y4 y5))
 | 0 => fun _ _ _ _ _ _ r h => by simp [spec_LiveNear.j0] at h
 | k + 1 => by
  have ih0 := spec_LiveNear.mono_l k
  ·intro y0 y1 y2 y3 y4 y5
   unfold spec_LiveNear.j0
   repeat' first | (with_reducible exact spec_l16Now.mono _ _ _ _) | (with_reducible exact spec_l3All.mono _ _ _ _) | (with_reducible exact LeO.refl _) | (with_reducible refine LeO.ite ?_ ?_) | (with_reducible refine LeO.bind ?_ (fun _ => ?_))
theorem spec_LiveNear.mono : ∀ a0 a1 a2 a3 a4 k, LeO (spec_LiveNear.f k a0 a1 a2 a3 a4) (spec_LiveNear.f (k + 1) a0 a1 a2 a3 a4) := by
 intro a0 a1 a2 a3 a4 k
 have ih0 := spec_LiveNear.mono_l k
 unfold spec_LiveNear.f
 repeat' first | (with_reducible exact ih0 _ _ _ _ _ _) | (with_reducible exact spec_l16Ok.mono _ _ _ _) | (with_reducible exact LeO.refl _) | (with_reducible refine LeO.ite ?_ ?_) | (with_reducible refine LeO.bind ?_ (fun _ => ?_))
set_option maxHeartbeats 8000000 in
set_option maxRecDepth 100000 in
theorem spec_LiveNear.calls (k : Nat) (a0_0 : Int) (A0_1 : Option Addr) (c0_1 : Nat) (l0_1 : List (S41)) (A0_2 : Option Addr) (c0_2 : Nat) (l0_2 : List (S113)) (a1 : Int) (a2 : Int) (r : Int) (w : World) (hr0_1 : Kd.C k41 w A0_1 l0_1.length l0_1) (hc0_1 : l0_1.length ≤ c0_1) (hr0_2 : Kd.C k113 w A0_2 l0_2.length l0_2) (hc0_2 : l0_2.length ≤ c0_2) (h : spec_LiveNear.f k a0_0 l0_1 l0_2 a1 a2 = some r) :
  Calls Try.prog 29 #[.agg #[.int .i64 a0_0, .slice A0_1 l0_1.length c0_1, .slice A0_2 l0_2.length c0_2], .int .i64 a1, .int .i64 a2] w fun e w' => e = .returned (.int .i64 r) ∧ Below w.heap.size w w' := by
 have hu44 := Try.underlying44
 have HR0_1 := ak hr0_1
 have HC0_1 := ak hc0_1
 clear hr0_1 hc0_1
 have HR0_2 := ak hr0_2
 have HC0_2 := ak hc0_2
 clear hr0_2 hc0_2
 have HB := ak (Below.refl w.heap.size w)
 have H : ((spec_l16Ok.f k a0_0 l0_1 l0_2).bind fun t833 => (if t833 = true then ((spec_l1In.f a1 0 (wrap64 (a0_0 - 1))).bind fun t834 => (if t834 = true then ((spec_l1In.f a2 0 (wrap64 (a0_0 - 1))).bind fun t835 => (spec_LiveNear.j0 k a1 a2 (!t835) a0_0 l0_1 l0_2)) else (spec_LiveNear.j0 k a1 a2 true a0_0 l0_1 l0_2))) else (spec_LiveNear.j0 k a1 a2 true a0_0 l0_1 l0_2))) = some r := h
 clear h
 have HC4 := ak H
 clear H
 go_enter Try.func29, Try.ntmps29
 go_upto_region 1 with (((with_reducible refine gate_dst (N := 3) rfl ?_); refine box_event ?hg (N := 3) ?hd (cs := #[.int .i64 a0_0, .slice A0_1 l0_1.length c0_1, .slice A0_2 l0_2.length c0_2]) (t := 44) ?hr ?_; (case hd => rfl); (case hg => rfl); (case hr => (go_simp; done)); intro gb832 hg w5 hbox hb; have BK832 := ak (hbox); have GW832 := ak ((by rw [hg]; exact (below_size (bl HB)) : w.heap.size ≤ gb832)); have GE832 := ak ((by rw [hg]; exact (below_size (bl HB)) : w.heap.size ≤ gb832)); replace HB := ak (below_step (bl HB) hb); clear hb hbox hg))
 (try simp only [Act.put, List.setIfInBounds_toArray, List.set_cons_zero, List.set_cons_succ])
 go_cut [27] (fun v27 wc => ∃ (kq : Nat) (x27_3 : Bool), v27 = .bool x27_3 ∧ Aside0 (spec_LiveNear.j0 kq a1 a2 x27_3 a0_0 l0_1 l0_2 = some r) ∧ Aside0 (kq ≤ k) ∧ Aside0 (wc.heap[gb832]? = some (.cells #[.int .i64 a0_0, (.slice A0_1 l0_1.length c0_1), (.slice A0_2 l0_2.length c0_2)] 44 (0, 0))) ∧ Aside0 (Below w.heap.size w wc))
 case first =>
  have H := HC4.out
  clear HC4
  replace H := Option.bind_eq_some_iff.mp H
  obtain ⟨t833, A60, H⟩ := H
  have A6 := ak A60
  clear A60
  by_cases c7 : t833 = true
  rotate_left
  ·replace c7 := Bool.eq_false_iff.mpr c7
   subst c7
   rw [if_neg (show ¬ (false = true) by decide)] at H
   have H' := ak H
   clear H
   have hcz17_0 := bc w5 BK832 0 (.int .i64 a0_0) rfl
   have hcz17_1 := bc w5 BK832 1 (.slice A0_1 l0_1.length c0_1) rfl
   have hcz17_2 := bc w5 BK832 2 (.slice A0_2 l0_2.length c0_2) rfl
   have hfz17_0 := fz BK832 0
   have hfz17_1 := fz BK832 1
   have hfz17_2 := fz BK832 2
   go_wp2_with (((with_reducible refine gate_callee (f := 75) rfl ?_); refine goesL_ (some 8) rfl rfl Try.func75 (by kernel_rfl) rfl #[.agg #[.int .i64 a0_0, .slice A0_1 l0_1.length c0_1, .slice A0_2 l0_2.length c0_2]] rfl (by (try simp only [List.map_toArray, List.map_cons, List.map_nil]); rfl) ?_; (with_reducible refine (spec_l16Ok.calls k a0_0 _ _ l0_1 _ _ l0_2 false _ ?side1 ?side2 ?side3 ?side4 A6.out).mono ?_); (case side1 => repeat (exact (Kd.C_below HR0_1.out HB.out))); (case side2 => exact HC0_1.out); (case side3 => repeat (exact (Kd.C_below HR0_2.out HB.out))); (case side4 => exact HC0_2.out); rintro e w18 ⟨rfl, hb⟩; refine ⟨_, rfl, ?_⟩; replace BK832 := ak (blk_below (bk BK832) hb); replace HB := ak (below_step (bl1 HB GE832) hb); (try clear hb); (try clear hb2); (try clear hk); (try clear hi)))
   go_meet
   case rel => exact ⟨_, (true), (by rfl), H', ⟨by omega⟩, ⟨bk BK832⟩, ⟨bl1 HB GE832⟩⟩
  subst c7
  rw [if_pos rfl] at H
  replace H := Option.bind_eq_some_iff.mp H
  obtain ⟨t834, A80, H⟩ := H
  have A8 := ak A80
  clear A80
  by_cases c9 : t834 = true
  rotate_left
  ·replace c9 := Bool.eq_false_iff.mpr c9
   subst c9
   rw [if_neg (show ¬ (false = true) by decide)] at H
   have H' := ak H
   clear H
   have hcz14_0 := bc w5 BK832 0 (.int .i64 a0_0) rfl
   have hcz14_1 := bc w5 BK832 1 (.slice A0_1 l0_1.length c0_1) rfl
   have hcz14_2 := bc w5 BK832 2 (.slice A0_2 l0_2.length c0_2) rfl
   have hfz14_0 := fz BK832 0
   have hfz14_1 := fz BK832 1
   have hfz14_2 := fz BK832 2
   go_wp2_with (first | ((with_reducible refine gate_callee (f := 75) rfl ?_); refine goesL_ (some 8) rfl rfl Try.func75 (by kernel_rfl) rfl #[.agg #[.int .i64 a0_0, .slice A0_1 l0_1.length c0_1, .slice A0_2 l0_2.length c0_2]] rfl (by (try simp only [List.map_toArray, List.map_cons, List.map_nil]); rfl) ?_; (with_reducible refine (spec_l16Ok.calls k a0_0 _ _ l0_1 _ _ l0_2 true _ ?side1 ?side2 ?side3 ?side4 A6.out).mono ?_); (case side1 => repeat (exact (Kd.C_below HR0_1.out HB.out))); (case side2 => exact HC0_1.out); (case side3 => repeat (exact (Kd.C_below HR0_2.out HB.out))); (case side4 => exact HC0_2.out); rintro e w15 ⟨rfl, hb⟩; refine ⟨_, rfl, ?_⟩; replace BK832 := ak (blk_below (bk BK832) hb); replace HB := ak (below_step (bl1 HB GE832) hb); (try clear hb); (try clear hb2); (try clear hk); (try clear hi); have hcz16_0 := bc w15 BK832 0 (.int .i64 a0_0) rfl; have hcz16_1 := bc w15 BK832 1 (.slice A0_1 l0_1.length c0_1) rfl; have hcz16_2 := bc w15 BK832 2 (.slice A0_2 l0_2.length c0_2) rfl; have hfz16_0 := fz BK832 0; have hfz16_1 := fz BK832 1; have hfz16_2 := fz BK832 2) | (go_at_call 62; (with_reducible refine (spec_l1In.calls a1 0 (wrap64 (a0_0 - 1)) false _ A8.out).mono ?_); rintro e w' ⟨rfl, ⟨nd, rfl⟩⟩))
   go_meet
   case rel => exact ⟨_, (true), (by rfl), H', ⟨by omega⟩, ⟨bk BK832⟩, ⟨bl1 HB GE832⟩⟩
  subst c9
  rw [if_pos rfl] at H
  replace H := Option.bind_eq_some_iff.mp H
  obtain ⟨t835, A100, H⟩ := H
  have A10 := ak A100
  clear A100
  have H' := ak H
  clear H
  have hcz11_0 := bc w5 BK832 0 (.int .i64 a0_0) rfl
  have hcz11_1 := bc w5 BK832 1 (.slice A0_1 l0_1.length c0_1) rfl
  have hcz11_2 := bc w5 BK832 2 (.slice A0_2 l0_2.length c0_2) rfl
  have hfz11_0 := fz BK832 0
  have hfz11_1 := fz BK832 1
  have hfz11_2 := fz BK832 2
  go_wp2_with (first | ((with_reducible refine gate_callee (f := 75) rfl ?_); refine goesL_ (some 8) rfl rfl Try.func75 (by kernel_rfl) rfl #[.agg #[.int .i64 a0_0, .slice A0_1 l0_1.length c0_1, .slice A0_2 l0_2.length c0_2]] rfl (by (try simp only [List.map_toArray, List.map_cons, List.map_nil]); rfl) ?_; (with_reducible refine (spec_l16Ok.calls k a0_0 _ _ l0_1 _ _ l0_2 true _ ?side1 ?side2 ?side3 ?side4 A6.out).mono ?_); (case side1 => repeat (exact (Kd.C_below HR0_1.out HB.out))); (case side2 => exact HC0_1.out); (case side3 => repeat (exact (Kd.C_below HR0_2.out HB.out))); (case side4 => exact HC0_2.out); rintro e w12 ⟨rfl, hb⟩; refine ⟨_, rfl, ?_⟩; replace BK832 := ak (blk_below (bk BK832) hb); replace HB := ak (below_step (bl1 HB GE832) hb); (try clear hb); (try clear hb2); (try clear hk); (try clear hi); have hcz13_0 := bc w12 BK832 0 (.int .i64 a0_0) rfl; have hcz13_1 := bc w12 BK832 1 (.slice A0_1 l0_1.length c0_1) rfl; have hcz13_2 := bc w12 BK832 2 (.slice A0_2 l0_2.length c0_2) rfl; have hfz13_0 := fz BK832 0; have hfz13_1 := fz BK832 1; have hfz13_2 := fz BK832 2) | (go_at_call 62; (with_reducible refine (spec_l1In.calls a1 0 (wrap64 (a0_0 - 1)) true _ A8.out).mono ?_); rintro e w' ⟨rfl, ⟨nd, rfl⟩⟩) | (go_at_call 62; (with_reducible refine (spec_l1In.calls a2 0 (wrap64 (a0_0 - 1)) t835 _ A10.out).mono ?_); rintro e w' ⟨rfl, ⟨nd, rfl⟩⟩))
  go_meet
  case rel => exact ⟨_, (!t835), (by rfl), H', ⟨by omega⟩, ⟨bk BK832⟩, ⟨bl1 HB GE832⟩⟩
 clear HC4
 try clear c2
 try clear p2
 try clear p6
 try clear c7
 try clear c9
 try clear hcz11_0
 try clear hcz11_1
 try clear hcz11_2
 try clear hcz13_0
 try clear hcz13_1
 try clear hcz13_2
 try clear hcz14_0
 try clear hcz14_1
 try clear hcz14_2
 try clear hcz16_0
 try clear hcz16_1
 try clear hcz16_2
 try clear hcz17_0
 try clear hcz17_1
 try clear hcz17_2
 try clear hfz11_0
 try clear hfz11_1
 try clear hfz11_2
 try clear hfz13_0
 try clear hfz13_1
 try clear hfz13_2
 try clear hfz14_0
 try clear hfz14_1
 try clear hfz14_2
 try clear hfz16_0
 try clear hfz16_1
 try clear hfz16_2
 try clear hfz17_0
 try clear hfz17_1
 try clear hfz17_2
 obtain ⟨kq, x27_3, rfl, HA, HJ3, BK832, HB⟩ := hcut
 cases kq with
 | zero => exact absurd HA.out (by simp [spec_LiveNear.j0])
 | succ kj3 =>
  have H := HA.out
  clear HA
  simp only [spec_LiveNear.j0] at H
  by_cases c19 : x27_3 = true
  ·subst c19
   rw [if_pos rfl] at H
   obtain rfl := Option.some.inj H
   go_wp2
   go_ret
   exact ⟨by rfl, bl1 HB GE832⟩
  replace c19 := Bool.eq_false_iff.mpr c19
  subst c19
  rw [if_neg (show ¬ (false = true) by decide)] at H
  replace H := Option.bind_eq_some_iff.mp H
  obtain ⟨⟨t836, t837⟩, A200, H⟩ := H
  have A20 := ak A200
  clear A200
  replace H := Option.bind_eq_some_iff.mp H
  obtain ⟨t840, A210, H⟩ := H
  have A21 := ak A210
  clear A210
  by_cases c22 : 0 ≤ a2
  rotate_left
  ·rw [if_neg c22] at H
   exact absurd H (by simp)
  rw [if_pos c22] at H
  have c22b0 : decide (0 ≤ a2) = true := decide_eq_true c22
  clear c22
  by_cases c23 : a2 < (t840.length : Int)
  rotate_left
  ·rw [if_neg c23] at H
   exact absurd H (by simp)
  rw [if_pos c23] at H
  have c23b0 : decide (a2 < (t840.length : Int)) = true := decide_eq_true c23
  clear c23
  obtain rfl := Option.some.inj H
  have hcz24_0 := bc wc BK832 0 (.int .i64 a0_0) rfl
  have hcz24_1 := bc wc BK832 1 (.slice A0_1 l0_1.length c0_1) rfl
  have hcz24_2 := bc wc BK832 2 (.slice A0_2 l0_2.length c0_2) rfl
  have hfz24_0 := fz BK832 0
  have hfz24_1 := fz BK832 1
  have hfz24_2 := fz BK832 2
  go_wp2_with (first | ((with_reducible refine gate_callee (f := 77) rfl ?_); refine goesL_ (some 29) rfl rfl Try.func77 (by kernel_rfl) rfl #[.agg #[.int .i64 a0_0, .slice A0_1 l0_1.length c0_1, .slice A0_2 l0_2.length c0_2]] rfl (by (try simp only [List.map_toArray, List.map_cons, List.map_nil]); rfl) ?_; (with_reducible refine (spec_l16Now.calls kj3 a0_0 _ _ l0_1 _ _ l0_2 t836 t837 _ ?side1 ?side2 ?side3 ?side4 A20.out).mono ?_); (case side1 => repeat (exact (Kd.C_below HR0_1.out HB.out))); (case side2 => exact HC0_1.out); (case side3 => repeat (exact (Kd.C_below HR0_2.out HB.out))); (case side4 => exact HC0_2.out); rintro e w25 ⟨v838, rfl, ho0, hb⟩; refine ⟨_, rfl, ?_⟩; have HO839 := ak (Kd.R_lower ho0 (below_size (bl1 HB GE832))); replace BK832 := ak (blk_below (bk BK832) hb); replace HB := ak (below_step (bl1 HB GE832) hb); (try clear hb); (try clear hb2); (try clear hk); (try clear hi); (try clear ho0); obtain ⟨Ao26, co26, eo26⟩ := Kd.R_slice HO839.out; subst eo26) | ((with_reducible refine gate_callee (f := 76) rfl ?_); refine goesL_ (some 31) rfl rfl Try.func76 (by kernel_rfl) rfl #[.agg #[.int .i64 t836, .slice Ao26 t837.length co26], .int .i64 a1] rfl (by (try simp only [List.map_toArray, List.map_cons, List.map_nil]); rfl) ?_; (with_reducible refine (spec_l3All.calls kj3 t836 _ _ t837 a1 t840 _ ?side1 ?side2 A21.out).mono ?_); (case side1 => repeat (exact (Kd.R_reads' HO839.out).2.2)); (case side2 => exact (Kd.R_reads' HO839.out).2.1); rintro e w27 ⟨v841, rfl, ho0, hb⟩; refine ⟨_, rfl, ?_⟩; replace HO839 := ak (Kd.R_below (rk HO839) hb); have HO842 := ak (Kd.R_lower ho0 (below_size (bl1 HB GE832))); replace BK832 := ak (blk_below (bk BK832) hb); replace HB := ak (below_step (bl1 HB GE832) hb); (try clear hb); (try clear hb2); (try clear hk); (try clear hi); (try clear ho0); obtain ⟨Ao28, co28, eo28⟩ := Kd.R_slice HO842.out; subst eo28; have p843 : 0 ≤ (a2 : Int) := oT (by (with_reducible assumption)); have q843 : a2 < (t840.length : Int) := oT (by (with_reducible assumption)); obtain ⟨ad843, e843, hx843_0⟩ := Kd.at_int (Kd.R_reads' HO842.out).2.2 a2 p843 q843; cases e843; replace p843 := eq_true p843; replace q843 := eq_true q843))
  go_ret
  exact ⟨by rfl, bl1 HB GE832⟩

end Go.Proofs.Ytgickejeakmenaa.F
