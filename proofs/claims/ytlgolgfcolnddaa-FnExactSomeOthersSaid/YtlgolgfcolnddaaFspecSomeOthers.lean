-- Printed by wip/px/px.py of this claim's repository (the kit's printer, extended there). Lean checks it.
import Derived.Test.YtlgolgfcolnddaaFKinds
import Derived.Test.YtlgolgfcolnddaaFspecl1In
import Derived.Test.YtlgolgfcolnddaaFspecl1Ok
import Derived.Test.YtlgolgfcolnddaaFspecl14Some
import Derived.Test.YtlgolgfcolnddaaFspecl2Cost
import Derived.Test.YtlgolgfcolnddaaFspecl14Share
namespace Go.Proofs.Ytlgolgfcolnddaa.F
open Go.RowKit Go.Proofs.YtlgolgfcolnddaaW.PrintWords Go.Proofs.YtlgolgfcolnddaaW.PrintLast Go.Proofs.YtlgolgfcolnddaaW.PrintMore
attribute [local go_sem] max2_int min2_int max_two min_two max_three min_three max_four min_four   -- for this text's walks alone
set_option linter.unusedVariables false
set_option linter.unusedSimpArgs false

/-! ### spec_SomeOthers: function 14 -/
mutual
def spec_SomeOthers.j0 : Nat → Int → Int → Int → Int → List (List Int) → Bool → Int → List (S58) → Option ((List (List Int)))
 | 0, _, _, _, _, _, _, _, _ => none
 | k + 1, x1, x2, x3, x4, x11, x51, x309000, x309001 => if x51 = true then (some ([] : List (List Int))) else ((spec_l14Some.f k x309000 x309001 x1 x2 6).bind fun t317 => (spec_SomeOthers.l0 k x3 x4 x11 t317 0 x309000 x309001))
def spec_SomeOthers.l0 : Nat → Int → Int → List (List Int) → List (List Int) → Int → Int → List (S58) → Option ((List (List Int)))
 | 0, _, _, _, _, _, _, _ => none
 | k + 1, x3, x4, x11, x12, x13, x309000, x309001 => if x13 < (x12.length : Int) then (if 0 < (x12.length : Int) then ((spec_l2Cost.f k x309000 x309001 (rd_L3 x12 0)).bind fun t321 => (if 0 ≤ x13 then ((spec_l2Cost.f k x309000 x309001 (rd_L3 x12 x13)).bind fun t323 => (spec_SomeOthers.l1 k x3 x4 x11 x12 x13 t321 (decide ((wrap64 (t323 * 100)) ≤ (wrap64 (t321 * (wrap64 (100 + x3)))))) 0 x309000 x309001)) else (none))) else (none)) else (some x11)
def spec_SomeOthers.l1 : Nat → Int → Int → List (List Int) → List (List Int) → Int → Int → Bool → Int → Int → List (S58) → Option ((List (List Int)))
 | 0, _, _, _, _, _, _, _, _, _, _ => none
 | k + 1, x3, x4, x11, x12, x13, x14, x15, x16, x309000, x309001 => if x16 < (x11.length : Int) then (if x15 = true then (if 0 ≤ x13 then (if x13 < (x12.length : Int) then (if 0 ≤ x16 then ((spec_l14Share.f k x309000 x309001 (rd_L3 x12 x13) (rd_L3 x11 x16)).bind fun t326 => (spec_SomeOthers.l1 k x3 x4 x11 x12 x13 x14 (decide ((wrap64 (t326 * 100)) ≤ (wrap64 (x14 * x4)))) (wrap64 (x16 + 1)) x309000 x309001)) else (none)) else (none)) else (none)) else (spec_SomeOthers.l1 k x3 x4 x11 x12 x13 x14 false (wrap64 (x16 + 1)) x309000 x309001)) else (if x15 = true then (if 0 ≤ x13 then (if x13 < (x12.length : Int) then (if x11.length < 5864062014805 then (spec_SomeOthers.l0 k x3 x4 (x11 ++ [rd_L3 x12 x13]) x12 (wrap64 (x13 + 1)) x309000 x309001) else (none)) else (none)) else (none)) else (spec_SomeOthers.l0 k x3 x4 x11 x12 (wrap64 (x13 + 1)) x309000 x309001))
end
def spec_SomeOthers.f (k : Nat) (a0_0 : Int) (l0_1 : List (S58)) (a1 : Int) (a2 : Int) (a3 : Int) (a4 : Int) : Option ((List (List Int))) := (some (([] : List (List Int)) : List (List Int))).bind fun y309 => ((spec_l1Ok.f k a0_0 l0_1).bind fun t312 => (if t312 = true then ((spec_l1In.f a1 0 (wrap64 (a0_0 - 1))).bind fun t313 => (if t313 = true then ((spec_l1In.f a2 0 (wrap64 (a0_0 - 1))).bind fun t314 => (if t314 = true then (if a1 = a2 then (spec_SomeOthers.j0 k a1 a2 a3 a4 y309 true a0_0 l0_1) else ((spec_l1In.f a3 0 200).bind fun t315 => (if t315 = true then ((spec_l1In.f a4 0 100).bind fun t316 => (spec_SomeOthers.j0 k a1 a2 a3 a4 y309 (!t316) a0_0 l0_1)) else (spec_SomeOthers.j0 k a1 a2 a3 a4 y309 true a0_0 l0_1)))) else (spec_SomeOthers.j0 k a1 a2 a3 a4 y309 true a0_0 l0_1))) else (spec_SomeOthers.j0 k a1 a2 a3 a4 y309 true a0_0 l0_1))) else (spec_SomeOthers.j0 k a1 a2 a3 a4 y309 true a0_0 l0_1)))
theorem spec_SomeOthers.mono_l : ∀ k, (∀ y0 y1 y2 y3 y4 y5 y6 y7, LeO (spec_SomeOthers.j0 k y0 y1 y2 y3 y4 y5 y6 y7) (spec_SomeOthers.j0 (k + 1) y0 y1 y2 y3 y4 y5 y6 y7)) ∧ (∀ y0 y1 y2 y3 y4 y5 y6, LeO (spec_SomeOthers.l0 k y0 y1 y2 y3 y4 y5 y6) (spec_SomeOthers.l0 (k + 1) y0 y1 y2 y3 y4 y5 y6)) ∧ (∀ y0 y1 y2 y3 y4 y5 y6 y7 y8 y9, LeO (spec_SomeOthers.l1 k y0 y1 y2 y3 y4 y5 y6 y7 y8 y9) (spec_SomeOthers.l1 (k + 1) y0 y1 y2 y3 y4 y5 y6 y7 y8 y9))
 | 0 => ⟨fun _ _ _ _ _ _ _ _ r h => by simp [spec_SomeOthers.j0] at h, fun _ _ _ _ _ _ _ r h => by simp [spec_SomeOthers.l0] at h, fun _ _ _ _ _ _ _ _ _ _ r h => by simp [spec_SomeOthers.l1] at h⟩
 | k + 1 => by
  obtain ⟨ih0, ih1, ih2⟩ := spec_SomeOthers.mono_l k
  refine ⟨?_, ?_, ?_⟩
  ·intro y0 y1 y2 y3 y4 y5 y6 y7
   unfold spec_SomeOthers.j0
   repeat' first
   | (with_reducible exact ih0 _ _ _ _ _ _ _ _)
   | (with_reducible exact ih1 _ _ _ _ _ _ _)
   | (with_reducible exact ih2 _ _ _ _ _ _ _ _ _ _)
   | (with_reducible exact spec_l14Share.mono _ _ _ _ _)
   | (with_reducible exact spec_l14Some.mono _ _ _ _ _ _)
   | (with_reducible exact spec_l1Ok.mono _ _ _)
   | (with_reducible exact spec_l2Cost.mono _ _ _ _)
   | (with_reducible exact LeO.refl _)
   | (with_reducible exact LeO.none _)
   | (with_reducible refine LeO.ite ?_ ?_)
   | (with_reducible refine LeO.bind ?_ (fun _ => ?_))
   | exact ih0 _ _ _ _ _ _ _ _
   | exact ih1 _ _ _ _ _ _ _
   | exact ih2 _ _ _ _ _ _ _ _ _ _
   | exact spec_l14Share.mono _ _ _ _ _
   | exact spec_l14Some.mono _ _ _ _ _ _
   | exact spec_l1Ok.mono _ _ _
   | exact spec_l2Cost.mono _ _ _ _
   | exact LeO.none _
   | refine LeO.ite ?_ ?_
   | refine LeO.bind ?_ (fun _ => ?_)
  ·intro y0 y1 y2 y3 y4 y5 y6
   unfold spec_SomeOthers.l0
   repeat' first
   | (with_reducible exact ih0 _ _ _ _ _ _ _ _)
   | (with_reducible exact ih1 _ _ _ _ _ _ _)
   | (with_reducible exact ih2 _ _ _ _ _ _ _ _ _ _)
   | (with_reducible exact spec_l14Share.mono _ _ _ _ _)
   | (with_reducible exact spec_l14Some.mono _ _ _ _ _ _)
   | (with_reducible exact spec_l1Ok.mono _ _ _)
   | (with_reducible exact spec_l2Cost.mono _ _ _ _)
   | (with_reducible exact LeO.refl _)
   | (with_reducible exact LeO.none _)
   | (with_reducible refine LeO.ite ?_ ?_)
   | (with_reducible refine LeO.bind ?_ (fun _ => ?_))
   | exact ih0 _ _ _ _ _ _ _ _
   | exact ih1 _ _ _ _ _ _ _
   | exact ih2 _ _ _ _ _ _ _ _ _ _
   | exact spec_l14Share.mono _ _ _ _ _
   | exact spec_l14Some.mono _ _ _ _ _ _
   | exact spec_l1Ok.mono _ _ _
   | exact spec_l2Cost.mono _ _ _ _
   | exact LeO.none _
   | refine LeO.ite ?_ ?_
   | refine LeO.bind ?_ (fun _ => ?_)
  ·intro y0 y1 y2 y3 y4 y5 y6 y7 y8 y9
   unfold spec_SomeOthers.l1
   repeat' first
   | (with_reducible exact ih0 _ _ _ _ _ _ _ _)
   | (with_reducible exact ih1 _ _ _ _ _ _ _)
   | (with_reducible exact ih2 _ _ _ _ _ _ _ _ _ _)
   | (with_reducible exact spec_l14Share.mono _ _ _ _ _)
   | (with_reducible exact spec_l14Some.mono _ _ _ _ _ _)
   | (with_reducible exact spec_l1Ok.mono _ _ _)
   | (with_reducible exact spec_l2Cost.mono _ _ _ _)
   | (with_reducible exact LeO.refl _)
   | (with_reducible exact LeO.none _)
   | (with_reducible refine LeO.ite ?_ ?_)
   | (with_reducible refine LeO.bind ?_ (fun _ => ?_))
   | exact ih0 _ _ _ _ _ _ _ _
   | exact ih1 _ _ _ _ _ _ _
   | exact ih2 _ _ _ _ _ _ _ _ _ _
   | exact spec_l14Share.mono _ _ _ _ _
   | exact spec_l14Some.mono _ _ _ _ _ _
   | exact spec_l1Ok.mono _ _ _
   | exact spec_l2Cost.mono _ _ _ _
   | exact LeO.none _
   | refine LeO.ite ?_ ?_
   | refine LeO.bind ?_ (fun _ => ?_)
theorem spec_SomeOthers.mono : ∀ a0 a1 a2 a3 a4 a5 k, LeO (spec_SomeOthers.f k a0 a1 a2 a3 a4 a5) (spec_SomeOthers.f (k + 1) a0 a1 a2 a3 a4 a5) := by
 intro a0 a1 a2 a3 a4 a5 k
 obtain ⟨ih0, ih1, ih2⟩ := spec_SomeOthers.mono_l k
 unfold spec_SomeOthers.f
 repeat' first
   | (with_reducible exact ih0 _ _ _ _ _ _ _ _)
   | (with_reducible exact ih1 _ _ _ _ _ _ _)
   | (with_reducible exact ih2 _ _ _ _ _ _ _ _ _ _)
   | (with_reducible exact spec_l14Share.mono _ _ _ _ _)
   | (with_reducible exact spec_l14Some.mono _ _ _ _ _ _)
   | (with_reducible exact spec_l1Ok.mono _ _ _)
   | (with_reducible exact spec_l2Cost.mono _ _ _ _)
   | (with_reducible exact LeO.refl _)
   | (with_reducible exact LeO.none _)
   | (with_reducible refine LeO.ite ?_ ?_)
   | (with_reducible refine LeO.bind ?_ (fun _ => ?_))
   | exact ih0 _ _ _ _ _ _ _ _
   | exact ih1 _ _ _ _ _ _ _
   | exact ih2 _ _ _ _ _ _ _ _ _ _
   | exact spec_l14Share.mono _ _ _ _ _
   | exact spec_l14Some.mono _ _ _ _ _ _
   | exact spec_l1Ok.mono _ _ _
   | exact spec_l2Cost.mono _ _ _ _
   | exact LeO.none _
   | refine LeO.ite ?_ ?_
   | refine LeO.bind ?_ (fun _ => ?_)
def spec_SomeOthers.T9 : Bool × List (List Nat × List Nat) := (true, [([], []), ([], []), ([], []), ([1, 2], [1, 2]), ([3], [3]), ([0, 4], [0, 4]), ([5], [5]), ([], []), ([], []), ([8], [8]), ([7, 9], [7, 9]), ([6, 10], [6, 10]), ([11, 5, 0, 1, 2, 3, 4, 5, 6, 7, 8, 9, 10, 11], [11])])
def spec_SomeOthers.B9 : List Nat := [0, 0, 0, 6, 14, 31, 63, 0, 0, 256, 896, 2047, 4095]
theorem spec_SomeOthers.tab9 : rtab .any (opsOf Try.f14 9) = spec_SomeOthers.T9 := by kernel_rfl
theorem spec_SomeOthers.bits9 : waitsOk spec_SomeOthers.T9.2 spec_SomeOthers.B9 = true := by kernel_rfl
def spec_SomeOthers.T13 : Bool × List (List Nat × List Nat) := (true, [([], []), ([0], [0]), ([1], [1]), ([1], [1]), ([1], [1]), ([3, 4, 1], [1, 3, 4]), ([5, 1], [1, 5]), ([1], [1]), ([1], [1]), ([7, 8, 1], [1, 7, 8]), ([9, 1], [1, 9]), ([2, 6, 10, 1, 1], [1, 2, 6, 10]), ([11, 1], [1, 11]), ([1], [1]), ([1], [1]), ([13, 14, 1], [1, 13, 14]), ([12, 15, 1], [1, 12, 15]), ([1, 16], [1, 16]), ([17, 11, 0, 1, 2, 3, 4, 5, 6, 7, 8, 9, 10, 11, 12, 13, 14, 15, 16, 17], [0, 17])])
def spec_SomeOthers.B13 : List Nat := [0, 1, 3, 3, 3, 27, 59, 3, 3, 387, 899, 2047, 4095, 3, 3, 24579, 65535, 131071, 262143]
theorem spec_SomeOthers.tab13 : rtab .any (opsOf Try.f14 13) = spec_SomeOthers.T13 := by kernel_rfl
theorem spec_SomeOthers.bits13 : waitsOk spec_SomeOthers.T13.2 spec_SomeOthers.B13 = true := by kernel_rfl
set_option maxHeartbeats 8000000 in
set_option maxRecDepth 100000 in
theorem spec_SomeOthers.calls (k : Nat) (a0_0 : Int) (A0_1 : Option Addr) (c0_1 : Nat) (l0_1 : List (S58)) (a1 : Int) (a2 : Int) (a3 : Int) (a4 : Int) (r : List (List Int)) (w : World) (hr0_1 : Kd.C k58 w A0_1 l0_1.length l0_1) (hc0_1 : l0_1.length ≤ c0_1) (h : spec_SomeOthers.f k a0_0 l0_1 a1 a2 a3 a4 = some r) :
  Calls Try.prog 14 #[.agg #[.int .i64 a0_0, .slice A0_1 l0_1.length c0_1], .int .i64 a1, .int .i64 a2, .int .i64 a3, .int .i64 a4] w fun e w' => ∃ v0_ : Value, e = .returned (v0_) ∧ Kd.N (Kd.slice 3 (Kd.int .i64)) 33 w' w.heap.size (fun k_ => (w.heap.size ≤ k_)) v0_ r ∧ Below w.heap.size w w' := by
 have hu25 := Try.underlying25
 have HR0_1 := ak hr0_1
 have HC0_1 := ak hc0_1
 clear hr0_1 hc0_1
 have HB := ak (Below.refl w.heap.size w)
 have H : ((some (([] : List (List Int)) : List (List Int))).bind fun y309 => ((spec_l1Ok.f k a0_0 l0_1).bind fun t312 => (if t312 = true then ((spec_l1In.f a1 0 (wrap64 (a0_0 - 1))).bind fun t313 => (if t313 = true then ((spec_l1In.f a2 0 (wrap64 (a0_0 - 1))).bind fun t314 => (if t314 = true then (if a1 = a2 then (spec_SomeOthers.j0 k a1 a2 a3 a4 y309 true a0_0 l0_1) else ((spec_l1In.f a3 0 200).bind fun t315 => (if t315 = true then ((spec_l1In.f a4 0 100).bind fun t316 => (spec_SomeOthers.j0 k a1 a2 a3 a4 y309 (!t316) a0_0 l0_1)) else (spec_SomeOthers.j0 k a1 a2 a3 a4 y309 true a0_0 l0_1)))) else (spec_SomeOthers.j0 k a1 a2 a3 a4 y309 true a0_0 l0_1))) else (spec_SomeOthers.j0 k a1 a2 a3 a4 y309 true a0_0 l0_1))) else (spec_SomeOthers.j0 k a1 a2 a3 a4 y309 true a0_0 l0_1)))) = some r := h
 clear h
 obtain ⟨y309, hy309⟩ : ∃ y_ : List (List Int), y_ = (([] : List (List Int))) := ⟨_, rfl⟩
 replace H : ((spec_l1Ok.f k a0_0 l0_1).bind fun t312 => (if t312 = true then ((spec_l1In.f a1 0 (wrap64 (a0_0 - 1))).bind fun t313 => (if t313 = true then ((spec_l1In.f a2 0 (wrap64 (a0_0 - 1))).bind fun t314 => (if t314 = true then (if a1 = a2 then (spec_SomeOthers.j0 k a1 a2 a3 a4 y309 true a0_0 l0_1) else ((spec_l1In.f a3 0 200).bind fun t315 => (if t315 = true then ((spec_l1In.f a4 0 100).bind fun t316 => (spec_SomeOthers.j0 k a1 a2 a3 a4 y309 (!t316) a0_0 l0_1)) else (spec_SomeOthers.j0 k a1 a2 a3 a4 y309 true a0_0 l0_1)))) else (spec_SomeOthers.j0 k a1 a2 a3 a4 y309 true a0_0 l0_1))) else (spec_SomeOthers.j0 k a1 a2 a3 a4 y309 true a0_0 l0_1))) else (spec_SomeOthers.j0 k a1 a2 a3 a4 y309 true a0_0 l0_1))) = some r := by first | (rw [hy309]; with_reducible exact H) | (have H2_ := (Option.bind_some _ _).symm.trans H; rw [hy309]; with_reducible exact H2_) | (have H2_ := (Option.bind_some _ _).symm.trans H; with_reducible exact H2_) | with_reducible exact H | (rw [hy309]; exact H) | exact H
 have Ny309 := ak hy309
 clear hy309
 have HC6 := ak H
 clear H
 go_enter Try.func14, Try.ntmps14
 go_upto_region 2 with (first | ((with_reducible refine gate_dst (N := 5) rfl ?_); refine box_event ?hg (N := 5) ?hd (cs := #[.int .i64 a0_0, .slice A0_1 l0_1.length c0_1]) (t := 25) ?hr ?_; (case hd => rfl); (case hg => rfl); (case hr => first | (go_simp; done) | (go_simp; rfl)); intro gb308 hg w7 hbox hb; have BK308 := ak (hbox); have GW308 := ak ((by rw [hg]; exact (below_size (bl HB)) : w.heap.size ≤ gb308)); have GE308 := ak ((by rw [hg]; exact (below_size (bl HB)) : w.heap.size ≤ gb308)); replace HB := ak (below_step (bl HB) hb); clear hb hbox hg) | ((with_reducible refine gate_dst (N := 17) rfl ?_); refine Kd.N_lit (Kd.slice 3 (Kd.int .i64)) _ 33 ?hg (N' := 17) ?hd (xs := ([] : List (List Int))) (inner := []) (ok := (fun k_ => (w.heap.size ≤ k_) ∧ k_ ≠ gb308)) (okp := (fun k_ => (w.heap.size ≤ k_) ∧ k_ ≠ gb308)) ?hr ?hp (fun _ hk => hk) ((show ∀ k_, w7.heap.size ≤ k_ → (fun k_ => (w.heap.size ≤ k_) ∧ k_ ≠ gb308) k_ from fun k_ hk => ⟨(Nat.le_trans (below_size (bl1 HB GE308)) hk), Kd.freshB (bk BK308) k_ hk⟩) _ (Nat.le_refl _)) (Below.refl _ _) (Nat.le_refl _) (by simp) ?_; (case hd => rfl); (case hg => rfl); (case hr => first | (go_simp; done) | (go_simp; rfl)); (case hp => exact (Reps.none _ _)); intro v310 w8 ho9 hb hg_ hnew_; clear hg_ hnew_; (first | rw [← Ny309.out] at ho9 | (simp only [Int.reduceToNat] at ho9; rw [← Ny309.out] at ho9)); have HO311 := ak (Kd.N_lower ho9 (below_size (bl1 HB GE308))); replace BK308 := ak (blk_below (bk BK308) hb); replace HB := ak (below_step (bl1 HB GE308) hb); clear hb ho9))
 (try simp only [Act.put, List.setIfInBounds_toArray, List.set_cons_zero, List.set_cons_succ])
 go_cut [51] (fun v51 wc => ∃ (kq : Nat) (x51_5 : Bool), v51 = .bool x51_5 ∧ Aside0 (spec_SomeOthers.j0 kq a1 a2 a3 a4 y309 x51_5 a0_0 l0_1 = some r) ∧ Aside0 (kq ≤ k) ∧ Aside0 (Kd.N (Kd.slice 3 (Kd.int .i64)) 33 wc w.heap.size (fun k_ => (w.heap.size ≤ k_) ∧ k_ ≠ gb308) v310 y309) ∧ Aside0 (wc.heap[gb308]? = some (.cells #[.int .i64 a0_0, (.slice A0_1 l0_1.length c0_1)] 25 (0, 0))) ∧ Aside0 (Below w.heap.size w wc))
 case first =>
  have H := HC6.out
  clear HC6
  replace H := Option.bind_eq_some_iff.mp H
  obtain ⟨t312, A100, H⟩ := H
  have A10 := ak A100
  clear A100
  by_cases c11 : t312 = true
  rotate_left
  ·replace c11 := Bool.eq_false_iff.mpr c11
   subst c11
   rw [if_neg (show ¬ (false = true) by decide)] at H
   have H' := ak H
   clear H
   have hcz35_0 := bc w8 BK308 0 (.int .i64 a0_0) rfl
   have hcz35_1 := bc w8 BK308 1 (.slice A0_1 l0_1.length c0_1) rfl
   have hfz35_0 := fz BK308 0
   have hfz35_1 := fz BK308 1
   go_wp2_with (first | ((with_reducible refine gate_callee (f := 53) rfl ?_); refine goesL_ (some 19) rfl rfl Try.func53 (by kernel_rfl) rfl #[.agg #[.int .i64 a0_0, .slice A0_1 l0_1.length c0_1]] rfl (by (try simp only [List.map_toArray, List.map_cons, List.map_nil]); first | done | rfl | (simp only [List.length_drop, List.length_take]; rfl)) ?_; (with_reducible refine (spec_l1Ok.calls k a0_0 _ _ l0_1 false _ ?side1 ?side2 A10.out).mono ?_); (case side1 => repeat (first | exact (Kd.C_below HR0_1.out HB.out) | (with_reducible refine Kd.C_alloc ?_ _) | (with_reducible refine Kd.C_drewN ?_ _) | (with_reducible refine Kd.C_drew ?_))); (case side2 => exact HC0_1.out); rintro e w36 ⟨rfl, hb⟩; refine ⟨_, rfl, ?_⟩; replace HO311 := ak (Kd.N_below (by (with_reducible repeat (first | apply Kd.N_alloc | apply Kd.N_drewN | apply Kd.N_drew)); exact HO311.out) hb); replace BK308 := ak (blk_below (bk BK308) hb); replace HB := ak (below_step (bl1 HB GE308) hb); (try clear hb); (try clear hb2); (try clear hk); (try clear hi)))
   go_meet
   case rel => exact ⟨_, (true), (by first | rfl | (simp; done) | (simp [*]; done)), H', ⟨by first | omega | exact Nat.le_refl _⟩, ⟨by (with_reducible repeat (first | apply Kd.N_alloc | apply Kd.N_drewN | apply Kd.N_drew)); exact HO311.out⟩, ⟨bk BK308⟩, ⟨bl1 HB GE308⟩⟩
  subst c11
  rw [if_pos rfl] at H
  replace H := Option.bind_eq_some_iff.mp H
  obtain ⟨t313, A120, H⟩ := H
  have A12 := ak A120
  clear A120
  by_cases c13 : t313 = true
  rotate_left
  ·replace c13 := Bool.eq_false_iff.mpr c13
   subst c13
   rw [if_neg (show ¬ (false = true) by decide)] at H
   have H' := ak H
   clear H
   have hcz32_0 := bc w8 BK308 0 (.int .i64 a0_0) rfl
   have hcz32_1 := bc w8 BK308 1 (.slice A0_1 l0_1.length c0_1) rfl
   have hfz32_0 := fz BK308 0
   have hfz32_1 := fz BK308 1
   go_wp2_with (first | ((with_reducible refine gate_callee (f := 53) rfl ?_); refine goesL_ (some 19) rfl rfl Try.func53 (by kernel_rfl) rfl #[.agg #[.int .i64 a0_0, .slice A0_1 l0_1.length c0_1]] rfl (by (try simp only [List.map_toArray, List.map_cons, List.map_nil]); first | done | rfl | (simp only [List.length_drop, List.length_take]; rfl)) ?_; (with_reducible refine (spec_l1Ok.calls k a0_0 _ _ l0_1 true _ ?side1 ?side2 A10.out).mono ?_); (case side1 => repeat (first | exact (Kd.C_below HR0_1.out HB.out) | (with_reducible refine Kd.C_alloc ?_ _) | (with_reducible refine Kd.C_drewN ?_ _) | (with_reducible refine Kd.C_drew ?_))); (case side2 => exact HC0_1.out); rintro e w33 ⟨rfl, hb⟩; refine ⟨_, rfl, ?_⟩; replace HO311 := ak (Kd.N_below (by (with_reducible repeat (first | apply Kd.N_alloc | apply Kd.N_drewN | apply Kd.N_drew)); exact HO311.out) hb); replace BK308 := ak (blk_below (bk BK308) hb); replace HB := ak (below_step (bl1 HB GE308) hb); (try clear hb); (try clear hb2); (try clear hk); (try clear hi); have hcz34_0 := bc w33 BK308 0 (.int .i64 a0_0) rfl; have hcz34_1 := bc w33 BK308 1 (.slice A0_1 l0_1.length c0_1) rfl; have hfz34_0 := fz BK308 0; have hfz34_1 := fz BK308 1) | (go_at_call 54; (with_reducible refine (spec_l1In.calls a1 0 (wrap64 (a0_0 - 1)) false _ A12.out).mono ?_); rintro e w' ⟨rfl, ⟨nd, rfl⟩⟩))
   go_meet
   case rel => exact ⟨_, (true), (by first | rfl | (simp; done) | (simp [*]; done)), H', ⟨by first | omega | exact Nat.le_refl _⟩, ⟨by (with_reducible repeat (first | apply Kd.N_alloc | apply Kd.N_drewN | apply Kd.N_drew)); exact HO311.out⟩, ⟨bk BK308⟩, ⟨bl1 HB GE308⟩⟩
  subst c13
  rw [if_pos rfl] at H
  replace H := Option.bind_eq_some_iff.mp H
  obtain ⟨t314, A140, H⟩ := H
  have A14 := ak A140
  clear A140
  by_cases c15 : t314 = true
  rotate_left
  ·replace c15 := Bool.eq_false_iff.mpr c15
   subst c15
   rw [if_neg (show ¬ (false = true) by decide)] at H
   have H' := ak H
   clear H
   have hcz29_0 := bc w8 BK308 0 (.int .i64 a0_0) rfl
   have hcz29_1 := bc w8 BK308 1 (.slice A0_1 l0_1.length c0_1) rfl
   have hfz29_0 := fz BK308 0
   have hfz29_1 := fz BK308 1
   go_wp2_with (first | ((with_reducible refine gate_callee (f := 53) rfl ?_); refine goesL_ (some 19) rfl rfl Try.func53 (by kernel_rfl) rfl #[.agg #[.int .i64 a0_0, .slice A0_1 l0_1.length c0_1]] rfl (by (try simp only [List.map_toArray, List.map_cons, List.map_nil]); first | done | rfl | (simp only [List.length_drop, List.length_take]; rfl)) ?_; (with_reducible refine (spec_l1Ok.calls k a0_0 _ _ l0_1 true _ ?side1 ?side2 A10.out).mono ?_); (case side1 => repeat (first | exact (Kd.C_below HR0_1.out HB.out) | (with_reducible refine Kd.C_alloc ?_ _) | (with_reducible refine Kd.C_drewN ?_ _) | (with_reducible refine Kd.C_drew ?_))); (case side2 => exact HC0_1.out); rintro e w30 ⟨rfl, hb⟩; refine ⟨_, rfl, ?_⟩; replace HO311 := ak (Kd.N_below (by (with_reducible repeat (first | apply Kd.N_alloc | apply Kd.N_drewN | apply Kd.N_drew)); exact HO311.out) hb); replace BK308 := ak (blk_below (bk BK308) hb); replace HB := ak (below_step (bl1 HB GE308) hb); (try clear hb); (try clear hb2); (try clear hk); (try clear hi); have hcz31_0 := bc w30 BK308 0 (.int .i64 a0_0) rfl; have hcz31_1 := bc w30 BK308 1 (.slice A0_1 l0_1.length c0_1) rfl; have hfz31_0 := fz BK308 0; have hfz31_1 := fz BK308 1) | (go_at_call 54; (with_reducible refine (spec_l1In.calls a1 0 (wrap64 (a0_0 - 1)) true _ A12.out).mono ?_); rintro e w' ⟨rfl, ⟨nd, rfl⟩⟩) | (go_at_call 54; (with_reducible refine (spec_l1In.calls a2 0 (wrap64 (a0_0 - 1)) false _ A14.out).mono ?_); rintro e w' ⟨rfl, ⟨nd, rfl⟩⟩))
   go_meet
   case rel => exact ⟨_, (true), (by first | rfl | (simp; done) | (simp [*]; done)), H', ⟨by first | omega | exact Nat.le_refl _⟩, ⟨by (with_reducible repeat (first | apply Kd.N_alloc | apply Kd.N_drewN | apply Kd.N_drew)); exact HO311.out⟩, ⟨bk BK308⟩, ⟨bl1 HB GE308⟩⟩
  subst c15
  rw [if_pos rfl] at H
  by_cases c16 : a1 = a2
  ·rw [if_pos c16] at H
   have c16b0 : (a1 == a2) = true := beq_iff_eq.mpr c16
   have c16b1 : (a1 != a2) = false := bne_eq_false_iff_eq.mpr c16
   clear c16
   (first | rw [c16b0] | (simp only [i64_w, i32_w]; rw [c16b0]) | skip)
   have H' := ak H
   clear H
   have hcz17_0 := bc w8 BK308 0 (.int .i64 a0_0) rfl
   have hcz17_1 := bc w8 BK308 1 (.slice A0_1 l0_1.length c0_1) rfl
   have hfz17_0 := fz BK308 0
   have hfz17_1 := fz BK308 1
   go_wp2_with (first | ((with_reducible refine gate_callee (f := 53) rfl ?_); refine goesL_ (some 19) rfl rfl Try.func53 (by kernel_rfl) rfl #[.agg #[.int .i64 a0_0, .slice A0_1 l0_1.length c0_1]] rfl (by (try simp only [List.map_toArray, List.map_cons, List.map_nil]); first | done | rfl | (simp only [List.length_drop, List.length_take]; rfl)) ?_; (with_reducible refine (spec_l1Ok.calls k a0_0 _ _ l0_1 true _ ?side1 ?side2 A10.out).mono ?_); (case side1 => repeat (first | exact (Kd.C_below HR0_1.out HB.out) | (with_reducible refine Kd.C_alloc ?_ _) | (with_reducible refine Kd.C_drewN ?_ _) | (with_reducible refine Kd.C_drew ?_))); (case side2 => exact HC0_1.out); rintro e w18 ⟨rfl, hb⟩; refine ⟨_, rfl, ?_⟩; replace HO311 := ak (Kd.N_below (by (with_reducible repeat (first | apply Kd.N_alloc | apply Kd.N_drewN | apply Kd.N_drew)); exact HO311.out) hb); replace BK308 := ak (blk_below (bk BK308) hb); replace HB := ak (below_step (bl1 HB GE308) hb); (try clear hb); (try clear hb2); (try clear hk); (try clear hi); have hcz19_0 := bc w18 BK308 0 (.int .i64 a0_0) rfl; have hcz19_1 := bc w18 BK308 1 (.slice A0_1 l0_1.length c0_1) rfl; have hfz19_0 := fz BK308 0; have hfz19_1 := fz BK308 1) | (go_at_call 54; (with_reducible refine (spec_l1In.calls a1 0 (wrap64 (a0_0 - 1)) true _ A12.out).mono ?_); rintro e w' ⟨rfl, ⟨nd, rfl⟩⟩) | (go_at_call 54; (with_reducible refine (spec_l1In.calls a2 0 (wrap64 (a0_0 - 1)) true _ A14.out).mono ?_); rintro e w' ⟨rfl, ⟨nd, rfl⟩⟩))
   go_meet
   case rel => exact ⟨_, (true), (by first | rfl | (simp; done) | (simp [*]; done)), H', ⟨by first | omega | exact Nat.le_refl _⟩, ⟨by (with_reducible repeat (first | apply Kd.N_alloc | apply Kd.N_drewN | apply Kd.N_drew)); exact HO311.out⟩, ⟨bk BK308⟩, ⟨bl1 HB GE308⟩⟩
  rw [if_neg c16] at H
  have c16b0 : (a1 == a2) = false := beq_eq_false_iff_ne.mpr c16
  have c16b1 : (a1 != a2) = true := bne_iff_ne.mpr c16
  (first | rw [c16b0] | (simp only [i64_w, i32_w]; rw [c16b0]) | skip)
  replace H := Option.bind_eq_some_iff.mp H
  obtain ⟨t315, A200, H⟩ := H
  have A20 := ak A200
  clear A200
  by_cases c21 : t315 = true
  rotate_left
  ·replace c21 := Bool.eq_false_iff.mpr c21
   subst c21
   rw [if_neg (show ¬ (false = true) by decide)] at H
   have H' := ak H
   clear H
   have hcz26_0 := bc w8 BK308 0 (.int .i64 a0_0) rfl
   have hcz26_1 := bc w8 BK308 1 (.slice A0_1 l0_1.length c0_1) rfl
   have hfz26_0 := fz BK308 0
   have hfz26_1 := fz BK308 1
   go_wp2_with (first | ((with_reducible refine gate_callee (f := 53) rfl ?_); refine goesL_ (some 19) rfl rfl Try.func53 (by kernel_rfl) rfl #[.agg #[.int .i64 a0_0, .slice A0_1 l0_1.length c0_1]] rfl (by (try simp only [List.map_toArray, List.map_cons, List.map_nil]); first | done | rfl | (simp only [List.length_drop, List.length_take]; rfl)) ?_; (with_reducible refine (spec_l1Ok.calls k a0_0 _ _ l0_1 true _ ?side1 ?side2 A10.out).mono ?_); (case side1 => repeat (first | exact (Kd.C_below HR0_1.out HB.out) | (with_reducible refine Kd.C_alloc ?_ _) | (with_reducible refine Kd.C_drewN ?_ _) | (with_reducible refine Kd.C_drew ?_))); (case side2 => exact HC0_1.out); rintro e w27 ⟨rfl, hb⟩; refine ⟨_, rfl, ?_⟩; replace HO311 := ak (Kd.N_below (by (with_reducible repeat (first | apply Kd.N_alloc | apply Kd.N_drewN | apply Kd.N_drew)); exact HO311.out) hb); replace BK308 := ak (blk_below (bk BK308) hb); replace HB := ak (below_step (bl1 HB GE308) hb); (try clear hb); (try clear hb2); (try clear hk); (try clear hi); have hcz28_0 := bc w27 BK308 0 (.int .i64 a0_0) rfl; have hcz28_1 := bc w27 BK308 1 (.slice A0_1 l0_1.length c0_1) rfl; have hfz28_0 := fz BK308 0; have hfz28_1 := fz BK308 1) | (go_at_call 54; (with_reducible refine (spec_l1In.calls a1 0 (wrap64 (a0_0 - 1)) true _ A12.out).mono ?_); rintro e w' ⟨rfl, ⟨nd, rfl⟩⟩) | (go_at_call 54; (with_reducible refine (spec_l1In.calls a2 0 (wrap64 (a0_0 - 1)) true _ A14.out).mono ?_); rintro e w' ⟨rfl, ⟨nd, rfl⟩⟩) | (go_at_call 54; (with_reducible refine (spec_l1In.calls a3 0 200 false _ A20.out).mono ?_); rintro e w' ⟨rfl, ⟨nd, rfl⟩⟩))
   go_meet
   case rel => exact ⟨_, (true), (by first | rfl | (simp; done) | (simp [*]; done)), H', ⟨by first | omega | exact Nat.le_refl _⟩, ⟨by (with_reducible repeat (first | apply Kd.N_alloc | apply Kd.N_drewN | apply Kd.N_drew)); exact HO311.out⟩, ⟨bk BK308⟩, ⟨bl1 HB GE308⟩⟩
  subst c21
  rw [if_pos rfl] at H
  replace H := Option.bind_eq_some_iff.mp H
  obtain ⟨t316, A220, H⟩ := H
  have A22 := ak A220
  clear A220
  have H' := ak H
  clear H
  have hcz23_0 := bc w8 BK308 0 (.int .i64 a0_0) rfl
  have hcz23_1 := bc w8 BK308 1 (.slice A0_1 l0_1.length c0_1) rfl
  have hfz23_0 := fz BK308 0
  have hfz23_1 := fz BK308 1
  go_wp2_with (first | ((with_reducible refine gate_callee (f := 53) rfl ?_); refine goesL_ (some 19) rfl rfl Try.func53 (by kernel_rfl) rfl #[.agg #[.int .i64 a0_0, .slice A0_1 l0_1.length c0_1]] rfl (by (try simp only [List.map_toArray, List.map_cons, List.map_nil]); first | done | rfl | (simp only [List.length_drop, List.length_take]; rfl)) ?_; (with_reducible refine (spec_l1Ok.calls k a0_0 _ _ l0_1 true _ ?side1 ?side2 A10.out).mono ?_); (case side1 => repeat (first | exact (Kd.C_below HR0_1.out HB.out) | (with_reducible refine Kd.C_alloc ?_ _) | (with_reducible refine Kd.C_drewN ?_ _) | (with_reducible refine Kd.C_drew ?_))); (case side2 => exact HC0_1.out); rintro e w24 ⟨rfl, hb⟩; refine ⟨_, rfl, ?_⟩; replace HO311 := ak (Kd.N_below (by (with_reducible repeat (first | apply Kd.N_alloc | apply Kd.N_drewN | apply Kd.N_drew)); exact HO311.out) hb); replace BK308 := ak (blk_below (bk BK308) hb); replace HB := ak (below_step (bl1 HB GE308) hb); (try clear hb); (try clear hb2); (try clear hk); (try clear hi); have hcz25_0 := bc w24 BK308 0 (.int .i64 a0_0) rfl; have hcz25_1 := bc w24 BK308 1 (.slice A0_1 l0_1.length c0_1) rfl; have hfz25_0 := fz BK308 0; have hfz25_1 := fz BK308 1) | (go_at_call 54; (with_reducible refine (spec_l1In.calls a1 0 (wrap64 (a0_0 - 1)) true _ A12.out).mono ?_); rintro e w' ⟨rfl, ⟨nd, rfl⟩⟩) | (go_at_call 54; (with_reducible refine (spec_l1In.calls a2 0 (wrap64 (a0_0 - 1)) true _ A14.out).mono ?_); rintro e w' ⟨rfl, ⟨nd, rfl⟩⟩) | (go_at_call 54; (with_reducible refine (spec_l1In.calls a3 0 200 true _ A20.out).mono ?_); rintro e w' ⟨rfl, ⟨nd, rfl⟩⟩) | (go_at_call 54; (with_reducible refine (spec_l1In.calls a4 0 100 t316 _ A22.out).mono ?_); rintro e w' ⟨rfl, ⟨nd, rfl⟩⟩))
  go_meet
  case rel => exact ⟨_, (!t316), (by first | rfl | (simp; done) | (simp [*]; done)), H', ⟨by first | omega | exact Nat.le_refl _⟩, ⟨by (with_reducible repeat (first | apply Kd.N_alloc | apply Kd.N_drewN | apply Kd.N_drew)); exact HO311.out⟩, ⟨bk BK308⟩, ⟨bl1 HB GE308⟩⟩
 clear HC6
 try clear c1
 try clear c2
 try clear p2
 try clear c5
 try clear p6
 try clear c11
 try clear c13
 try clear c14
 try clear c15
 try clear c16
 try clear c16b0
 try clear c16b1
 try clear c21
 try clear hcz17_0
 try clear hcz17_1
 try clear hcz19_0
 try clear hcz19_1
 try clear hcz23_0
 try clear hcz23_1
 try clear hcz25_0
 try clear hcz25_1
 try clear hcz26_0
 try clear hcz26_1
 try clear hcz28_0
 try clear hcz28_1
 try clear hcz29_0
 try clear hcz29_1
 try clear hcz31_0
 try clear hcz31_1
 try clear hcz32_0
 try clear hcz32_1
 try clear hcz34_0
 try clear hcz34_1
 try clear hcz35_0
 try clear hcz35_1
 try clear hfz17_0
 try clear hfz17_1
 try clear hfz19_0
 try clear hfz19_1
 try clear hfz23_0
 try clear hfz23_1
 try clear hfz25_0
 try clear hfz25_1
 try clear hfz26_0
 try clear hfz26_1
 try clear hfz28_0
 try clear hfz28_1
 try clear hfz29_0
 try clear hfz29_1
 try clear hfz31_0
 try clear hfz31_1
 try clear hfz32_0
 try clear hfz32_1
 try clear hfz34_0
 try clear hfz34_1
 try clear hfz35_0
 try clear hfz35_1
 obtain ⟨kq, x51_5, rfl, HA, HJ5, HO_11, BK308, HB⟩ := hcut
 cases kq with
 | zero => exact absurd HA.out (by simp [spec_SomeOthers.j0])
 | succ kj5 =>
  have H := HA.out
  clear HA
  simp only [spec_SomeOthers.j0] at H
  by_cases c37 : x51_5 = true
  ·subst c37
   rw [if_pos rfl] at H
   obtain rfl := Option.some.inj H
   go_wp2
   go_ret
   exact ⟨_, by first | rfl | (simp [errW_none, errW_some] <;> rfl) | (simp [*, errW_none, errW_some] <;> rfl), by first | exact Kd.S_nil _ _ _ _ _ | exact Kd.N_nil _ _ _ _ _ | exact Kd.V_nil _ _ _ _ _ | exact Kd.Q_nil _ _ _ _ _ | exact Kd.R_nil _ _ _ _ _, bl1 HB GE308⟩
  replace c37 := Bool.eq_false_iff.mpr c37
  subst c37
  rw [if_neg (show ¬ (false = true) by decide)] at H
  replace H := Option.bind_eq_some_iff.mp H
  obtain ⟨t317, A380, H⟩ := H
  have A38 := ak A380
  clear A380
  have H' := ak H
  clear H
  have hcz39_0 := bc wc BK308 0 (.int .i64 a0_0) rfl
  have hcz39_1 := bc wc BK308 1 (.slice A0_1 l0_1.length c0_1) rfl
  have hfz39_0 := fz BK308 0
  have hfz39_1 := fz BK308 1
  go_wp2_with (first | ((with_reducible refine gate_callee (f := 55) rfl ?_); refine goesL_ (some 55) rfl rfl Try.func55 (by kernel_rfl) rfl #[.agg #[.int .i64 a0_0, .slice A0_1 l0_1.length c0_1], .int .i64 a1, .int .i64 a2, .int .i64 6] rfl (by (try simp only [List.map_toArray, List.map_cons, List.map_nil]); first | done | rfl | (simp only [List.length_drop, List.length_take]; rfl)) ?_; (with_reducible refine (spec_l14Some.calls kj5 a0_0 _ _ l0_1 a1 a2 6 t317 _ ?side1 ?side2 A38.out).mono ?_); (case side1 => repeat (first | exact (Kd.C_below HR0_1.out HB.out) | (with_reducible refine Kd.C_alloc ?_ _) | (with_reducible refine Kd.C_drewN ?_ _) | (with_reducible refine Kd.C_drew ?_))); (case side2 => exact HC0_1.out); rintro e w40 ⟨v318, rfl, ho0, hb⟩; refine ⟨_, rfl, ?_⟩; have HO319 := ak (Kd.N_lower (Kd.N_mono (ok' := fun k_ => (w.heap.size ≤ k_) ∧ some k_ ≠ (v310 : Value).ownBlock ∧ k_ ≠ gb308) ho0 (fun k_ hk_ => ⟨(Nat.le_trans (below_size (bl1 HB GE308)) hk_), (Kd.fresh' (Kd.N_lt (by (with_reducible repeat (first | apply Kd.N_alloc | apply Kd.N_drewN | apply Kd.N_drew)); exact HO_11.out)) k_ hk_), (Kd.freshB (bk BK308) k_ hk_)⟩)) (below_size (bl1 HB GE308))); replace HO_11 := ak (Kd.N_elder' (by (with_reducible repeat (first | apply Kd.N_alloc | apply Kd.N_drewN | apply Kd.N_drew)); exact HO_11.out) (Kd.N_base ho0) hb); replace BK308 := ak (blk_below (bk BK308) hb); replace HB := ak (below_step (bl1 HB GE308) hb); (try clear hb); (try clear hb2); (try clear hk); (try clear hi); (try clear ho0)))
  go_loopg [11, 13] kj5 (fun kq v11 v13 w' => ∃ (x11_2 : List (List Int)) (x13_2 : Int), v13 = .int .i64 x13_2 ∧ Aside0 (spec_SomeOthers.l0 kq a3 a4 x11_2 t317 x13_2 a0_0 l0_1 = some r) ∧ Aside0 (kq ≤ kj5) ∧ Aside0 (Kd.N (Kd.slice 3 (Kd.int .i64)) 33 w' w.heap.size (fun k_ => (w.heap.size ≤ k_) ∧ some k_ ≠ (v318 : Value).ownBlock ∧ k_ ≠ gb308) v11 x11_2) ∧ Aside0 (Kd.N (Kd.slice 3 (Kd.int .i64)) 33 w' w.heap.size (fun k_ => (w.heap.size ≤ k_) ∧ some k_ ≠ (v11 : Value).ownBlock ∧ k_ ≠ gb308) v318 t317) ∧ Aside0 (w'.heap[gb308]? = some (.cells #[.int .i64 a0_0, (.slice A0_1 l0_1.length c0_1)] 25 (0, 0))) ∧ Aside0 (Below w.heap.size w w'))
  case atStart => exact ⟨(y309), (0), (by first | rfl | (simp; done) | (simp [*]; done)), H', ⟨Nat.le_refl _⟩, ⟨by (with_reducible repeat (first | apply Kd.N_alloc | apply Kd.N_drewN | apply Kd.N_drew)); exact Kd.N_mono HO_11.out (fun _ hk => ⟨hk.1.1, ⟨hk.2, hk.1.2⟩⟩)⟩, ⟨by (with_reducible repeat (first | apply Kd.N_alloc | apply Kd.N_drewN | apply Kd.N_drew)); exact HO319.out⟩, ⟨bk BK308⟩, ⟨bl1 HB GE308⟩⟩
  clear H'
  try clear c1
  try clear c2
  try clear p2
  try clear c3
  try clear c5
  try clear p6
  try clear c11
  try clear c13
  try clear c14
  try clear c15
  try clear c16
  try clear c16b0
  try clear c16b1
  try clear c21
  try clear c37
  try clear hcz17_0
  try clear hcz17_1
  try clear hcz19_0
  try clear hcz19_1
  try clear hcz23_0
  try clear hcz23_1
  try clear hcz25_0
  try clear hcz25_1
  try clear hcz26_0
  try clear hcz26_1
  try clear hcz28_0
  try clear hcz28_1
  try clear hcz29_0
  try clear hcz29_1
  try clear hcz31_0
  try clear hcz31_1
  try clear hcz32_0
  try clear hcz32_1
  try clear hcz34_0
  try clear hcz34_1
  try clear hcz35_0
  try clear hcz35_1
  try clear hcz39_0
  try clear hcz39_1
  try clear hfz17_0
  try clear hfz17_1
  try clear hfz19_0
  try clear hfz19_1
  try clear hfz23_0
  try clear hfz23_1
  try clear hfz25_0
  try clear hfz25_1
  try clear hfz26_0
  try clear hfz26_1
  try clear hfz28_0
  try clear hfz28_1
  try clear hfz29_0
  try clear hfz29_1
  try clear hfz31_0
  try clear hfz31_1
  try clear hfz32_0
  try clear hfz32_1
  try clear hfz34_0
  try clear hfz34_1
  try clear hfz35_0
  try clear hfz35_1
  try clear hfz39_0
  try clear hfz39_1
  try clear p2
  try clear p6
  obtain ⟨x11_2, x13_2, rfl, HA, HK2, HO_11, HO_12, BK308, HB⟩ := hrel
  cases gk with
  | zero => exact absurd HA.out (by simp [spec_SomeOthers.l0])
  | succ k2 =>
   have H := HA.out
   clear HA
   simp only [spec_SomeOthers.l0] at H
   by_cases c41 : x13_2 < (t317.length : Int)
   rotate_left
   ·rw [if_neg c41] at H
    have c41b0 : decide (x13_2 < (t317.length : Int)) = false := decide_eq_false c41
    clear c41
    obtain rfl := Option.some.inj H
    obtain ⟨Ao69, co69, eo69⟩ := Kd.N_slice HO_12.out
    subst eo69
    go_wp2
    go_ret
    exact ⟨_, by first | rfl | (simp [errW_none, errW_some] <;> rfl) | (simp [*, errW_none, errW_some] <;> rfl), by (with_reducible repeat (first | apply Kd.N_alloc | apply Kd.N_drewN | apply Kd.N_drew)); exact Kd.N_mono HO_11.out (fun _ hk => hk.1), bl1 HB GE308⟩
   rw [if_pos c41] at H
   have c41b0 : decide (x13_2 < (t317.length : Int)) = true := decide_eq_true c41
   clear c41
   by_cases c42 : 0 < (t317.length : Int)
   rotate_left
   ·rw [if_neg c42] at H
    exact absurd H (by simp)
   rw [if_pos c42] at H
   have c42b0 : decide (0 < (t317.length : Int)) = true := decide_eq_true c42
   have c42b1 : decide (0 < t317.length) = true := decide_eq_true (by omega)
   clear c42
   replace H := Option.bind_eq_some_iff.mp H
   obtain ⟨t321, A430, H⟩ := H
   have A43 := ak A430
   clear A430
   by_cases c44 : 0 ≤ x13_2
   rotate_left
   ·rw [if_neg c44] at H
    exact absurd H (by simp)
   rw [if_pos c44] at H
   have c44b0 : decide (0 ≤ x13_2) = true := decide_eq_true c44
   clear c44
   replace H := Option.bind_eq_some_iff.mp H
   obtain ⟨t323, A450, H⟩ := H
   have A45 := ak A450
   clear A450
   have H' := ak H
   clear H
   obtain ⟨Ao46, co46, eo46⟩ := Kd.N_slice HO_12.out
   subst eo46
   try go_wp2
   replace HO_11 := ak (Kd.N_drew HO_11.out)
   replace HO_12 := ak (Kd.N_drew HO_12.out)
   replace BK308 := ak (blk_drew BK308.out)
   replace HB := ak (below_drew1 HB.out)
   have p320 : 0 ≤ (0 : Int) := (by omega)
   have q320 : 0 < (t317.length : Int) := oT (by first | (with_reducible assumption) | assumption)
   obtain ⟨ad320, A320_0, c320_0, e320, hx320_0, hl320_0, hi320_0⟩ := at_L3 (Kd.N_reads' HO_12.out).2.2 0 p320 q320
   cases e320
   obtain ⟨ce320, hce320, hMe320, hcc320⟩ := Kd.N_get HO_12.out [] 0 p320 (by first | exact q320 | exact oT (by first | (with_reducible assumption) | assumption) | (have e_ := (Kd.N_reads' HO_12.out).1; omega))
   obtain ⟨ua320_0, uc320_0, rfl, ul320_0, ge320_0⟩ := Kd.FK_slice_open hMe320
   have hv320_0 := hcc320 0 _ rfl
   rw [Nat.add_zero, show ((Kd.slice 3 (Kd.int .i64))).sz = 1 from rfl, Nat.mul_one] at hv320_0
   replace hv320_0 := Option.some.inj (hv320_0.symm.trans hx320_0)
   injection hv320_0 with hva_ hvn_ hvc_
   rw [hva_] at ge320_0
   rw [hvc_] at ul320_0
   have HL320_0 := ak (show Kd.V (Kd.int .i64) 3 _ w.heap.size _ _ (rd_L3 t317 0) from Kd.V_mk ul320_0 ge320_0)
   clear hva_ hvn_ hvc_ ge320_0 ul320_0
   clear hcc320 hce320
   have qi320 : (0 < t317.length) = True := eq_true (by omega)
   (try rw [show ((0 : Int)).toNat = 0 from rfl] at hx320_0)
   (try rw [Addr.add_zero'] at hx320_0)
   have HR320_0 := ak hi320_0
   have HC320_0 := ak hl320_0
   clear hi320_0 hl320_0
   replace p320 := eq_true p320
   replace q320 := eq_true q320
   refine start_ (n := 6) (S := fun w' => w'.cell? ⟨gb308, 0, none⟩ = some (.int .i64 a0_0) ∧ w'.cell? ⟨gb308, 1, none⟩ = some (.slice A0_1 l0_1.length c0_1) ∧ w'.cell? ad320 = some (.slice A320_0 (rd_L3 t317 0).length c320_0)) (ds := []) (ms 6 0) (by kernel_rfl) rfl (by kernel_rfl) ⟨(blk_cell BK308.out 0).trans rfl, (blk_cell BK308.out 1).trans rfl, hx320_0⟩ (fun hHeld => ?_)
   generalize wr.drew = w47 at HO_11 HO_12 BK308 HB HL320_0 HR320_0 hx320_0 hHeld ⊢
   refine pure_ (i := 1) (N := some 63) (v := ?_) (a' := ?_) (ms 6 2) rfl rfl (by kernel_rfl) (fun _ _ _ h => h) (Or.inl ⟨by rfl, ?_⟩) ?_ ?_
   rotate_left
   ·intro w'
    go_simp
    with_reducible rfl
   rotate_left
   ·simp only [SX]
    rfl
   refine pure_ (i := 2) (N := some 64) (v := ?_) (a' := ?_) (ms 6 6) rfl rfl (by kernel_rfl) (fun _ _ _ h => h) (Or.inl ⟨by rfl, ?_⟩) ?_ ?_
   rotate_left
   ·intro w'
    go_simp
    with_reducible rfl
   rotate_left
   ·simp only [SX]
    rfl
   refine take_ (i := 0) (N := some 62) (v := ?_) (a' := ?_) (ms 6 7) rfl rfl (by kernel_rfl) (fun _ _ _ h => h) (Or.inl ⟨by rfl, ?_⟩) hHeld ?_ ?_
   rotate_left
   ·rintro w' ⟨s0, s1, s2⟩
    go_simp
    with_reducible rfl
   rotate_left
   ·simp only [SX]
    rfl
   refine take_ (i := 3) (N := some 65) (v := ?_) (a' := ?_) (ms 6 15) rfl rfl (by kernel_rfl) (fun _ _ _ h => h) (Or.inl ⟨by rfl, ?_⟩) hHeld ?_ ?_
   rotate_left
   ·rintro w' ⟨s0, s1, s2⟩
    go_simp
    with_reducible rfl
   rotate_left
   ·simp only [SX]
    rfl
   refine one_ (i := 4) (N := some 66) (ms 6 31) rfl rfl (by kernel_rfl) (by decide) (fun K hK => ?_)
   refine goes_ Try.func56 (by kernel_rfl) rfl #[.agg #[.int .i64 a0_0, .slice A0_1 l0_1.length c0_1], .slice A320_0 (rd_L3 t317 0).length c320_0] (by rfl) rfl rfl (by (try simp only [List.map_toArray, List.map_cons, List.map_nil]); first | done | rfl | (simp only [List.length_drop, List.length_take]; rfl)) ?_
   with_reducible refine (spec_l2Cost.calls k2 a0_0 _ _ l0_1 _ _ (rd_L3 t317 0) t321 _ ?side1 ?side2 ?side3 ?side4 A43.out).mono ?_
   (case side1 => repeat (first | exact (Kd.C_below HR0_1.out HB.out) | (with_reducible refine Kd.C_alloc ?_ _) | (with_reducible refine Kd.C_drewN ?_ _) | (with_reducible refine Kd.C_drew ?_)))
   (case side2 => exact HC0_1.out)
   (case side3 => repeat (first | exact (by repeat (first | (with_reducible exact HR320_0.out) | (with_reducible refine Kd.C_alloc ?_ _) | (with_reducible refine Kd.C_drewN ?_ _) | (with_reducible refine Kd.C_drew ?_) | exact HR320_0.out)) | (with_reducible refine Kd.C_alloc ?_ _) | (with_reducible refine Kd.C_drewN ?_ _) | (with_reducible refine Kd.C_drew ?_)))
   (case side4 => exact HC320_0.out)
   rintro e w48 ⟨rfl, hb⟩
   have HS2_ := (hb.cell (World.block_lt_of_cell? _ _ (hHeld.2.2))).trans (hHeld.2.2)
   refine ⟨_, rfl, ?_⟩
   replace HO_11 := ak (Kd.N_below (by (with_reducible repeat (first | apply Kd.N_alloc | apply Kd.N_drewN | apply Kd.N_drew)); exact HO_11.out) hb)
   replace HO_12 := ak (Kd.N_below (by (with_reducible repeat (first | apply Kd.N_alloc | apply Kd.N_drewN | apply Kd.N_drew)); exact HO_12.out) hb)
   replace HL320_0 := ak (Kd.V_below (by (with_reducible repeat (first | apply Kd.V_alloc | apply Kd.V_drewN | apply Kd.V_drew)); exact HL320_0.out) hb)
   replace BK308 := ak (blk_below (bk BK308) hb)
   replace HR320_0 := ak (Kd.C_below (by repeat (first | (with_reducible exact HR320_0.out) | (with_reducible refine Kd.C_alloc ?_ _) | (with_reducible refine Kd.C_drewN ?_ _) | (with_reducible refine Kd.C_drew ?_) | exact HR320_0.out)) hb)
   replace HB := ak (below_step (bl1 HB GE308) hb)
   (try clear hb)
   (try clear hb2)
   (try clear hk)
   (try clear hi)
   refine hK.out _ _ ⟨(blk_cell BK308.out 0).trans rfl, (blk_cell BK308.out 1).trans rfl, HS2_⟩ (fun hHeld => ?_)
   clear hK K
   refine norm_ (a' := ?_) ?_ ?_
   rotate_left
   ·show Act.put _ (some 66) _ = _
    simp only [SX]
    rfl
   refine pure_ (i := 5) (N := some 14) (v := ?_) (a' := ?_) (ms 6 63) rfl rfl (by kernel_rfl) (fun _ _ _ h => h) (Or.inl ⟨by rfl, ?_⟩) ?_ ?_
   rotate_left
   ·intro w'
    go_simp
    with_reducible rfl
   rotate_left
   ·simp only [SX]
    rfl
   refine done_ (by kernel_rfl) ?_
   try go_wp2
   replace HO_11 := ak (Kd.N_drew HO_11.out)
   replace HO_12 := ak (Kd.N_drew HO_12.out)
   replace HL320_0 := ak (Kd.V_drew HL320_0.out)
   replace BK308 := ak (blk_drew BK308.out)
   replace HR320_0 := ak (Kd.C_drew HR320_0.out)
   replace HB := ak (below_drew1 HB.out)
   have p322 : 0 ≤ (x13_2 : Int) := oT (by first | (with_reducible assumption) | assumption)
   have q322 : x13_2 < (t317.length : Int) := oT (by first | (with_reducible assumption) | assumption)
   obtain ⟨ad322, A322_0, c322_0, e322, hx322_0, hl322_0, hi322_0⟩ := at_L3 (Kd.N_reads' HO_12.out).2.2 x13_2 p322 q322
   obtain rfl : ad320 = ad322 := (by injection e322)
   obtain ⟨ce322, hce322, hMe322, hcc322⟩ := Kd.N_get HO_12.out [] x13_2 p322 (by first | exact q322 | exact oT (by first | (with_reducible assumption) | assumption) | (have e_ := (Kd.N_reads' HO_12.out).1; omega))
   obtain ⟨ua322_0, uc322_0, rfl, ul322_0, ge322_0⟩ := Kd.FK_slice_open hMe322
   have hv322_0 := hcc322 0 _ rfl
   rw [Nat.add_zero, show ((Kd.slice 3 (Kd.int .i64))).sz = 1 from rfl, Nat.mul_one] at hv322_0
   replace hv322_0 := Option.some.inj (hv322_0.symm.trans hx322_0)
   injection hv322_0 with hva_ hvn_ hvc_
   rw [hva_] at ge322_0
   rw [hvc_] at ul322_0
   have HL322_0 := ak (show Kd.V (Kd.int .i64) 3 _ w.heap.size _ _ (rd_L3 t317 x13_2) from Kd.V_mk ul322_0 ge322_0)
   clear hva_ hvn_ hvc_ ge322_0 ul322_0
   clear hcc322 hce322
   have HR322_0 := ak hi322_0
   have HC322_0 := ak hl322_0
   clear hi322_0 hl322_0
   replace p322 := eq_true p322
   replace q322 := eq_true q322
   refine start_ (n := 13) (S := fun w' => w'.cell? ⟨gb308, 0, none⟩ = some (.int .i64 a0_0) ∧ w'.cell? ⟨gb308, 1, none⟩ = some (.slice A0_1 l0_1.length c0_1) ∧ w'.cell? (ad320.add (x13_2).toNat) = some (.slice A322_0 (rd_L3 t317 x13_2).length c322_0)) (ds := []) (ms 13 0) (by kernel_rfl) rfl (by kernel_rfl) ⟨(blk_cell BK308.out 0).trans rfl, (blk_cell BK308.out 1).trans rfl, hx322_0⟩ (fun hHeld => ?_); refine with_tabW spec_SomeOthers.tab9 spec_SomeOthers.bits9 (fun HT_ HW_ => ?_)
   generalize w48.drew = w49 at HO_11 HO_12 HL320_0 BK308 HR320_0 HB HL322_0 HR322_0 hx322_0 hHeld ⊢
   refine pu 1 68 ?_ (ms 13 2) rfl rfl HT_ (by kernel_rfl) (fun _ _ _ h => h) (by rfl) ?_ ?_ ?_ ?_
   rotate_left
   ·intro w'
    go_simp
    with_reducible rfl
   rotate_left
   ·simp only [SX]
    rfl
   refine pu 2 69 ?_ (ms 13 6) rfl rfl HT_ (by kernel_rfl) (fun _ _ _ h => h) (by rfl) ?_ ?_ ?_ ?_
   rotate_left
   ·intro w'
    go_simp
    with_reducible rfl
   rotate_left
   ·simp only [SX]
    rfl
   refine pu 3 70 ?_ (ms 13 14) rfl rfl HT_ (by kernel_rfl) (fun _ _ _ h => h) (by rfl) ?_ ?_ ?_ ?_
   rotate_left
   ·intro w'
    go_simp
    with_reducible rfl
   rotate_left
   ·simp only [SX]
    rfl
   refine pu 7 74 ?_ (ms 13 142) rfl rfl HT_ (by kernel_rfl) (fun _ _ _ h => h) (by rfl) ?_ ?_ ?_ ?_
   rotate_left
   ·intro w'
    go_simp
    with_reducible rfl
   rotate_left
   ·simp only [SX]
    rfl
   refine pu 8 75 ?_ (ms 13 398) rfl rfl HT_ (by kernel_rfl) (fun _ _ _ h => h) (by rfl) ?_ ?_ ?_ ?_
   rotate_left
   ·intro w'
    go_simp
    with_reducible rfl
   rotate_left
   ·simp only [SX]
    rfl
   refine pu 9 76 ?_ (ms 13 910) rfl rfl HT_ (by kernel_rfl) (fun _ _ _ h => h) (by rfl) ?_ ?_ ?_ ?_
   rotate_left
   ·intro w'
    go_simp
    with_reducible rfl
   rotate_left
   ·simp only [SX]
    rfl
   refine pu 10 77 ?_ (ms 13 1934) rfl rfl HT_ (by kernel_rfl) (fun _ _ _ h => h) (by rfl) ?_ ?_ ?_ ?_
   rotate_left
   ·intro w'
    go_simp
    with_reducible rfl
   rotate_left
   ·simp only [SX]
    rfl
   refine tk 0 67 ?_ (ms 13 1935) rfl rfl HT_ HW_ (by kernel_rfl) (fun _ _ _ h => h) (by rfl) ?_ hHeld ?_ ?_ ?_
   rotate_left
   ·rintro w' ⟨s0, s1, s2⟩
    go_simp
    with_reducible rfl
   rotate_left
   ·simp only [SX]
    rfl
   refine tk 4 71 ?_ (ms 13 1951) rfl rfl HT_ HW_ (by kernel_rfl) (fun _ _ _ h => h) (by rfl) ?_ hHeld ?_ ?_ ?_
   rotate_left
   ·rintro w' ⟨s0, s1, s2⟩
    go_simp
    with_reducible rfl
   rotate_left
   ·simp only [SX]
    rfl
   refine one_ (i := 5) (N := some 72) (ms 13 1983) rfl rfl (one_of HT_.out (by kernel_rfl)) (by decide) (fun K hK => ?_)
   refine goes_ Try.func56 (by kernel_rfl) rfl #[.agg #[.int .i64 a0_0, .slice A0_1 l0_1.length c0_1], .slice A322_0 (rd_L3 t317 x13_2).length c322_0] (by rfl) rfl rfl (by (try simp only [List.map_toArray, List.map_cons, List.map_nil]); first | done | rfl | (simp only [List.length_drop, List.length_take]; rfl)) ?_
   with_reducible refine (spec_l2Cost.calls k2 a0_0 _ _ l0_1 _ _ (rd_L3 t317 x13_2) t323 _ ?side1 ?side2 ?side3 ?side4 A45.out).mono ?_
   (case side1 => repeat (first | exact (Kd.C_below HR0_1.out HB.out) | (with_reducible refine Kd.C_alloc ?_ _) | (with_reducible refine Kd.C_drewN ?_ _) | (with_reducible refine Kd.C_drew ?_)))
   (case side2 => exact HC0_1.out)
   (case side3 => repeat (first | exact (by repeat (first | (with_reducible exact HR322_0.out) | (with_reducible refine Kd.C_alloc ?_ _) | (with_reducible refine Kd.C_drewN ?_ _) | (with_reducible refine Kd.C_drew ?_) | exact HR322_0.out)) | (with_reducible refine Kd.C_alloc ?_ _) | (with_reducible refine Kd.C_drewN ?_ _) | (with_reducible refine Kd.C_drew ?_)))
   (case side4 => exact HC322_0.out)
   rintro e w50 ⟨rfl, hb⟩
   have HS2_ := (hb.cell (World.block_lt_of_cell? _ _ (hHeld.2.2))).trans (hHeld.2.2)
   refine ⟨_, rfl, ?_⟩
   replace HO_11 := ak (Kd.N_below (by (with_reducible repeat (first | apply Kd.N_alloc | apply Kd.N_drewN | apply Kd.N_drew)); exact HO_11.out) hb)
   replace HO_12 := ak (Kd.N_below (by (with_reducible repeat (first | apply Kd.N_alloc | apply Kd.N_drewN | apply Kd.N_drew)); exact HO_12.out) hb)
   replace HL320_0 := ak (Kd.V_below (by (with_reducible repeat (first | apply Kd.V_alloc | apply Kd.V_drewN | apply Kd.V_drew)); exact HL320_0.out) hb)
   replace HL322_0 := ak (Kd.V_below (by (with_reducible repeat (first | apply Kd.V_alloc | apply Kd.V_drewN | apply Kd.V_drew)); exact HL322_0.out) hb)
   replace BK308 := ak (blk_below (bk BK308) hb)
   replace HR320_0 := ak (Kd.C_below (by repeat (first | (with_reducible exact HR320_0.out) | (with_reducible refine Kd.C_alloc ?_ _) | (with_reducible refine Kd.C_drewN ?_ _) | (with_reducible refine Kd.C_drew ?_) | exact HR320_0.out)) hb)
   replace HR322_0 := ak (Kd.C_below (by repeat (first | (with_reducible exact HR322_0.out) | (with_reducible refine Kd.C_alloc ?_ _) | (with_reducible refine Kd.C_drewN ?_ _) | (with_reducible refine Kd.C_drew ?_) | exact HR322_0.out)) hb)
   replace HB := ak (below_step (bl1 HB GE308) hb)
   (try clear hb)
   (try clear hb2)
   (try clear hk)
   (try clear hi)
   refine hK.out _ _ ⟨(blk_cell BK308.out 0).trans rfl, (blk_cell BK308.out 1).trans rfl, HS2_⟩ (fun hHeld => ?_)
   clear hK K
   refine norm_ (a' := ?_) ?_ ?_
   rotate_left
   ·show Act.put _ (some 72) _ = _
    simp only [SX]
    rfl
   refine pu 6 73 ?_ (ms 13 2047) rfl rfl HT_ (by kernel_rfl) (fun _ _ _ h => h) (by rfl) ?_ ?_ ?_ ?_
   rotate_left
   ·intro w'
    go_simp
    with_reducible rfl
   rotate_left
   ·simp only [SX]
    rfl
   refine pu 11 78 ?_ (ms 13 4095) rfl rfl HT_ (by kernel_rfl) (fun _ _ _ h => h) (by rfl) ?_ ?_ ?_ ?_
   rotate_left
   ·intro w'
    go_simp
    with_reducible rfl
   rotate_left
   ·simp only [SX]
    rfl
   refine pu 12 15 ?_ (ms 13 8191) rfl rfl HT_ (by kernel_rfl) (fun _ _ _ h => h) (by rfl) ?_ ?_ ?_ ?_
   rotate_left
   ·intro w'
    go_simp
    with_reducible rfl
   rotate_left
   ·simp only [SX]
    rfl
   refine done_ (done_of HT_.out (by kernel_rfl)) ?_
   try go_wp2
   go_loopg [15, 16] k2 (fun kq v15 v16 w' => ∃ (x15_3 : Bool) (x16_3 : Int), v15 = .bool x15_3 ∧ v16 = .int .i64 x16_3 ∧ Aside0 (spec_SomeOthers.l1 kq a3 a4 x11_2 t317 x13_2 t321 x15_3 x16_3 a0_0 l0_1 = some r) ∧ Aside0 (kq ≤ k2) ∧ Aside0 (Kd.N (Kd.slice 3 (Kd.int .i64)) 33 w' w.heap.size (fun k_ => (w.heap.size ≤ k_) ∧ some k_ ≠ ((.slice (some ad320) t317.length co46) : Value).ownBlock ∧ k_ ≠ gb308) u11 x11_2) ∧ Aside0 (Kd.N (Kd.slice 3 (Kd.int .i64)) 33 w' w.heap.size (fun k_ => (w.heap.size ≤ k_) ∧ some k_ ≠ (u11 : Value).ownBlock ∧ k_ ≠ gb308) (.slice (some ad320) t317.length co46) t317) ∧ Aside0 (w'.heap[gb308]? = some (.cells #[.int .i64 a0_0, (.slice A0_1 l0_1.length c0_1)] 25 (0, 0))) ∧ Aside0 (Kd.C (Kd.int .i64) w' A320_0 (rd_L3 t317 0).length (rd_L3 t317 0)) ∧ Aside0 (Kd.C (Kd.int .i64) w' A322_0 (rd_L3 t317 x13_2).length (rd_L3 t317 x13_2)) ∧ Aside0 (Below w.heap.size w w'))
   case atStart => exact ⟨(decide ((wrap64 (t323 * 100)) ≤ (wrap64 (t321 * (wrap64 (100 + a3)))))), (0), (by first | rfl | (simp; done) | (simp [*]; done)), (by first | rfl | (simp; done) | (simp [*]; done)), H', ⟨Nat.le_refl _⟩, ⟨by (with_reducible repeat (first | apply Kd.N_alloc | apply Kd.N_drewN | apply Kd.N_drew)); exact HO_11.out⟩, ⟨by (with_reducible repeat (first | apply Kd.N_alloc | apply Kd.N_drewN | apply Kd.N_drew)); exact HO_12.out⟩, ⟨bk BK308⟩, ⟨by repeat (first | (with_reducible exact HR320_0.out) | (with_reducible refine Kd.C_alloc ?_ _) | (with_reducible refine Kd.C_drewN ?_ _) | (with_reducible refine Kd.C_drew ?_) | exact HR320_0.out)⟩, ⟨by repeat (first | (with_reducible exact HR322_0.out) | (with_reducible refine Kd.C_alloc ?_ _) | (with_reducible refine Kd.C_drewN ?_ _) | (with_reducible refine Kd.C_drew ?_) | exact HR322_0.out)⟩, ⟨bl1 HB GE308⟩⟩
   clear H'
   try clear c1
   try clear c2
   try clear p2
   try clear c3
   try clear p3
   try clear q3
   try clear hx3
   try clear qi3
   try clear c4
   try clear c5
   try clear p6
   try clear c11
   try clear c13
   try clear c14
   try clear c15
   try clear c16
   try clear c16b0
   try clear c16b1
   try clear c21
   try clear c32
   try clear p32
   try clear q32
   try clear hx32
   try clear qi32
   try clear c37
   try clear c41
   try clear c41b0
   try clear c42
   try clear c42b0
   try clear c42b1
   try clear c44
   try clear c44b0
   try clear hcz17_0
   try clear hcz17_1
   try clear hcz19_0
   try clear hcz19_1
   try clear hcz23_0
   try clear hcz23_1
   try clear hcz25_0
   try clear hcz25_1
   try clear hcz26_0
   try clear hcz26_1
   try clear hcz28_0
   try clear hcz28_1
   try clear hcz29_0
   try clear hcz29_1
   try clear hcz31_0
   try clear hcz31_1
   try clear hcz32_0
   try clear hcz32_1
   try clear hcz34_0
   try clear hcz34_1
   try clear hcz35_0
   try clear hcz35_1
   try clear hcz39_0
   try clear hcz39_1
   try clear hfz17_0
   try clear hfz17_1
   try clear hfz19_0
   try clear hfz19_1
   try clear hfz23_0
   try clear hfz23_1
   try clear hfz25_0
   try clear hfz25_1
   try clear hfz26_0
   try clear hfz26_1
   try clear hfz28_0
   try clear hfz28_1
   try clear hfz29_0
   try clear hfz29_1
   try clear hfz31_0
   try clear hfz31_1
   try clear hfz32_0
   try clear hfz32_1
   try clear hfz34_0
   try clear hfz34_1
   try clear hfz35_0
   try clear hfz35_1
   try clear hfz39_0
   try clear hfz39_1
   try clear hx320_0
   try clear hx322_0
   try clear p2
   try clear p320
   try clear p322
   try clear p6
   try clear q320
   try clear q322
   obtain ⟨x15_3, x16_3, rfl, rfl, HA, HK3, HO_11, HO_12, BK308, HR320_0, HR322_0, HB⟩ := hrel
   cases gk with
   | zero => exact absurd HA.out (by simp [spec_SomeOthers.l1])
   | succ k3 =>
    have H := HA.out
    clear HA
    simp only [spec_SomeOthers.l1] at H
    by_cases c51 : x16_3 < (x11_2.length : Int)
    rotate_left
    ·rw [if_neg c51] at H
     have c51b0 : decide (x16_3 < (x11_2.length : Int)) = false := decide_eq_false c51
     clear c51
     by_cases c62 : x15_3 = true
     rotate_left
     ·replace c62 := Bool.eq_false_iff.mpr c62
      subst c62
      rw [if_neg (show ¬ (false = true) by decide)] at H
      have H' := ak H
      clear H
      obtain ⟨Ao68, co68, eo68⟩ := Kd.N_slice HO_11.out
      subst eo68
      go_wp2
      go_roundg k3
      case measure => have := HJ5.out; have := HK2.out; have := HK3.out; omega
      case rel => exact ⟨(x11_2), (wrap64 (x13_2 + 1)), (by first | rfl | (simp; done) | (simp [*]; done)), H', ⟨by have := HJ5.out; have := HK2.out; have := HK3.out; omega⟩, ⟨by (with_reducible repeat (first | apply Kd.N_alloc | apply Kd.N_drewN | apply Kd.N_drew)); exact HO_11.out⟩, ⟨by (with_reducible repeat (first | apply Kd.N_alloc | apply Kd.N_drewN | apply Kd.N_drew)); exact HO_12.out⟩, ⟨bk BK308⟩, ⟨bl1 HB GE308⟩⟩
     subst c62
     rw [if_pos rfl] at H
     by_cases c63 : 0 ≤ x13_2
     rotate_left
     ·rw [if_neg c63] at H
      exact absurd H (by simp)
     rw [if_pos c63] at H
     have c63b0 : decide (0 ≤ x13_2) = true := decide_eq_true c63
     clear c63
     by_cases c64 : x13_2 < (t317.length : Int)
     rotate_left
     ·rw [if_neg c64] at H
      exact absurd H (by simp)
     rw [if_pos c64] at H
     have c64b0 : decide (x13_2 < (t317.length : Int)) = true := decide_eq_true c64
     clear c64
     by_cases c65 : x11_2.length < 5864062014805
     rotate_left
     ·rw [if_neg c65] at H
      exact absurd H (by simp)
     rw [if_pos c65] at H
     have LMc65 := ak c65
     clear c65
     obtain ⟨y328, hy328⟩ : ∃ y_ : List (List Int), y_ = (x11_2 ++ [rd_L3 t317 x13_2]) := ⟨_, rfl⟩
     replace H : (spec_SomeOthers.l0 k3 a3 a4 y328 t317 (wrap64 (x13_2 + 1)) a0_0 l0_1) = some r := by first | (rw [hy328]; with_reducible exact H) | (have H2_ := (Option.bind_some _ _).symm.trans H; rw [hy328]; with_reducible exact H2_) | (have H2_ := (Option.bind_some _ _).symm.trans H; with_reducible exact H2_) | with_reducible exact H | (rw [hy328]; exact H) | exact H
     have Ny328 := ak hy328
     clear hy328
     have H' := ak H
     clear H
     obtain ⟨Ao66, co66, eo66⟩ := Kd.N_slice HO_11.out
     subst eo66
     have p327 : 0 ≤ (x13_2 : Int) := oT (by first | (with_reducible assumption) | assumption)
     have q327 : x13_2 < (t317.length : Int) := oT (by first | (with_reducible assumption) | assumption)
     obtain ⟨ad327, A327_0, c327_0, e327, hx327_0, hl327_0, hi327_0⟩ := at_L3 (Kd.N_reads' HO_12.out).2.2 x13_2 p327 q327
     obtain rfl : ad320 = ad327 := (by injection e327)
     obtain ⟨ce327, hce327, hMe327, hcc327⟩ := Kd.N_get HO_12.out [] x13_2 p327 (by first | exact q327 | exact oT (by first | (with_reducible assumption) | assumption) | (have e_ := (Kd.N_reads' HO_12.out).1; omega))
     obtain ⟨ua327_0, uc327_0, rfl, ul327_0, ge327_0⟩ := Kd.FK_slice_open hMe327
     have hv327_0 := hcc327 0 _ rfl
     rw [Nat.add_zero, show ((Kd.slice 3 (Kd.int .i64))).sz = 1 from rfl, Nat.mul_one] at hv327_0
     replace hv327_0 := Option.some.inj (hv327_0.symm.trans hx327_0)
     injection hv327_0 with hva_ hvn_ hvc_
     rw [hva_] at ge327_0
     rw [hvc_] at ul327_0
     have HL327_0 := ak (show Kd.V (Kd.int .i64) 3 _ w.heap.size _ _ (rd_L3 t317 x13_2) from Kd.V_mk ul327_0 ge327_0)
     clear hva_ hvn_ hvc_ ge327_0 ul327_0
     clear hcc327 hce327
     have HR327_0 := ak hi327_0
     have HC327_0 := ak hl327_0
     clear hi327_0 hl327_0
     replace p327 := eq_true p327
     replace q327 := eq_true q327
     go_wp2_with (first | ((with_reducible refine gate_builtin (b := .append) (xs := #[.tmp 104, .tmp 109]) rfl ?_); at_builtin; refine Kd.N_append (Kd.slice 3 (Kd.int .i64)) (w0 := w) w.heap.size rfl (.tmp 104) (.tmp 109) 28 33 (.slice none 0 0) 24 rfl Try.underlying28 info33 rfl (by decide) (by omega) (.slice Ao66 x11_2.length co66) x11_2 (rd_L3 t317 x13_2) [.slice A327_0 (rd_L3 t317 x13_2).length c327_0] (fun k_ => (w.heap.size ≤ k_) ∧ some k_ ≠ (.slice (some ad320) t317.length co46 : Value).ownBlock ∧ k_ ≠ gb308) (fun k_ => ((fun k_ => (w.heap.size ≤ k_) ∧ some k_ ≠ (.slice (some ad320) t317.length co46 : Value).ownBlock ∧ k_ ≠ gb308)) k_ ∧ some k_ ≠ (.slice Ao66 x11_2.length co66 : Value).ownBlock) rfl rfl ?aP (fun _ hk => hk) ?aF ?aO ?aB ?aS ?aL ?_; (case aP => exact (Kd.FK_slice_mk (Kd.V_reads' (Kd.V_mono (ok' := (fun k_ => ((fun k_ => (w.heap.size ≤ k_) ∧ some k_ ≠ (.slice (some ad320) t317.length co46 : Value).ownBlock ∧ k_ ≠ gb308)) k_ ∧ some k_ ≠ (.slice Ao66 x11_2.length co66 : Value).ownBlock)) (HL327_0.out) (fun k_ hk => ⟨⟨hk.1.1, ⟨hk.2, hk.1.2.2⟩⟩, hk.1.2.1⟩))).2.1 (Kd.V_F (Kd.V_mono (ok' := (fun k_ => ((fun k_ => (w.heap.size ≤ k_) ∧ some k_ ≠ (.slice (some ad320) t317.length co46 : Value).ownBlock ∧ k_ ≠ gb308)) k_ ∧ some k_ ≠ (.slice Ao66 x11_2.length co66 : Value).ownBlock)) (HL327_0.out) (fun k_ hk => ⟨⟨hk.1.1, ⟨hk.2, hk.1.2.2⟩⟩, hk.1.2.1⟩))))); (case aB => exact (bl1 HB GE308)); (case aF => exact (fun k_ hk => ⟨(Nat.le_trans (below_size (bl1 HB GE308)) hk), Kd.fresh' (Kd.N_lt (by (with_reducible repeat (first | apply Kd.N_alloc | apply Kd.N_drewN | apply Kd.N_drew)); exact HO_12.out)) k_ hk, Kd.freshB (bk BK308) k_ hk⟩)); (case aO => exact (by (with_reducible repeat (first | apply Kd.N_alloc | apply Kd.N_drewN | apply Kd.N_drew)); exact HO_11.out)); (case aS => exact (below_size (bl1 HB GE308))); (case aL => have := LMc65.out; omega); intro v329 w67 ho hb hg hat; rw [← Ny328.out] at ho; have n0_ := ak (Kd.N_afterv (ok := (fun k_ => (w.heap.size ≤ k_) ∧ k_ ≠ gb308)) (by (with_reducible repeat (first | apply Kd.N_alloc | apply Kd.N_drewN | apply Kd.N_drew)); exact Kd.N_mono HO_12.out (fun _ hk => ⟨⟨hk.1, hk.2.2⟩, hk.2.1⟩)) hg hat); have n1_ := ak (blk_grown (bk BK308) hg (Kd.N_ne HO_11.out BK308.out (by decide))); have n2_ := ak (Kd.V_afterv (ok := (fun k_ => (w.heap.size ≤ k_) ∧ some k_ ≠ (.slice (some ad320) t317.length co46 : Value).ownBlock ∧ k_ ≠ gb308)) (by (with_reducible repeat (first | apply Kd.V_alloc | apply Kd.V_drewN | apply Kd.V_drew)); exact Kd.V_mono HL327_0.out (fun _ hk => ⟨⟨hk.1.1, ⟨hk.2, hk.1.2.2⟩⟩, hk.1.2.1⟩)) hg hat); have n3_ := ak (hb); have n4_ := ak (ho); clear HO_12; clear BK308; clear HL327_0; clear HB; clear HO_11; have HO_12 := n0_; have BK308 := n1_; have HL327_0 := n2_; have HB := n3_; have HO330 := n4_; clear n0_ n1_ n2_ n3_ n4_; clear ho hb hg hat))
     go_roundg k3
     case measure => have := HJ5.out; have := HK2.out; have := HK3.out; omega
     case rel => exact ⟨(y328), (wrap64 (x13_2 + 1)), (by first | rfl | (simp; done) | (simp [*]; done)), H', ⟨by have := HJ5.out; have := HK2.out; have := HK3.out; omega⟩, ⟨by (with_reducible repeat (first | apply Kd.N_alloc | apply Kd.N_drewN | apply Kd.N_drew)); exact HO330.out⟩, ⟨by (with_reducible repeat (first | apply Kd.N_alloc | apply Kd.N_drewN | apply Kd.N_drew)); exact Kd.N_mono HO_12.out (fun _ hk => ⟨hk.1.1, ⟨hk.2, hk.1.2⟩⟩)⟩, ⟨bk BK308⟩, ⟨bl1 HB GE308⟩⟩
    rw [if_pos c51] at H
    have c51b0 : decide (x16_3 < (x11_2.length : Int)) = true := decide_eq_true c51
    clear c51
    by_cases c52 : x15_3 = true
    rotate_left
    ·replace c52 := Bool.eq_false_iff.mpr c52
     subst c52
     rw [if_neg (show ¬ (false = true) by decide)] at H
     have H' := ak H
     clear H
     obtain ⟨Ao60, co60, eo60⟩ := Kd.N_slice HO_11.out
     subst eo60
     try go_wp2
     replace HO_11 := ak (Kd.N_drew HO_11.out)
     replace HO_12 := ak (Kd.N_drew HO_12.out)
     replace BK308 := ak (blk_drew BK308.out)
     replace HR320_0 := ak (Kd.C_drew HR320_0.out)
     replace HR322_0 := ak (Kd.C_drew HR322_0.out)
     replace HB := ak (below_drew1 HB.out)
     refine start_ (n := 19) (S := fun w' => True) (ds := []) (ms 19 0) (by kernel_rfl) rfl (by kernel_rfl) trivial (fun hHeld => ?_); refine with_tabW spec_SomeOthers.tab13 spec_SomeOthers.bits13 (fun HT_ HW_ => ?_)
     generalize wr.drew = w61 at HO_11 HO_12 BK308 HR320_0 HR322_0 HB hHeld ⊢
     refine pu 0 85 ?_ (ms 19 1) rfl rfl HT_ (by kernel_rfl) (fun _ _ _ h => h) (by rfl) ?_ ?_ ?_ ?_
     rotate_left
     ·intro w'
      go_simp
      with_reducible rfl
     rotate_left
     ·simp only [SX]
      rfl
     refine pu 1 86 ?_ (ms 19 3) rfl rfl HT_ (by kernel_rfl) (fun _ _ _ h => h) (by rfl) ?_ ?_ ?_ ?_
     rotate_left
     ·intro w'
      go_simp
      with_reducible rfl
     rotate_left
     ·simp only [SX]
      rfl
     refine pure_ (i := 2) (N := some 87) (v := undef) (a' := ?_) (ms 19 7) rfl rfl (any_of HT_.out (by kernel_rfl)) (fun _ _ _ h => h) (Or.inr ⟨by rfl, rfl⟩) ?_ ?_
     rotate_left
     ·simp only [SX]
      rfl
     refine pure_ (i := 3) (N := some 88) (v := undef) (a' := ?_) (ms 19 15) rfl rfl (any_of HT_.out (by kernel_rfl)) (fun _ _ _ h => h) (Or.inr ⟨by rfl, rfl⟩) ?_ ?_
     rotate_left
     ·simp only [SX]
      rfl
     refine pure_ (i := 4) (N := some 89) (v := undef) (a' := ?_) (ms 19 31) rfl rfl (any_of HT_.out (by kernel_rfl)) (fun _ _ _ h => h) (Or.inr ⟨by rfl, rfl⟩) ?_ ?_
     rotate_left
     ·simp only [SX]
      rfl
     refine pure_ (i := 5) (N := some 90) (v := undef) (a' := ?_) (ms 19 63) rfl rfl (any_of HT_.out (by kernel_rfl)) (fun _ _ _ h => h) (Or.inr ⟨by rfl, rfl⟩) ?_ ?_
     rotate_left
     ·simp only [SX]
      rfl
     refine pure_ (i := 6) (N := some 91) (v := undef) (a' := ?_) (ms 19 127) rfl rfl (any_of HT_.out (by kernel_rfl)) (fun _ _ _ h => h) (Or.inr ⟨by rfl, rfl⟩) ?_ ?_
     rotate_left
     ·simp only [SX]
      rfl
     refine pure_ (i := 7) (N := some 92) (v := undef) (a' := ?_) (ms 19 255) rfl rfl (any_of HT_.out (by kernel_rfl)) (fun _ _ _ h => h) (Or.inr ⟨by rfl, rfl⟩) ?_ ?_
     rotate_left
     ·simp only [SX]
      rfl
     refine pure_ (i := 8) (N := some 93) (v := undef) (a' := ?_) (ms 19 511) rfl rfl (any_of HT_.out (by kernel_rfl)) (fun _ _ _ h => h) (Or.inr ⟨by rfl, rfl⟩) ?_ ?_
     rotate_left
     ·simp only [SX]
      rfl
     refine pure_ (i := 9) (N := some 94) (v := undef) (a' := ?_) (ms 19 1023) rfl rfl (any_of HT_.out (by kernel_rfl)) (fun _ _ _ h => h) (Or.inr ⟨by rfl, rfl⟩) ?_ ?_
     rotate_left
     ·simp only [SX]
      rfl
     refine pure_ (i := 10) (N := some 95) (v := undef) (a' := ?_) (ms 19 2047) rfl rfl (any_of HT_.out (by kernel_rfl)) (fun _ _ _ h => h) (Or.inr ⟨by rfl, rfl⟩) ?_ ?_
     rotate_left
     ·simp only [SX]
      rfl
     refine pure_ (i := 11) (N := some 96) (v := undef) (a' := ?_) (ms 19 4095) rfl rfl (any_of HT_.out (by kernel_rfl)) (fun _ _ _ h => h) (Or.inr ⟨by rfl, rfl⟩) ?_ ?_
     rotate_left
     ·simp only [SX]
      rfl
     refine pure_ (i := 12) (N := some 97) (v := undef) (a' := ?_) (ms 19 8191) rfl rfl (any_of HT_.out (by kernel_rfl)) (fun _ _ _ h => h) (Or.inr ⟨by rfl, rfl⟩) ?_ ?_
     rotate_left
     ·simp only [SX]
      rfl
     refine pure_ (i := 13) (N := some 98) (v := undef) (a' := ?_) (ms 19 16383) rfl rfl (any_of HT_.out (by kernel_rfl)) (fun _ _ _ h => h) (Or.inr ⟨by rfl, rfl⟩) ?_ ?_
     rotate_left
     ·simp only [SX]
      rfl
     refine pure_ (i := 14) (N := some 99) (v := undef) (a' := ?_) (ms 19 32767) rfl rfl (any_of HT_.out (by kernel_rfl)) (fun _ _ _ h => h) (Or.inr ⟨by rfl, rfl⟩) ?_ ?_
     rotate_left
     ·simp only [SX]
      rfl
     refine pure_ (i := 15) (N := some 100) (v := undef) (a' := ?_) (ms 19 65535) rfl rfl (any_of HT_.out (by kernel_rfl)) (fun _ _ _ h => h) (Or.inr ⟨by rfl, rfl⟩) ?_ ?_
     rotate_left
     ·simp only [SX]
      rfl
     refine pure_ (i := 16) (N := some 101) (v := undef) (a' := ?_) (ms 19 131071) rfl rfl (any_of HT_.out (by kernel_rfl)) (fun _ _ _ h => h) (Or.inr ⟨by rfl, rfl⟩) ?_ ?_
     rotate_left
     ·simp only [SX]
      rfl
     refine pu 17 102 ?_ (ms 19 262143) rfl rfl HT_ (by kernel_rfl) (fun _ _ _ h => h) (by rfl) ?_ ?_ ?_ ?_
     rotate_left
     ·intro w'
      go_simp
      with_reducible rfl
     rotate_left
     ·simp only [SX]
      rfl
     refine pu 18 15 ?_ (ms 19 524287) rfl rfl HT_ (by kernel_rfl) (fun _ _ _ h => h) (by rfl) ?_ ?_ ?_ ?_
     rotate_left
     ·intro w'
      go_simp
      with_reducible rfl
     rotate_left
     ·simp only [SX]
      rfl
     refine done_ (done_of HT_.out (by kernel_rfl)) ?_
     try go_wp2
     go_roundg k3
     case measure => have := HJ5.out; have := HK2.out; have := HK3.out; omega
     case rel => exact ⟨(false), (wrap64 (x16_3 + 1)), (by first | rfl | (simp; done) | (simp [*]; done)), (by first | rfl | (simp; done) | (simp [*]; done)), H', ⟨by have := HJ5.out; have := HK2.out; have := HK3.out; omega⟩, ⟨by (with_reducible repeat (first | apply Kd.N_alloc | apply Kd.N_drewN | apply Kd.N_drew)); exact HO_11.out⟩, ⟨by (with_reducible repeat (first | apply Kd.N_alloc | apply Kd.N_drewN | apply Kd.N_drew)); exact HO_12.out⟩, ⟨bk BK308⟩, ⟨by repeat (first | (with_reducible exact HR320_0.out) | (with_reducible refine Kd.C_alloc ?_ _) | (with_reducible refine Kd.C_drewN ?_ _) | (with_reducible refine Kd.C_drew ?_) | exact HR320_0.out)⟩, ⟨by repeat (first | (with_reducible exact HR322_0.out) | (with_reducible refine Kd.C_alloc ?_ _) | (with_reducible refine Kd.C_drewN ?_ _) | (with_reducible refine Kd.C_drew ?_) | exact HR322_0.out)⟩, ⟨bl1 HB GE308⟩⟩
    subst c52
    rw [if_pos rfl] at H
    by_cases c53 : 0 ≤ x13_2
    rotate_left
    ·rw [if_neg c53] at H
     exact absurd H (by simp)
    rw [if_pos c53] at H
    have c53b0 : decide (0 ≤ x13_2) = true := decide_eq_true c53
    clear c53
    by_cases c54 : x13_2 < (t317.length : Int)
    rotate_left
    ·rw [if_neg c54] at H
     exact absurd H (by simp)
    rw [if_pos c54] at H
    have c54b0 : decide (x13_2 < (t317.length : Int)) = true := decide_eq_true c54
    clear c54
    by_cases c55 : 0 ≤ x16_3
    rotate_left
    ·rw [if_neg c55] at H
     exact absurd H (by simp)
    rw [if_pos c55] at H
    have c55b0 : decide (0 ≤ x16_3) = true := decide_eq_true c55
    clear c55
    replace H := Option.bind_eq_some_iff.mp H
    obtain ⟨t326, A560, H⟩ := H
    have A56 := ak A560
    clear A560
    have H' := ak H
    clear H
    obtain ⟨Ao57, co57, eo57⟩ := Kd.N_slice HO_11.out
    subst eo57
    try go_wp2
    replace HO_11 := ak (Kd.N_drew HO_11.out)
    replace HO_12 := ak (Kd.N_drew HO_12.out)
    replace BK308 := ak (blk_drew BK308.out)
    replace HR320_0 := ak (Kd.C_drew HR320_0.out)
    replace HR322_0 := ak (Kd.C_drew HR322_0.out)
    replace HB := ak (below_drew1 HB.out)
    have p324 : 0 ≤ (x13_2 : Int) := oT (by first | (with_reducible assumption) | assumption)
    have q324 : x13_2 < (t317.length : Int) := oT (by first | (with_reducible assumption) | assumption)
    obtain ⟨ad324, A324_0, c324_0, e324, hx324_0, hl324_0, hi324_0⟩ := at_L3 (Kd.N_reads' HO_12.out).2.2 x13_2 p324 q324
    obtain rfl : ad320 = ad324 := (by injection e324)
    obtain ⟨ce324, hce324, hMe324, hcc324⟩ := Kd.N_get HO_12.out [] x13_2 p324 (by first | exact q324 | exact oT (by first | (with_reducible assumption) | assumption) | (have e_ := (Kd.N_reads' HO_12.out).1; omega))
    obtain ⟨ua324_0, uc324_0, rfl, ul324_0, ge324_0⟩ := Kd.FK_slice_open hMe324
    have hv324_0 := hcc324 0 _ rfl
    rw [Nat.add_zero, show ((Kd.slice 3 (Kd.int .i64))).sz = 1 from rfl, Nat.mul_one] at hv324_0
    replace hv324_0 := Option.some.inj (hv324_0.symm.trans hx324_0)
    injection hv324_0 with hva_ hvn_ hvc_
    rw [hva_] at ge324_0
    rw [hvc_] at ul324_0
    have HL324_0 := ak (show Kd.V (Kd.int .i64) 3 _ w.heap.size _ _ (rd_L3 t317 x13_2) from Kd.V_mk ul324_0 ge324_0)
    clear hva_ hvn_ hvc_ ge324_0 ul324_0
    clear hcc324 hce324
    have HR324_0 := ak hi324_0
    have HC324_0 := ak hl324_0
    clear hi324_0 hl324_0
    replace p324 := eq_true p324
    replace q324 := eq_true q324
    have p325 : 0 ≤ (x16_3 : Int) := oT (by first | (with_reducible assumption) | assumption)
    have q325 : x16_3 < (x11_2.length : Int) := oT (by first | (with_reducible assumption) | assumption)
    obtain ⟨ad325, A325_0, c325_0, e325, hx325_0, hl325_0, hi325_0⟩ := at_L3 (Kd.N_reads' HO_11.out).2.2 x16_3 p325 q325
    cases e325
    obtain ⟨ce325, hce325, hMe325, hcc325⟩ := Kd.N_get HO_11.out [] x16_3 p325 (by first | exact q325 | exact oT (by first | (with_reducible assumption) | assumption) | (have e_ := (Kd.N_reads' HO_11.out).1; omega))
    obtain ⟨ua325_0, uc325_0, rfl, ul325_0, ge325_0⟩ := Kd.FK_slice_open hMe325
    have hv325_0 := hcc325 0 _ rfl
    rw [Nat.add_zero, show ((Kd.slice 3 (Kd.int .i64))).sz = 1 from rfl, Nat.mul_one] at hv325_0
    replace hv325_0 := Option.some.inj (hv325_0.symm.trans hx325_0)
    injection hv325_0 with hva_ hvn_ hvc_
    rw [hva_] at ge325_0
    rw [hvc_] at ul325_0
    have HL325_0 := ak (show Kd.V (Kd.int .i64) 3 _ w.heap.size _ _ (rd_L3 x11_2 x16_3) from Kd.V_mk ul325_0 ge325_0)
    clear hva_ hvn_ hvc_ ge325_0 ul325_0
    clear hcc325 hce325
    have HR325_0 := ak hi325_0
    have HC325_0 := ak hl325_0
    clear hi325_0 hl325_0
    replace p325 := eq_true p325
    replace q325 := eq_true q325
    refine start_ (n := 19) (S := fun w' => w'.cell? ⟨gb308, 0, none⟩ = some (.int .i64 a0_0) ∧ w'.cell? ⟨gb308, 1, none⟩ = some (.slice A0_1 l0_1.length c0_1) ∧ w'.cell? (ad320.add (x13_2).toNat) = some (.slice A324_0 (rd_L3 t317 x13_2).length c324_0) ∧ w'.cell? (ad325.add (x16_3).toNat) = some (.slice A325_0 (rd_L3 x11_2 x16_3).length c325_0)) (ds := []) (ms 19 0) (by kernel_rfl) rfl (by kernel_rfl) ⟨(blk_cell BK308.out 0).trans rfl, (blk_cell BK308.out 1).trans rfl, hx324_0, hx325_0⟩ (fun hHeld => ?_); refine with_tabW spec_SomeOthers.tab13 spec_SomeOthers.bits13 (fun HT_ HW_ => ?_)
    generalize wr.drew = w58 at HO_11 HO_12 BK308 HR320_0 HR322_0 HB HL324_0 HL325_0 HR324_0 HR325_0 hx324_0 hx325_0 hHeld ⊢
    refine pu 0 85 ?_ (ms 19 1) rfl rfl HT_ (by kernel_rfl) (fun _ _ _ h => h) (by rfl) ?_ ?_ ?_ ?_
    rotate_left
    ·intro w'
     go_simp
     with_reducible rfl
    rotate_left
    ·simp only [SX]
     rfl
    refine pu 1 86 ?_ (ms 19 3) rfl rfl HT_ (by kernel_rfl) (fun _ _ _ h => h) (by rfl) ?_ ?_ ?_ ?_
    rotate_left
    ·intro w'
     go_simp
     with_reducible rfl
    rotate_left
    ·simp only [SX]
     rfl
    refine pu 3 88 ?_ (ms 19 11) rfl rfl HT_ (by kernel_rfl) (fun _ _ _ h => h) (by rfl) ?_ ?_ ?_ ?_
    rotate_left
    ·intro w'
     go_simp
     with_reducible rfl
    rotate_left
    ·simp only [SX]
     rfl
    refine pu 4 89 ?_ (ms 19 27) rfl rfl HT_ (by kernel_rfl) (fun _ _ _ h => h) (by rfl) ?_ ?_ ?_ ?_
    rotate_left
    ·intro w'
     go_simp
     with_reducible rfl
    rotate_left
    ·simp only [SX]
     rfl
    refine pu 5 90 ?_ (ms 19 59) rfl rfl HT_ (by kernel_rfl) (fun _ _ _ h => h) (by rfl) ?_ ?_ ?_ ?_
    rotate_left
    ·intro w'
     go_simp
     with_reducible rfl
    rotate_left
    ·simp only [SX]
     rfl
    refine pu 7 92 ?_ (ms 19 187) rfl rfl HT_ (by kernel_rfl) (fun _ _ _ h => h) (by rfl) ?_ ?_ ?_ ?_
    rotate_left
    ·intro w'
     go_simp
     with_reducible rfl
    rotate_left
    ·simp only [SX]
     rfl
    refine pu 8 93 ?_ (ms 19 443) rfl rfl HT_ (by kernel_rfl) (fun _ _ _ h => h) (by rfl) ?_ ?_ ?_ ?_
    rotate_left
    ·intro w'
     go_simp
     with_reducible rfl
    rotate_left
    ·simp only [SX]
     rfl
    refine pu 9 94 ?_ (ms 19 955) rfl rfl HT_ (by kernel_rfl) (fun _ _ _ h => h) (by rfl) ?_ ?_ ?_ ?_
    rotate_left
    ·intro w'
     go_simp
     with_reducible rfl
    rotate_left
    ·simp only [SX]
     rfl
    refine pu 13 98 ?_ (ms 19 9147) rfl rfl HT_ (by kernel_rfl) (fun _ _ _ h => h) (by rfl) ?_ ?_ ?_ ?_
    rotate_left
    ·intro w'
     go_simp
     with_reducible rfl
    rotate_left
    ·simp only [SX]
     rfl
    refine pu 14 99 ?_ (ms 19 25531) rfl rfl HT_ (by kernel_rfl) (fun _ _ _ h => h) (by rfl) ?_ ?_ ?_ ?_
    rotate_left
    ·intro w'
     go_simp
     with_reducible rfl
    rotate_left
    ·simp only [SX]
     rfl
    refine pu 15 100 ?_ (ms 19 58299) rfl rfl HT_ (by kernel_rfl) (fun _ _ _ h => h) (by rfl) ?_ ?_ ?_ ?_
    rotate_left
    ·intro w'
     go_simp
     with_reducible rfl
    rotate_left
    ·simp only [SX]
     rfl
    refine tk 2 87 ?_ (ms 19 58303) rfl rfl HT_ HW_ (by kernel_rfl) (fun _ _ _ h => h) (by rfl) ?_ hHeld ?_ ?_ ?_
    rotate_left
    ·rintro w' ⟨s0, s1, s2, s3⟩
     go_simp
     with_reducible rfl
    rotate_left
    ·simp only [SX]
     rfl
    refine tk 6 91 ?_ (ms 19 58367) rfl rfl HT_ HW_ (by kernel_rfl) (fun _ _ _ h => h) (by rfl) ?_ hHeld ?_ ?_ ?_
    rotate_left
    ·rintro w' ⟨s0, s1, s2, s3⟩
     go_simp
     with_reducible rfl
    rotate_left
    ·simp only [SX]
     rfl
    refine tk 10 95 ?_ (ms 19 59391) rfl rfl HT_ HW_ (by kernel_rfl) (fun _ _ _ h => h) (by rfl) ?_ hHeld ?_ ?_ ?_
    rotate_left
    ·rintro w' ⟨s0, s1, s2, s3⟩
     go_simp
     with_reducible rfl
    rotate_left
    ·simp only [SX]
     rfl
    refine one_ (i := 11) (N := some 96) (ms 19 61439) rfl rfl (one_of HT_.out (by kernel_rfl)) (by decide) (fun K hK => ?_)
    refine goes_ Try.func57 (by kernel_rfl) rfl #[.agg #[.int .i64 a0_0, .slice A0_1 l0_1.length c0_1], .slice A324_0 (rd_L3 t317 x13_2).length c324_0, .slice A325_0 (rd_L3 x11_2 x16_3).length c325_0] (by rfl) rfl rfl (by (try simp only [List.map_toArray, List.map_cons, List.map_nil]); first | done | rfl | (simp only [List.length_drop, List.length_take]; rfl)) ?_
    with_reducible refine (spec_l14Share.calls k3 a0_0 _ _ l0_1 _ _ (rd_L3 t317 x13_2) _ _ (rd_L3 x11_2 x16_3) t326 _ ?side1 ?side2 ?side3 ?side4 ?side5 ?side6 A56.out).mono ?_
    (case side1 => repeat (first | exact (Kd.C_below HR0_1.out HB.out) | (with_reducible refine Kd.C_alloc ?_ _) | (with_reducible refine Kd.C_drewN ?_ _) | (with_reducible refine Kd.C_drew ?_)))
    (case side2 => exact HC0_1.out)
    (case side3 => repeat (first | exact (by repeat (first | (with_reducible exact HR324_0.out) | (with_reducible refine Kd.C_alloc ?_ _) | (with_reducible refine Kd.C_drewN ?_ _) | (with_reducible refine Kd.C_drew ?_) | exact HR324_0.out)) | (with_reducible refine Kd.C_alloc ?_ _) | (with_reducible refine Kd.C_drewN ?_ _) | (with_reducible refine Kd.C_drew ?_)))
    (case side4 => exact HC324_0.out)
    (case side5 => repeat (first | exact (by repeat (first | (with_reducible exact HR325_0.out) | (with_reducible refine Kd.C_alloc ?_ _) | (with_reducible refine Kd.C_drewN ?_ _) | (with_reducible refine Kd.C_drew ?_) | exact HR325_0.out)) | (with_reducible refine Kd.C_alloc ?_ _) | (with_reducible refine Kd.C_drewN ?_ _) | (with_reducible refine Kd.C_drew ?_)))
    (case side6 => exact HC325_0.out)
    rintro e w59 ⟨rfl, hb⟩
    have HS2_ := (hb.cell (World.block_lt_of_cell? _ _ (hHeld.2.2.1))).trans (hHeld.2.2.1)
    have HS3_ := (hb.cell (World.block_lt_of_cell? _ _ (hHeld.2.2.2))).trans (hHeld.2.2.2)
    refine ⟨_, rfl, ?_⟩
    replace HO_11 := ak (Kd.N_below (by (with_reducible repeat (first | apply Kd.N_alloc | apply Kd.N_drewN | apply Kd.N_drew)); exact HO_11.out) hb)
    replace HO_12 := ak (Kd.N_below (by (with_reducible repeat (first | apply Kd.N_alloc | apply Kd.N_drewN | apply Kd.N_drew)); exact HO_12.out) hb)
    replace HL324_0 := ak (Kd.V_below (by (with_reducible repeat (first | apply Kd.V_alloc | apply Kd.V_drewN | apply Kd.V_drew)); exact HL324_0.out) hb)
    replace HL325_0 := ak (Kd.V_below (by (with_reducible repeat (first | apply Kd.V_alloc | apply Kd.V_drewN | apply Kd.V_drew)); exact HL325_0.out) hb)
    replace BK308 := ak (blk_below (bk BK308) hb)
    replace HR320_0 := ak (Kd.C_below (by repeat (first | (with_reducible exact HR320_0.out) | (with_reducible refine Kd.C_alloc ?_ _) | (with_reducible refine Kd.C_drewN ?_ _) | (with_reducible refine Kd.C_drew ?_) | exact HR320_0.out)) hb)
    replace HR322_0 := ak (Kd.C_below (by repeat (first | (with_reducible exact HR322_0.out) | (with_reducible refine Kd.C_alloc ?_ _) | (with_reducible refine Kd.C_drewN ?_ _) | (with_reducible refine Kd.C_drew ?_) | exact HR322_0.out)) hb)
    replace HR324_0 := ak (Kd.C_below (by repeat (first | (with_reducible exact HR324_0.out) | (with_reducible refine Kd.C_alloc ?_ _) | (with_reducible refine Kd.C_drewN ?_ _) | (with_reducible refine Kd.C_drew ?_) | exact HR324_0.out)) hb)
    replace HR325_0 := ak (Kd.C_below (by repeat (first | (with_reducible exact HR325_0.out) | (with_reducible refine Kd.C_alloc ?_ _) | (with_reducible refine Kd.C_drewN ?_ _) | (with_reducible refine Kd.C_drew ?_) | exact HR325_0.out)) hb)
    replace HB := ak (below_step (bl1 HB GE308) hb)
    (try clear hb)
    (try clear hb2)
    (try clear hk)
    (try clear hi)
    refine hK.out _ _ ⟨(blk_cell BK308.out 0).trans rfl, (blk_cell BK308.out 1).trans rfl, HS2_, HS3_⟩ (fun hHeld => ?_)
    clear hK K
    refine norm_ (a' := ?_) ?_ ?_
    rotate_left
    ·show Act.put _ (some 96) _ = _
     simp only [SX]
     rfl
    refine pu 12 97 ?_ (ms 19 65535) rfl rfl HT_ (by kernel_rfl) (fun _ _ _ h => h) (by rfl) ?_ ?_ ?_ ?_
    rotate_left
    ·intro w'
     go_simp
     with_reducible rfl
    rotate_left
    ·simp only [SX]
     rfl
    refine pu 16 101 ?_ (ms 19 131071) rfl rfl HT_ (by kernel_rfl) (fun _ _ _ h => h) (by rfl) ?_ ?_ ?_ ?_
    rotate_left
    ·intro w'
     go_simp
     with_reducible rfl
    rotate_left
    ·simp only [SX]
     rfl
    refine pu 17 102 ?_ (ms 19 262143) rfl rfl HT_ (by kernel_rfl) (fun _ _ _ h => h) (by rfl) ?_ ?_ ?_ ?_
    rotate_left
    ·intro w'
     go_simp
     with_reducible rfl
    rotate_left
    ·simp only [SX]
     rfl
    refine pu 18 15 ?_ (ms 19 524287) rfl rfl HT_ (by kernel_rfl) (fun _ _ _ h => h) (by rfl) ?_ ?_ ?_ ?_
    rotate_left
    ·intro w'
     go_simp
     with_reducible rfl
    rotate_left
    ·simp only [SX]
     rfl
    refine done_ (done_of HT_.out (by kernel_rfl)) ?_
    try go_wp2
    go_roundg k3
    case measure => have := HJ5.out; have := HK2.out; have := HK3.out; omega
    case rel => exact ⟨(decide ((wrap64 (t326 * 100)) ≤ (wrap64 (t321 * a4)))), (wrap64 (x16_3 + 1)), (by first | rfl | (simp; done) | (simp [*]; done)), (by first | rfl | (simp; done) | (simp [*]; done)), H', ⟨by have := HJ5.out; have := HK2.out; have := HK3.out; omega⟩, ⟨by (with_reducible repeat (first | apply Kd.N_alloc | apply Kd.N_drewN | apply Kd.N_drew)); exact HO_11.out⟩, ⟨by (with_reducible repeat (first | apply Kd.N_alloc | apply Kd.N_drewN | apply Kd.N_drew)); exact HO_12.out⟩, ⟨bk BK308⟩, ⟨by repeat (first | (with_reducible exact HR320_0.out) | (with_reducible refine Kd.C_alloc ?_ _) | (with_reducible refine Kd.C_drewN ?_ _) | (with_reducible refine Kd.C_drew ?_) | exact HR320_0.out)⟩, ⟨by repeat (first | (with_reducible exact HR322_0.out) | (with_reducible refine Kd.C_alloc ?_ _) | (with_reducible refine Kd.C_drewN ?_ _) | (with_reducible refine Kd.C_drew ?_) | exact HR322_0.out)⟩, ⟨bl1 HB GE308⟩⟩

end Go.Proofs.Ytlgolgfcolnddaa.F
