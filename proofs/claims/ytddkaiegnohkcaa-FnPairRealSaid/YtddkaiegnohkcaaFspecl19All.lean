-- Printed by wip/px/px.py of this claim's repository (the kit's printer, extended there). Lean checks it.
import Derived.Test.YtddkaiegnohkcaaFKinds
import Derived.Test.YtddkaiegnohkcaaFspecl19Put
namespace Go.Proofs.Ytddkaiegnohkcaa.F
open Go.RowKit Go.Proofs.YtddkaiegnohkcaaW.PrintWords Go.Proofs.YtddkaiegnohkcaaW.PrintLast Go.Proofs.YtddkaiegnohkcaaW.PrintMore
attribute [local go_sem] max2_int min2_int max_two min_two max_three min_three max_four min_four   -- for this text's walks alone
set_option linter.unusedVariables false
set_option linter.unusedSimpArgs false

/-! ### spec_l19All: function 49 -/
mutual
def spec_l19All.l0 : Nat → List (List (S35)) → Int → Int → List (S33) → Option ((List (List (S35))))
 | 0, _, _, _, _ => none
 | k + 1, x5, x6, x172000, x172001 => if x6 < x172000 then (spec_l19All.l1 k x5 x6 0 x172000 x172001) else (some x5)
def spec_l19All.l1 : Nat → List (List (S35)) → Int → Int → Int → List (S33) → Option ((List (List (S35))))
 | 0, _, _, _, _, _ => none
 | k + 1, x5, x6, x7, x172000, x172001 => if x7 < (x172001.length : Int) then (if 0 ≤ x7 then (spec_l19All.l2 k x5 x6 x7 0 x172000 x172001 ((rd_T33 x172001 x7).f0) ((rd_T33 x172001 x7).f1) ((rd_T33 x172001 x7).f2) ((rd_T33 x172001 x7).f3) ((rd_T33 x172001 x7).f4)) else (none)) else (spec_l19All.l0 k x5 (wrap64 (x6 + 1)) x172000 x172001)
def spec_l19All.l2 : Nat → List (List (S35)) → Int → Int → Int → Int → List (S33) → Int → Int → Int → Int → Int → Option ((List (List (S35))))
 | 0, _, _, _, _, _, _, _, _, _, _, _ => none
 | k + 1, x5, x6, x7, x9, x172000, x172001, x181000, x181001, x181002, x181003, x181004 => if 0 ≤ x181000 then (if x181000 < (x5.length : Int) then (if x9 < ((rd_L3 x5 x181000).length : Int) then (if 0 ≤ x181001 then (if x181001 < (x5.length : Int) then (if 0 ≤ x9 then ((spec_l19Put.f k (rd_L3 x5 x181001) (wrap64 (((rd_T35 (rd_L3 x5 x181000) x9).f0) + x181002)) (wrap64 (((rd_T35 (rd_L3 x5 x181000) x9).f1) + x181003))).bind fun t187 => (spec_l19All.l2 k (x5.set (x181001 : Int).toNat t187) x6 x7 (wrap64 (x9 + 1)) x172000 x172001 x181000 x181001 x181002 x181003 x181004)) else (none)) else (none)) else (none)) else (spec_l19All.l1 k x5 x6 (wrap64 (x7 + 1)) x172000 x172001)) else (none)) else (none)
end
def spec_l19All.f (k : Nat) (a0_0 : Int) (l0_1 : List (S33)) (a1 : Int) : Option ((List (List (S35)))) := if 0 ≤ a0_0 then (if (a0_0 : Int).toNat ≤ 11728124029610 then ((some (List.replicate (a0_0 : Int).toNat [] : List (List (S35)))).bind fun y172 => (if 0 ≤ a1 then (if a1 < (y172.length : Int) then (spec_l19All.l0 k (y172.set (a1 : Int).toNat (([(⟨0, 0⟩ : S35)] : List (S35)))) 0 a0_0 l0_1) else (none)) else (none))) else (none)) else (none)
theorem spec_l19All.mono_l : ∀ k, (∀ y0 y1 y2 y3, LeO (spec_l19All.l0 k y0 y1 y2 y3) (spec_l19All.l0 (k + 1) y0 y1 y2 y3)) ∧ (∀ y0 y1 y2 y3 y4, LeO (spec_l19All.l1 k y0 y1 y2 y3 y4) (spec_l19All.l1 (k + 1) y0 y1 y2 y3 y4)) ∧ (∀ y0 y1 y2 y3 y4 y5 y6 y7 y8 y9 y10, LeO (spec_l19All.l2 k y0 y1 y2 y3 y4 y5 y6 y7 y8 y9 y10) (spec_l19All.l2 (k + 1) y0 y1 y2 y3 y4 y5 y6 y7 y8 y9 y10))
 | 0 => ⟨fun _ _ _ _ r h => by simp [spec_l19All.l0] at h, fun _ _ _ _ _ r h => by simp [spec_l19All.l1] at h, fun _ _ _ _ _ _ _ _ _ _ _ r h => by simp [spec_l19All.l2] at h⟩
 | k + 1 => by
  obtain ⟨ih0, ih1, ih2⟩ := spec_l19All.mono_l k
  refine ⟨?_, ?_, ?_⟩
  ·intro y0 y1 y2 y3
   unfold spec_l19All.l0
   repeat' first
   | (with_reducible exact ih0 _ _ _ _)
   | (with_reducible exact ih1 _ _ _ _ _)
   | (with_reducible exact ih2 _ _ _ _ _ _ _ _ _ _ _)
   | (with_reducible exact spec_l19Put.mono _ _ _ _)
   | (with_reducible exact LeO.refl _)
   | (with_reducible exact LeO.none _)
   | (with_reducible refine LeO.ite ?_ ?_)
   | (with_reducible refine LeO.bind ?_ (fun _ => ?_))
   | exact ih0 _ _ _ _
   | exact ih1 _ _ _ _ _
   | exact ih2 _ _ _ _ _ _ _ _ _ _ _
   | exact spec_l19Put.mono _ _ _ _
   | exact LeO.none _
   | refine LeO.ite ?_ ?_
   | refine LeO.bind ?_ (fun _ => ?_)
  ·intro y0 y1 y2 y3 y4
   unfold spec_l19All.l1
   repeat' first
   | (with_reducible exact ih0 _ _ _ _)
   | (with_reducible exact ih1 _ _ _ _ _)
   | (with_reducible exact ih2 _ _ _ _ _ _ _ _ _ _ _)
   | (with_reducible exact spec_l19Put.mono _ _ _ _)
   | (with_reducible exact LeO.refl _)
   | (with_reducible exact LeO.none _)
   | (with_reducible refine LeO.ite ?_ ?_)
   | (with_reducible refine LeO.bind ?_ (fun _ => ?_))
   | exact ih0 _ _ _ _
   | exact ih1 _ _ _ _ _
   | exact ih2 _ _ _ _ _ _ _ _ _ _ _
   | exact spec_l19Put.mono _ _ _ _
   | exact LeO.none _
   | refine LeO.ite ?_ ?_
   | refine LeO.bind ?_ (fun _ => ?_)
  ·intro y0 y1 y2 y3 y4 y5 y6 y7 y8 y9 y10
   unfold spec_l19All.l2
   repeat' first
   | (with_reducible exact ih0 _ _ _ _)
   | (with_reducible exact ih1 _ _ _ _ _)
   | (with_reducible exact ih2 _ _ _ _ _ _ _ _ _ _ _)
   | (with_reducible exact spec_l19Put.mono _ _ _ _)
   | (with_reducible exact LeO.refl _)
   | (with_reducible exact LeO.none _)
   | (with_reducible refine LeO.ite ?_ ?_)
   | (with_reducible refine LeO.bind ?_ (fun _ => ?_))
   | exact ih0 _ _ _ _
   | exact ih1 _ _ _ _ _
   | exact ih2 _ _ _ _ _ _ _ _ _ _ _
   | exact spec_l19Put.mono _ _ _ _
   | exact LeO.none _
   | refine LeO.ite ?_ ?_
   | refine LeO.bind ?_ (fun _ => ?_)
theorem spec_l19All.mono : ∀ a0 a1 a2 k, LeO (spec_l19All.f k a0 a1 a2) (spec_l19All.f (k + 1) a0 a1 a2) := by
 intro a0 a1 a2 k
 obtain ⟨ih0, ih1, ih2⟩ := spec_l19All.mono_l k
 unfold spec_l19All.f
 repeat' first
   | (with_reducible exact ih0 _ _ _ _)
   | (with_reducible exact ih1 _ _ _ _ _)
   | (with_reducible exact ih2 _ _ _ _ _ _ _ _ _ _ _)
   | (with_reducible exact spec_l19Put.mono _ _ _ _)
   | (with_reducible exact LeO.refl _)
   | (with_reducible exact LeO.none _)
   | (with_reducible refine LeO.ite ?_ ?_)
   | (with_reducible refine LeO.bind ?_ (fun _ => ?_))
   | exact ih0 _ _ _ _
   | exact ih1 _ _ _ _ _
   | exact ih2 _ _ _ _ _ _ _ _ _ _ _
   | exact spec_l19Put.mono _ _ _ _
   | exact LeO.none _
   | refine LeO.ite ?_ ?_
   | refine LeO.bind ?_ (fun _ => ?_)
def spec_l19All.T13 : Bool × List (List Nat × List Nat) := (true, [([], []), ([], []), ([1], [1]), ([], []), ([], []), ([4], [4]), ([3, 5], [3, 5]), ([6], [6]), ([], []), ([], []), ([9], [9]), ([8, 10], [8, 10]), ([11], [11]), ([], []), ([12, 13], [12, 13]), ([14], [14]), ([15], [15]), ([], []), ([17], [17]), ([16, 18], [16, 18]), ([], []), ([], []), ([21], [21]), ([20, 22], [20, 22]), ([23], [23]), ([], []), ([24, 25], [24, 25]), ([26], [26]), ([27], [27]), ([], []), ([29], [29]), ([28, 30], [28, 30]), ([19, 31], [19, 31]), ([7, 32], [7, 32]), ([0, 2, 0, 1, 2, 3, 4, 5, 6, 7, 8, 9, 10, 11, 12, 13, 14, 15, 16, 17, 18, 19, 20, 21, 22, 23, 24, 25, 26, 27, 28, 29, 30, 31, 32, 33], [0, 2]), ([34, 33, 33, 0, 1, 2, 3, 4, 5, 6, 7, 8, 9, 10, 11, 12, 13, 14, 15, 16, 17, 18, 19, 20, 21, 22, 23, 24, 25, 26, 27, 28, 29, 30, 31, 32, 33], [33, 34])])
def spec_l19All.B13 : List Nat := [0, 0, 2, 0, 0, 16, 56, 120, 0, 0, 512, 1792, 3840, 0, 16128, 32512, 65280, 0, 131072, 524032, 0, 0, 2097152, 7340032, 15728640, 0, 66060288, 133169152, 267386880, 0, 536870912, 2146435072, 4294967040, 8589934584, 17179869183, 34359738367]
theorem spec_l19All.tab13 : rtab .any (opsOf Try.f49 13) = spec_l19All.T13 := by kernel_rfl
theorem spec_l19All.bits13 : waitsOk spec_l19All.T13.2 spec_l19All.B13 = true := by kernel_rfl
set_option maxHeartbeats 8000000 in
set_option maxRecDepth 100000 in
theorem spec_l19All.calls (k : Nat) (a0_0 : Int) (A0_1 : Option Addr) (c0_1 : Nat) (l0_1 : List (S33)) (a1 : Int) (r : List (List (S35))) (w : World) (hr0_1 : Kd.C k33 w A0_1 l0_1.length l0_1) (hc0_1 : l0_1.length ≤ c0_1) (h : spec_l19All.f k a0_0 l0_1 a1 = some r) :
  Calls Try.prog 49 #[.agg #[.int .i64 a0_0, .slice A0_1 l0_1.length c0_1], .int .i64 a1] w fun e w' => ∃ v0_ : Value, e = .returned (v0_) ∧ Kd.N (Kd.slice 35 k35) 30 w' w.heap.size (fun k_ => (w.heap.size ≤ k_)) v0_ r ∧ Below w.heap.size w w' := by
 have hu25 := Try.underlying25
 have hu35 := Try.underlying35
 have hu33 := Try.underlying33
 have HR0_1 := ak hr0_1
 have HC0_1 := ak hc0_1
 clear hr0_1 hc0_1
 have HB := ak (Below.refl w.heap.size w)
 have H : (if 0 ≤ a0_0 then (if (a0_0 : Int).toNat ≤ 11728124029610 then ((some (List.replicate (a0_0 : Int).toNat [] : List (List (S35)))).bind fun y172 => (if 0 ≤ a1 then (if a1 < (y172.length : Int) then (spec_l19All.l0 k (y172.set (a1 : Int).toNat (([(⟨0, 0⟩ : S35)] : List (S35)))) 0 a0_0 l0_1) else (none)) else (none))) else (none)) else (none)) = some r := h
 clear h
 by_cases c3 : 0 ≤ a0_0
 rotate_left
 ·rw [if_neg c3] at H
  exact absurd H (by simp)
 rw [if_pos c3] at H
 have c3b0 := eq_true c3
 have c3b1 : decide (0 ≤ a0_0) = true := decide_eq_true c3
 clear c3
 by_cases c4 : (a0_0 : Int).toNat ≤ 11728124029610
 rotate_left
 ·rw [if_neg c4] at H
  exact absurd H (by simp)
 rw [if_pos c4] at H
 have c4b0 := eq_true c4
 have c4b1 : decide ((a0_0 : Int).toNat ≤ 11728124029610) = true := decide_eq_true c4
 clear c4
 obtain ⟨y172, hy172⟩ : ∃ y_ : List (List (S35)), y_ = (List.replicate (a0_0 : Int).toNat []) := ⟨_, rfl⟩
 replace H : (if 0 ≤ a1 then (if a1 < (y172.length : Int) then (spec_l19All.l0 k (y172.set (a1 : Int).toNat (([(⟨0, 0⟩ : S35)] : List (S35)))) 0 a0_0 l0_1) else (none)) else (none)) = some r := by first | (rw [hy172]; with_reducible exact H) | (have H2_ := (Option.bind_some _ _).symm.trans H; rw [hy172]; with_reducible exact H2_) | (have H2_ := (Option.bind_some _ _).symm.trans H; with_reducible exact H2_) | with_reducible exact H | (rw [hy172]; exact H) | exact H
 have Ny172 := ak hy172
 clear hy172
 obtain ⟨y175, hy175⟩ : ∃ y_ : List (S35), y_ = (([(⟨0, 0⟩ : S35)] : List (S35))) := ⟨_, rfl⟩
 replace H : (if 0 ≤ a1 then (if a1 < (y172.length : Int) then (spec_l19All.l0 k (y172.set (a1 : Int).toNat y175) 0 a0_0 l0_1) else (none)) else (none)) = some r := by first | (rw [hy175]; with_reducible exact H) | (have H2_ := (Option.bind_some _ _).symm.trans H; rw [hy175]; with_reducible exact H2_) | (have H2_ := (Option.bind_some _ _).symm.trans H; with_reducible exact H2_) | with_reducible exact H | (rw [hy175]; exact H) | exact H
 have Ny175 := ak hy175
 clear hy175
 by_cases c5 : 0 ≤ a1
 rotate_left
 ·rw [if_neg c5] at H
  exact absurd H (by simp)
 rw [if_pos c5] at H
 have c5b0 : decide (0 ≤ a1) = true := decide_eq_true c5
 clear c5
 by_cases c6 : a1 < (y172.length : Int)
 rotate_left
 ·rw [if_neg c6] at H
  exact absurd H (by simp)
 rw [if_pos c6] at H
 have c6b0 : decide (a1 < (y172.length : Int)) = true := decide_eq_true c6
 clear c6
 obtain ⟨y178, hy178⟩ : ∃ y_ : List (List (S35)), y_ = (y172.set (a1 : Int).toNat y175) := ⟨_, rfl⟩
 replace H : (spec_l19All.l0 k y178 0 a0_0 l0_1) = some r := by first | (rw [hy178]; with_reducible exact H) | (have H2_ := (Option.bind_some _ _).symm.trans H; rw [hy178]; with_reducible exact H2_) | (have H2_ := (Option.bind_some _ _).symm.trans H; with_reducible exact H2_) | with_reducible exact H | (rw [hy178]; exact H) | exact H
 have Ny178 := ak hy178
 clear hy178
 have H' := ak H
 clear H
 go_enter Try.func49, Try.ntmps49
 go_wp2_with (first | ((with_reducible refine gate_dst (N := 2) rfl ?_); refine box_event ?hg (N := 2) ?hd (cs := #[.int .i64 a0_0, .slice A0_1 l0_1.length c0_1]) (t := 25) ?hr ?_; (case hd => rfl); (case hg => rfl); (case hr => first | (go_simp; done) | (go_simp; rfl)); intro gb171 hg w8 hbox hb; have BK171 := ak (hbox); have GW171 := ak ((by rw [hg]; exact (below_size (bl HB)) : w.heap.size ≤ gb171)); have GE171 := ak ((by rw [hg]; exact (below_size (bl HB)) : w.heap.size ≤ gb171)); replace HB := ak (below_step (bl HB) hb); clear hb hbox hg; have hcz9_0 := bc w8 BK171 0 (.int .i64 a0_0) rfl; have hcz9_1 := bc w8 BK171 1 (.slice A0_1 l0_1.length c0_1) rfl; have hfz9_0 := fz BK171 0; have hfz9_1 := fz BK171 1) | ((with_reducible refine gate_dst (N := 12) rfl ?_); refine Kd.N_make (Kd.slice 35 k35) _ 30 rfl (N' := 12) rfl 73 _ _ rfl a0_0 rfl rfl Try.underlying73 (.slice none 0 0) 24 info30 rfl (by decide) (by omega) [] (ok := fun k_ => w8.heap.size ≤ k_) (okp := fun _ => False) (Kd.FK_slice_mk (Nat.le_refl _) (Kd.F_nil _ _ _)) (fun _ hk => hk.elim) (Nat.le_refl _) (oT (by first | (with_reducible assumption) | assumption)) (Nat.le_trans (Nat.mul_le_mul_right _ (oT (by first | (with_reducible assumption) | assumption) : a0_0.toNat ≤ 11728124029610)) (by omega)) (Below.refl _ _) (Nat.le_refl _) ?_; intro v173 w10 ho11 hb hg_ hnew_; clear hg_ hnew_; (first | rw [← Ny172.out] at ho11 | (simp only [Int.reduceToNat] at ho11; rw [← Ny172.out] at ho11)); have HO174 := ak (Kd.N_lower (Kd.N_mono (ok' := fun k_ => (w.heap.size ≤ k_) ∧ k_ ≠ gb171) ho11 (fun k_ hk_ => ⟨(Nat.le_trans (below_size (bl1 HB GE171)) hk_), (Kd.freshB (bk BK171) k_ hk_)⟩)) (below_size (bl1 HB GE171))); replace BK171 := ak (blk_below (bk BK171) hb); replace HB := ak (below_step (bl1 HB GE171) hb); clear hb ho11) | ((with_reducible refine gate_dst (N := 16) rfl ?_); refine Kd.R_lit k35 _ 35 ?hg (N := 16) ?hd (xs := ([(⟨0, 0⟩ : S35)] : List (S35))) (inner := [.int .i64 0, .int .i64 0]) (ok := fun _ => True) (okp := fun _ => True) ?hr ?hp (fun _ hk => hk) trivial (Below.refl _ _) (Nat.le_refl _) (by simp) ?_; (case hd => rfl); (case hg => rfl); (case hr => first | (go_simp; done) | (go_simp; rfl)); (case hp => exact (Reps.c2 (show Kd.M k35 _ _ _ (⟨0, 0⟩ : S35) [.int .i64 0, .int .i64 0] from (k35_mkM _ _ _ (⟨0, 0⟩ : S35) )) (Reps.none _ _))); intro v176 w12 ho13 hb hg_ hnew_; clear hg_ hnew_; (first | rw [← Ny175.out] at ho13 | (simp only [Int.reduceToNat] at ho13; rw [← Ny175.out] at ho13)); replace HO174 := ak (Kd.N_elder' (by (with_reducible repeat (first | apply Kd.N_alloc | apply Kd.N_drewN | apply Kd.N_drew)); exact HO174.out) (Kd.R_base ho13) hb); have HO177 := ak (Kd.R_lower (Kd.R_newM (M := fun k_ => (w.heap.size ≤ k_)) ho13 (below_size (bl1 HB GE171)) (fun k_ h_ => h_)) (below_size (bl1 HB GE171))); replace BK171 := ak (blk_below (bk BK171) hb); replace HB := ak (below_step (bl1 HB GE171) hb); clear hb ho13; have p7 : 0 ≤ (a1 : Int) := oT (by first | (with_reducible assumption) | assumption); have q7 : (a1 : Int) < ((y172.length : Int) : Int) := oT (by first | (with_reducible assumption) | assumption); obtain ⟨go7, co7, eo7, gb7, gl7, cl7, HG7⟩ := Kd.N_form HO174.out (by omega); (first | cases eo7 | (injection eo7 with ea_ en_ ec_; (first | subst ea_ | (injection ea_ with ea_; subst ea_)); subst ec_; clear en_)); have GB7 := ak gb7; have GG7 := ak HG7; clear gb7 gl7 HG7; obtain ⟨ce7, hcl7, hM7, hcc7, hfr7⟩ := Kd.N_elem HO174.out [] (a1 : Int) p7 q7; obtain ⟨ua7_0, uc7_0, rfl, ul7_0, ge7_0⟩ := Kd.FK_slice_open hM7; have hx7_0 := hcc7 0 _ rfl; have hf7_0 := hfr7 0; (try simp only [show ((Kd.slice 35 k35)).sz = 1 from rfl, Nat.mul_one, Nat.add_zero] at hx7_0); (try simp only [show ((Kd.slice 35 k35)).sz = 1 from rfl, Nat.mul_one, Nat.add_zero] at hf7_0); clear hcl7 hcc7 hfr7 hM7; replace p7 := eq_true p7; replace q7 := eq_true q7; have n_ := ak (Kd.N_mono (ok' := (fun k_ => (w.heap.size ≤ k_) ∧ some k_ ≠ (v176 : Value).ownBlock ∧ k_ ≠ gb171)) HO174.out (fun k_ hk => ⟨hk.1.1, ⟨hk.2, hk.1.2⟩⟩)); clear HO174; have HO174 := n_; clear n_; have HX14 := ak (show Kd.N (Kd.slice 35 k35) 30 w12 w.heap.size (fun k_ => (w.heap.size ≤ k_) ∧ k_ ≠ gb171) (.slice (some ⟨go7, 0, none⟩) y172.length co7) y172 from (by (with_reducible repeat (first | apply Kd.N_alloc | apply Kd.N_drewN | apply Kd.N_drew)); exact Kd.N_mono HO174.out (fun _ hk => ⟨hk.1, hk.2.2⟩))); obtain ⟨ce14, hcl14, hM14, hcc14, hfr14⟩ := Kd.N_elem HX14.out [] (a1 : Int) (oT (by first | (with_reducible assumption) | assumption)) (by have h_ : (a1 : Int) < ((y172.length : Int) : Int) := oT (by first | (with_reducible assumption) | assumption); first | exact h_ | (have e_ := (Kd.N_reads' HO174.out).1; omega) | simpa using h_); obtain ⟨ua14_0, uc14_0, rfl, ul14_0, ge14_0⟩ := Kd.FK_slice_open hM14; have HP14 := Kd.N_seg HX14.out (a1 : Int) (oT (by first | (with_reducible assumption) | assumption)) (by have h_ : (a1 : Int) < ((y172.length : Int) : Int) := oT (by first | (with_reducible assumption) | assumption); first | exact h_ | (have e_ := (Kd.N_reads' HO174.out).1; omega) | simpa using h_) (seg := [v176]) (j := 0) hcl14 hcc14 (show 1 ≤ 1 from by decide) (x' := y175) (Kd.FK_row (Kd.R_mono (ok' := (fun k_ => ((fun k_ => (w.heap.size ≤ k_) ∧ k_ ≠ gb171)) k_ ∧ k_ ≠ go7)) (Kd.R_types (Kd.R_apart' (HO177.out) (Kd.N_typed HO174.out) (by decide)) BK171.out (by decide)) (fun k_ hk => ⟨⟨hk.1.1.1, hk.2⟩, fun e_ => (hk.1.2) (by rw [e_]; rfl)⟩))) (fun _ hk => hk); have hx14_0 := hcc14 0 _ rfl; (try simp only [show ((Kd.slice 35 k35)).sz = 1 from rfl, Nat.mul_one, Nat.add_zero] at hx14_0); have hf14_0 := hfr14 0; (try simp only [show ((Kd.slice 35 k35)).sz = 1 from rfl, Nat.mul_one, Nat.add_zero] at hf14_0); clear hcl14 hcc14 hfr14 hM14; (try simp only [show ((Kd.slice 35 k35)).sz = 1 from rfl, Nat.mul_one, Nat.add_zero] at HP14); (try simp only [show ((Kd.slice 35 k35)).sz = 1 from rfl, Nat.mul_one, Nat.add_zero] at HP14)) | ((with_reducible refine gate_store (t := 30) (p := 17) rfl ?_); refine store_event (t := 30) (p := 17) (v := ?vo_w15) (w1 := (w12.setCell ⟨go7, (a1 : Int).toNat, none⟩ (v176))) ?hg ?ho ?hn ?hr ?_; (case ho => rfl); (case hg => rfl); (case hn => rfl); (case hr => first | (go_simp; done) | (go_simp; rfl) | (obtain ⟨_, _, rfl, _⟩ := Kd.R_reads HO177.out; first | (go_simp; done) | (go_simp; rfl))); intro w15 hw; have hg : w12.grownBy w15 (some go7) := (by rw [hw]; exact HP14.2); have hp_ : Kd.N (Kd.slice 35 k35) 30 w15 w.heap.size (fun k_ => (w.heap.size ≤ k_) ∧ k_ ≠ gb171) (.slice (some ⟨go7, 0, none⟩) y172.length co7) y178 := (by rw [hw, Ny178.out]; exact HP14.1); clear HP14; have n0_ := ak (blk_grown (bk BK171) hg (Kd.N_ne HO174.out BK171.out (by decide))); have n1_ := ak (hp_); have n2_ := ak ((by rw [hw]; exact below_set (HB.out) GB7.out : Below w.heap.size w w15)); clear BK171; clear HO174; clear HB; clear HO177; have BK171 := n0_; have HO174 := n1_; have HB := n2_; clear n0_ n1_ n2_; clear hg hw hp_))
 go_loopg [6] k (fun kq v6 w' => ∃ (x5_1 : List (List (S35))) (x6_1 : Int), v6 = .int .i64 x6_1 ∧ Aside0 (spec_l19All.l0 kq x5_1 x6_1 a0_0 l0_1 = some r) ∧ Aside0 (kq ≤ k) ∧ Aside0 (Kd.N (Kd.slice 35 k35) 30 w' w.heap.size (fun k_ => (w.heap.size ≤ k_) ∧ k_ ≠ gb171) (.slice (some ⟨go7, 0, none⟩) y172.length co7) x5_1) ∧ Aside0 (w'.heap[gb171]? = some (.cells #[.int .i64 a0_0, (.slice A0_1 l0_1.length c0_1)] 25 (0, 0))) ∧ Aside0 (Below w.heap.size w w'))
 case atStart => exact ⟨(y178), (0), (by first | rfl | (simp; done) | (simp [*]; done)), H', ⟨Nat.le_refl _⟩, ⟨by (with_reducible repeat (first | apply Kd.N_alloc | apply Kd.N_drewN | apply Kd.N_drew)); exact HO174.out⟩, ⟨bk BK171⟩, ⟨bl1 HB GE171⟩⟩
 clear H'
 try clear c1
 try clear hx1
 try clear c2
 try clear p2
 try clear c3
 try clear c3b0
 try clear c3b1
 try clear c4
 try clear c4b0
 try clear c4b1
 try clear c5
 try clear c5b0
 try clear c6
 try clear c6b0
 try clear c7
 try clear p7
 try clear q7
 try clear hx7
 try clear hf7
 try clear c14
 try clear hx14
 try clear hf14
 try clear hcz9_0
 try clear hcz9_1
 try clear hfz9_0
 try clear hfz9_1
 try clear hx14_0
 try clear hx7_0
 try clear p7
 try clear q7
 obtain ⟨x5_1, x6_1, rfl, HA, HK1, HO_5, BK171, HB⟩ := hrel
 have hl5_1 := (Kd.N_reads' HO_5.out).1
 rw [hl5_1] at HO_5
 (try simp only [hl5_1])
 (try simp only [hl5_1] at BK171)
 cases gk with
 | zero => exact absurd HA.out (by simp [spec_l19All.l0])
 | succ k1 =>
  have H := HA.out
  clear HA
  simp only [spec_l19All.l0] at H
  by_cases c16 : x6_1 < a0_0
  rotate_left
  ·rw [if_neg c16] at H
   have c16b0 : decide (x6_1 < a0_0) = false := decide_eq_false c16
   clear c16
   obtain rfl := Option.some.inj H
   have hcz40_0 := bc wr BK171 0 (.int .i64 a0_0) rfl
   have hcz40_1 := bc wr BK171 1 (.slice A0_1 l0_1.length c0_1) rfl
   have hfz40_0 := fz BK171 0
   have hfz40_1 := fz BK171 1
   go_wp2
   go_ret
   exact ⟨_, by first | rfl | (simp [errW_none, errW_some] <;> rfl) | (simp [*, errW_none, errW_some] <;> rfl), by (with_reducible repeat (first | apply Kd.N_alloc | apply Kd.N_drewN | apply Kd.N_drew)); exact Kd.N_mono HO_5.out (fun _ hk => hk.1), bl1 HB GE171⟩
  rw [if_pos c16] at H
  have c16b0 : decide (x6_1 < a0_0) = true := decide_eq_true c16
  clear c16
  have H' := ak H
  clear H
  have hcz17_0 := bc wr BK171 0 (.int .i64 a0_0) rfl
  have hcz17_1 := bc wr BK171 1 (.slice A0_1 l0_1.length c0_1) rfl
  have hfz17_0 := fz BK171 0
  have hfz17_1 := fz BK171 1
  go_wp2
  go_loopg [7] k1 (fun kq v7 w' => ∃ (x5_2 : List (List (S35))) (x7_2 : Int), v7 = .int .i64 x7_2 ∧ Aside0 (spec_l19All.l1 kq x5_2 x6_1 x7_2 a0_0 l0_1 = some r) ∧ Aside0 (kq ≤ k1) ∧ Aside0 (Kd.N (Kd.slice 35 k35) 30 w' w.heap.size (fun k_ => (w.heap.size ≤ k_) ∧ k_ ≠ gb171) (.slice (some ⟨go7, 0, none⟩) x5_1.length co7) x5_2) ∧ Aside0 (w'.heap[gb171]? = some (.cells #[.int .i64 a0_0, (.slice A0_1 l0_1.length c0_1)] 25 (0, 0))) ∧ Aside0 (Below w.heap.size w w'))
  case atStart => exact ⟨(x5_1), (0), (by first | rfl | (simp; done) | (simp [*]; done)), H', ⟨Nat.le_refl _⟩, ⟨by (try simp only [hl5_1]); (with_reducible repeat (first | apply Kd.N_alloc | apply Kd.N_drewN | apply Kd.N_drew)); exact HO_5.out⟩, ⟨by (try simp only [hl5_1]); (with_reducible repeat (first | refine blk_drewN ?_ _ | refine blk_drew ?_ | refine blk_alloc ?_ _)); exact BK171.out⟩, ⟨bl1 HB GE171⟩⟩
  clear H'
  try clear c1
  try clear hx1
  try clear c2
  try clear p2
  try clear c3
  try clear c3b0
  try clear c3b1
  try clear c4
  try clear c4b0
  try clear c4b1
  try clear c5
  try clear c5b0
  try clear c6
  try clear c6b0
  try clear c7
  try clear p7
  try clear q7
  try clear hx7
  try clear hf7
  try clear c14
  try clear hx14
  try clear hf14
  try clear c16
  try clear c16b0
  try clear hcz17_0
  try clear hcz17_1
  try clear hcz9_0
  try clear hcz9_1
  try clear hfz17_0
  try clear hfz17_1
  try clear hfz9_0
  try clear hfz9_1
  try clear hx14_0
  try clear hx7_0
  try clear p2
  try clear p7
  try clear q7
  obtain ⟨x5_2, x7_2, rfl, HA, HK2, HO_5, BK171, HB⟩ := hrel
  have hl5_2 := (Kd.N_reads' HO_5.out).1
  rw [hl5_2] at HO_5
  (try simp only [hl5_2])
  (try simp only [hl5_2] at BK171)
  cases gk with
  | zero => exact absurd HA.out (by simp [spec_l19All.l1])
  | succ k2 =>
   have H := HA.out
   clear HA
   simp only [spec_l19All.l1] at H
   by_cases c18 : x7_2 < (l0_1.length : Int)
   rotate_left
   ·rw [if_neg c18] at H
    have c18b0 : decide (x7_2 < (l0_1.length : Int)) = false := decide_eq_false c18
    clear c18
    have H' := ak H
    clear H
    have hcz39_0 := bc wr BK171 0 (.int .i64 a0_0) rfl
    have hcz39_1 := bc wr BK171 1 (.slice A0_1 l0_1.length c0_1) rfl
    have hfz39_0 := fz BK171 0
    have hfz39_1 := fz BK171 1
    go_wp2
    (try simp only [← hl5_1, ← hl5_2])
    go_roundg k2
    case measure => have := HK1.out; have := HK2.out; omega
    case rel => exact ⟨(x5_2), (wrap64 (x6_1 + 1)), (by first | rfl | (simp; done) | (simp [*]; done)), H', ⟨by have := HK1.out; have := HK2.out; omega⟩, ⟨by (try simp only [hl5_1]); (try simp only [hl5_2]); (with_reducible repeat (first | apply Kd.N_alloc | apply Kd.N_drewN | apply Kd.N_drew)); exact HO_5.out⟩, ⟨by (try simp only [hl5_1]); (try simp only [hl5_2]); (with_reducible repeat (first | refine blk_drewN ?_ _ | refine blk_drew ?_ | refine blk_alloc ?_ _)); exact BK171.out⟩, ⟨bl1 HB GE171⟩⟩
   rw [if_pos c18] at H
   have c18b0 : decide (x7_2 < (l0_1.length : Int)) = true := decide_eq_true c18
   clear c18
   by_cases c19 : 0 ≤ x7_2
   rotate_left
   ·rw [if_neg c19] at H
    exact absurd H (by simp)
   rw [if_pos c19] at H
   have c19b0 : decide (0 ≤ x7_2) = true := decide_eq_true c19
   clear c19
   have H' := ak H
   clear H
   have hcz20_0 := bc wr BK171 0 (.int .i64 a0_0) rfl
   have hcz20_1 := bc wr BK171 1 (.slice A0_1 l0_1.length c0_1) rfl
   have hfz20_0 := fz BK171 0
   have hfz20_1 := fz BK171 1
   have p179 : 0 ≤ (x7_2 : Int) := oT (by first | (with_reducible assumption) | assumption)
   have q179 : x7_2 < (l0_1.length : Int) := oT (by first | (with_reducible assumption) | assumption)
   obtain ⟨ad179, e179, hx179_0, hx179_1, hx179_2, hx179_3, hx179_4⟩ := at_T33 HR0_1.out x7_2 p179 q179
   cases e179
   replace hx179_0 := hcb HB.out hx179_0
   replace hx179_1 := hcb HB.out hx179_1
   replace hx179_2 := hcb HB.out hx179_2
   replace hx179_3 := hcb HB.out hx179_3
   replace hx179_4 := hcb HB.out hx179_4
   replace p179 := eq_true p179
   replace q179 := eq_true q179
   go_wp2_with (first | ((with_reducible refine gate_dst (N := 8) rfl ?_); refine box_event ?hg (N := 8) ?hd (cs := #[.int .i64 0, .int .i64 0, .int .i64 0, .int .i64 0, .int .i64 0]) (t := 33) ?hr ?_; (case hd => rfl); (case hg => rfl); (case hr => first | (go_simp; done) | (go_simp; rfl)); intro gb180 hg w21 hbox hb; replace HO_5 := ak (Kd.N_below (Kd.N_elderB (by (with_reducible repeat (first | apply Kd.N_alloc | apply Kd.N_drewN | apply Kd.N_drew)); exact HO_5.out) gb180 (Nat.le_of_eq hg.symm)) hb); have BK180 := ak (hbox); have GW180 := ak ((by rw [hg]; exact (below_size (bl1 HB GE171)) : w.heap.size ≤ gb180)); have GE180 := ak ((by rw [hg]; exact (below_size (bl1 HB GE171)) : w.heap.size ≤ gb180)); replace HB := ak (below_step (bl1 HB GE171) hb); have NB171_180 := ak ((by rw [hg]; exact Nat.ne_of_lt (blk_lt (bk BK171)) : gb171 ≠ gb180)); have NB180_171 := ak ((by rw [hg]; exact Nat.ne_of_gt (blk_lt (bk BK171)) : gb180 ≠ gb171)); replace BK171 := ak (blk_below (bk BK171) hb); clear hb hbox hg; have hnb22 := NB180_171.out; have hnc22 := NB171_180.out; have hcz23_0 := bc w21 BK180 0 (.int .i64 0) rfl; have hcz23_1 := bc w21 BK180 1 (.int .i64 0) rfl; have hcz23_2 := bc w21 BK180 2 (.int .i64 0) rfl; have hcz23_3 := bc w21 BK180 3 (.int .i64 0) rfl; have hcz23_4 := bc w21 BK180 4 (.int .i64 0) rfl; have hfz23_0 := fz BK180 0; have hfz23_1 := fz BK180 1; have hfz23_2 := fz BK180 2; have hfz23_3 := fz BK180 3; have hfz23_4 := fz BK180 4))
   go_loopg [9] k2 (fun kq v9 w' => ∃ (x5_3 : List (List (S35))) (x9_3 : Int), v9 = .int .i64 x9_3 ∧ Aside0 (spec_l19All.l2 kq x5_3 x6_1 x7_2 x9_3 a0_0 l0_1 ((rd_T33 l0_1 x7_2).f0) ((rd_T33 l0_1 x7_2).f1) ((rd_T33 l0_1 x7_2).f2) ((rd_T33 l0_1 x7_2).f3) ((rd_T33 l0_1 x7_2).f4) = some r) ∧ Aside0 (kq ≤ k2) ∧ Aside0 (Kd.N (Kd.slice 35 k35) 30 w' w.heap.size (fun k_ => (w.heap.size ≤ k_) ∧ k_ ≠ gb171 ∧ k_ ≠ gb180) (.slice (some ⟨go7, 0, none⟩) x5_2.length co7) x5_3) ∧ Aside0 (w'.heap[gb171]? = some (.cells #[.int .i64 a0_0, (.slice (some ad179) l0_1.length c0_1)] 25 (0, 0))) ∧ Aside0 (w'.heap[gb180]? = some (.cells #[.int .i64 ((rd_T33 l0_1 x7_2).f0), .int .i64 ((rd_T33 l0_1 x7_2).f1), .int .i64 ((rd_T33 l0_1 x7_2).f2), .int .i64 ((rd_T33 l0_1 x7_2).f3), .int .i64 ((rd_T33 l0_1 x7_2).f4)] 33 (0, 0))) ∧ Aside0 (Below w.heap.size w w'))
   case atStart => exact ⟨(x5_2), (0), (by first | rfl | (simp; done) | (simp [*]; done)), H', ⟨Nat.le_refl _⟩, ⟨by (try simp only [hl5_1]); (try simp only [hl5_2]); (with_reducible repeat (first | apply Kd.N_alloc | apply Kd.N_drewN | apply Kd.N_drew)); exact Kd.N_mono (Kd.N_far (p := ⟨gb180, 4, none⟩) (Kd.N_far (p := ⟨gb180, 3, none⟩) (Kd.N_far (p := ⟨gb180, 2, none⟩) (Kd.N_far (p := ⟨gb180, 1, none⟩) (Kd.N_far (p := ⟨gb180, 0, none⟩) (Kd.N_mono HO_5.out (fun k_ hk => (⟨hk, hk.2⟩ : _ ∧ k_ ≠ gb180))) (fun _ hk => hk.2) (.int .i64 ((rd_T33 l0_1 x7_2).f0))) (fun _ hk => hk.2) (.int .i64 ((rd_T33 l0_1 x7_2).f1))) (fun _ hk => hk.2) (.int .i64 ((rd_T33 l0_1 x7_2).f2))) (fun _ hk => hk.2) (.int .i64 ((rd_T33 l0_1 x7_2).f3))) (fun _ hk => hk.2) (.int .i64 ((rd_T33 l0_1 x7_2).f4))) (fun _ hk => ⟨hk.1.1.1, ⟨hk.1.1.2, hk.1.2⟩⟩)⟩, ⟨by (try simp only [hl5_1]); (try simp only [hl5_2]); (with_reducible repeat (first | refine blk_drewN ?_ _ | refine blk_drew ?_ | refine blk_alloc ?_ _)); refine blk_far ?_ NB171_180.out _; refine blk_far ?_ NB171_180.out _; refine blk_far ?_ NB171_180.out _; refine blk_far ?_ NB171_180.out _; refine blk_far ?_ NB171_180.out _; (with_reducible repeat (first | refine blk_drewN ?_ _ | refine blk_drew ?_ | refine blk_alloc ?_ _)); exact BK171.out⟩, ⟨by (try simp only [hl5_1]); (try simp only [hl5_2]); (with_reducible repeat (first | refine blk_drewN ?_ _ | refine blk_drew ?_ | refine blk_alloc ?_ _)); refine blk_put (cs := #[.int .i64 ((rd_T33 l0_1 x7_2).f0), .int .i64 ((rd_T33 l0_1 x7_2).f1), .int .i64 ((rd_T33 l0_1 x7_2).f2), .int .i64 ((rd_T33 l0_1 x7_2).f3), .int .i64 0]) ?_ 4 _ rfl; refine blk_put (cs := #[.int .i64 ((rd_T33 l0_1 x7_2).f0), .int .i64 ((rd_T33 l0_1 x7_2).f1), .int .i64 ((rd_T33 l0_1 x7_2).f2), .int .i64 0, .int .i64 0]) ?_ 3 _ rfl; refine blk_put (cs := #[.int .i64 ((rd_T33 l0_1 x7_2).f0), .int .i64 ((rd_T33 l0_1 x7_2).f1), .int .i64 0, .int .i64 0, .int .i64 0]) ?_ 2 _ rfl; refine blk_put (cs := #[.int .i64 ((rd_T33 l0_1 x7_2).f0), .int .i64 0, .int .i64 0, .int .i64 0, .int .i64 0]) ?_ 1 _ rfl; refine blk_put (cs := #[.int .i64 0, .int .i64 0, .int .i64 0, .int .i64 0, .int .i64 0]) ?_ 0 _ rfl; (with_reducible repeat (first | refine blk_drewN ?_ _ | refine blk_drew ?_ | refine blk_alloc ?_ _)); exact BK180.out⟩, ⟨bl2 HB GE171 GE180⟩⟩
   clear H'
   try clear c1
   try clear p1
   try clear q1
   try clear hx1
   try clear c2
   try clear p2
   try clear c3
   try clear c3b0
   try clear c3b1
   try clear c4
   try clear c4b0
   try clear c4b1
   try clear c5
   try clear c5b0
   try clear c6
   try clear c6b0
   try clear c7
   try clear p7
   try clear q7
   try clear hx7
   try clear hf7
   try clear c14
   try clear hx14
   try clear hf14
   try clear c16
   try clear c16b0
   try clear p17
   try clear q17
   try clear hx17
   try clear c18
   try clear c18b0
   try clear c19
   try clear c19b0
   try clear c22
   try clear hcz17_0
   try clear hcz17_1
   try clear hcz20_0
   try clear hcz20_1
   try clear hcz23_0
   try clear hcz23_1
   try clear hcz23_2
   try clear hcz23_3
   try clear hcz23_4
   try clear hcz9_0
   try clear hcz9_1
   try clear hfz17_0
   try clear hfz17_1
   try clear hfz20_0
   try clear hfz20_1
   try clear hfz23_0
   try clear hfz23_1
   try clear hfz23_2
   try clear hfz23_3
   try clear hfz23_4
   try clear hfz9_0
   try clear hfz9_1
   try clear hx14_0
   try clear hx179_0
   try clear hx179_1
   try clear hx179_2
   try clear hx179_3
   try clear hx179_4
   try clear hx7_0
   try clear p179
   try clear p2
   try clear p7
   try clear q179
   try clear q7
   obtain ⟨x5_3, x9_3, rfl, HA, HK3, HO_5, BK171, BK180, HB⟩ := hrel
   have hl5_3 := (Kd.N_reads' HO_5.out).1
   rw [hl5_3] at HO_5
   (try simp only [hl5_3])
   (try simp only [hl5_3] at BK171)
   (try simp only [hl5_3] at BK180)
   cases gk with
   | zero => exact absurd HA.out (by simp [spec_l19All.l2])
   | succ k3 =>
    have H := HA.out
    clear HA
    simp only [spec_l19All.l2] at H
    by_cases c24 : 0 ≤ ((rd_T33 l0_1 x7_2).f0)
    rotate_left
    ·rw [if_neg c24] at H
     exact absurd H (by simp)
    rw [if_pos c24] at H
    have c24b0 : decide (0 ≤ ((rd_T33 l0_1 x7_2).f0)) = true := decide_eq_true c24
    clear c24
    by_cases c25 : ((rd_T33 l0_1 x7_2).f0) < (x5_3.length : Int)
    rotate_left
    ·rw [if_neg c25] at H
     exact absurd H (by simp)
    rw [if_pos c25] at H
    have c25b0 : decide (((rd_T33 l0_1 x7_2).f0) < (x5_3.length : Int)) = true := decide_eq_true c25
    clear c25
    by_cases c26 : x9_3 < ((rd_L3 x5_3 ((rd_T33 l0_1 x7_2).f0)).length : Int)
    rotate_left
    ·rw [if_neg c26] at H
     have c26b0 : decide (x9_3 < ((rd_L3 x5_3 ((rd_T33 l0_1 x7_2).f0)).length : Int)) = false := decide_eq_false c26
     clear c26
     have H' := ak H
     clear H
     have hnb37 := NB180_171.out
     have hnc37 := NB171_180.out
     have hcz38_0 := bc wr BK180 0 (.int .i64 ((rd_T33 l0_1 x7_2).f0)) rfl
     have hcz38_1 := bc wr BK180 1 (.int .i64 ((rd_T33 l0_1 x7_2).f1)) rfl
     have hcz38_2 := bc wr BK180 2 (.int .i64 ((rd_T33 l0_1 x7_2).f2)) rfl
     have hcz38_3 := bc wr BK180 3 (.int .i64 ((rd_T33 l0_1 x7_2).f3)) rfl
     have hcz38_4 := bc wr BK180 4 (.int .i64 ((rd_T33 l0_1 x7_2).f4)) rfl
     have hfz38_0 := fz BK180 0
     have hfz38_1 := fz BK180 1
     have hfz38_2 := fz BK180 2
     have hfz38_3 := fz BK180 3
     have hfz38_4 := fz BK180 4
     have p181 : 0 ≤ (((rd_T33 l0_1 x7_2).f0) : Int) := oT (by first | (with_reducible assumption) | assumption)
     have q181 : ((rd_T33 l0_1 x7_2).f0) < (x5_3.length : Int) := oT (by first | (with_reducible assumption) | assumption)
     obtain ⟨ad181, A181_0, c181_0, e181, hx181_0, hl181_0, hi181_0⟩ := at_L3 (Kd.N_reads' HO_5.out).2.2 ((rd_T33 l0_1 x7_2).f0) p181 q181
     obtain rfl : (⟨go7, 0, none⟩ : Addr) = ad181 := (by injection e181)
     obtain ⟨ce181, hce181, hMe181, hcc181⟩ := Kd.N_get HO_5.out [] ((rd_T33 l0_1 x7_2).f0) p181 (by first | exact q181 | exact oT (by first | (with_reducible assumption) | assumption) | (have e_ := (Kd.N_reads' HO_5.out).1; omega))
     obtain ⟨ua181_0, uc181_0, rfl, ul181_0, ge181_0⟩ := Kd.FK_slice_open hMe181
     have hv181_0 := hcc181 0 _ rfl
     rw [Nat.add_zero, show ((Kd.slice 35 k35)).sz = 1 from rfl, Nat.mul_one] at hv181_0
     replace hv181_0 := Option.some.inj (hv181_0.symm.trans hx181_0)
     injection hv181_0 with hva_ hvn_ hvc_
     rw [hva_] at ge181_0
     rw [hvc_] at ul181_0
     have HL181_0 := ak (show Kd.V k35 35 _ w.heap.size _ _ (rd_L3 x5_3 ((rd_T33 l0_1 x7_2).f0)) from Kd.V_mk ul181_0 ge181_0)
     clear hva_ hvn_ hvc_ ge181_0 ul181_0
     clear hcc181 hce181
     (first | simp only [add_plain] at hx181_0 | simp only [add_at] at hx181_0 | simp only [Addr.add, Nat.zero_add] at hx181_0 | skip)
     have HR181_0 := ak hi181_0
     have HC181_0 := ak hl181_0
     clear hi181_0 hl181_0
     replace p181 := eq_true p181
     replace q181 := eq_true q181
     go_wp2
     (try simp only [← hl5_2, ← hl5_3])
     go_roundg k3
     case measure => have := HK1.out; have := HK2.out; have := HK3.out; omega
     case rel => exact ⟨(x5_3), (wrap64 (x7_2 + 1)), (by first | rfl | (simp; done) | (simp [*]; done)), H', ⟨by have := HK1.out; have := HK2.out; have := HK3.out; omega⟩, ⟨by (try simp only [hl5_1]); (try simp only [hl5_2]); (try simp only [hl5_3]); (with_reducible repeat (first | apply Kd.N_alloc | apply Kd.N_drewN | apply Kd.N_drew)); exact Kd.N_mono HO_5.out (fun _ hk => ⟨hk.1, hk.2.1⟩)⟩, ⟨by (try simp only [hl5_1]); (try simp only [hl5_2]); (try simp only [hl5_3]); (with_reducible repeat (first | refine blk_drewN ?_ _ | refine blk_drew ?_ | refine blk_alloc ?_ _)); exact BK171.out⟩, ⟨bl2 HB GE171 GE180⟩⟩
    rw [if_pos c26] at H
    have c26b0 : decide (x9_3 < ((rd_L3 x5_3 ((rd_T33 l0_1 x7_2).f0)).length : Int)) = true := decide_eq_true c26
    clear c26
    by_cases c27 : 0 ≤ ((rd_T33 l0_1 x7_2).f1)
    rotate_left
    ·rw [if_neg c27] at H
     exact absurd H (by simp)
    rw [if_pos c27] at H
    have c27b0 : decide (0 ≤ ((rd_T33 l0_1 x7_2).f1)) = true := decide_eq_true c27
    clear c27
    by_cases c28 : ((rd_T33 l0_1 x7_2).f1) < (x5_3.length : Int)
    rotate_left
    ·rw [if_neg c28] at H
     exact absurd H (by simp)
    rw [if_pos c28] at H
    have c28b0 : decide (((rd_T33 l0_1 x7_2).f1) < (x5_3.length : Int)) = true := decide_eq_true c28
    clear c28
    by_cases c29 : 0 ≤ x9_3
    rotate_left
    ·rw [if_neg c29] at H
     exact absurd H (by simp)
    rw [if_pos c29] at H
    have c29b0 : decide (0 ≤ x9_3) = true := decide_eq_true c29
    clear c29
    replace H := Option.bind_eq_some_iff.mp H
    obtain ⟨t187, A300, H⟩ := H
    have A30 := ak A300
    clear A300
    obtain ⟨y190, hy190⟩ : ∃ y_ : List (List (S35)), y_ = (x5_3.set (((rd_T33 l0_1 x7_2).f1) : Int).toNat t187) := ⟨_, rfl⟩
    replace H : (spec_l19All.l2 k3 y190 x6_1 x7_2 (wrap64 (x9_3 + 1)) a0_0 l0_1 ((rd_T33 l0_1 x7_2).f0) ((rd_T33 l0_1 x7_2).f1) ((rd_T33 l0_1 x7_2).f2) ((rd_T33 l0_1 x7_2).f3) ((rd_T33 l0_1 x7_2).f4)) = some r := by first | (rw [hy190]; with_reducible exact H) | (have H2_ := (Option.bind_some _ _).symm.trans H; rw [hy190]; with_reducible exact H2_) | (have H2_ := (Option.bind_some _ _).symm.trans H; with_reducible exact H2_) | with_reducible exact H | (rw [hy190]; exact H) | exact H
    have Ny190 := ak hy190
    clear hy190
    have H' := ak H
    clear H
    have hnb32 := NB180_171.out
    have hnc32 := NB171_180.out
    have hcz33_0 := bc wr BK180 0 (.int .i64 ((rd_T33 l0_1 x7_2).f0)) rfl
    have hcz33_1 := bc wr BK180 1 (.int .i64 ((rd_T33 l0_1 x7_2).f1)) rfl
    have hcz33_2 := bc wr BK180 2 (.int .i64 ((rd_T33 l0_1 x7_2).f2)) rfl
    have hcz33_3 := bc wr BK180 3 (.int .i64 ((rd_T33 l0_1 x7_2).f3)) rfl
    have hcz33_4 := bc wr BK180 4 (.int .i64 ((rd_T33 l0_1 x7_2).f4)) rfl
    have hfz33_0 := fz BK180 0
    have hfz33_1 := fz BK180 1
    have hfz33_2 := fz BK180 2
    have hfz33_3 := fz BK180 3
    have hfz33_4 := fz BK180 4
    have p181 : 0 ≤ (((rd_T33 l0_1 x7_2).f0) : Int) := oT (by first | (with_reducible assumption) | assumption)
    have q181 : ((rd_T33 l0_1 x7_2).f0) < (x5_3.length : Int) := oT (by first | (with_reducible assumption) | assumption)
    obtain ⟨ad181, A181_0, c181_0, e181, hx181_0, hl181_0, hi181_0⟩ := at_L3 (Kd.N_reads' HO_5.out).2.2 ((rd_T33 l0_1 x7_2).f0) p181 q181
    obtain rfl : (⟨go7, 0, none⟩ : Addr) = ad181 := (by injection e181)
    obtain ⟨ce181, hce181, hMe181, hcc181⟩ := Kd.N_get HO_5.out [] ((rd_T33 l0_1 x7_2).f0) p181 (by first | exact q181 | exact oT (by first | (with_reducible assumption) | assumption) | (have e_ := (Kd.N_reads' HO_5.out).1; omega))
    obtain ⟨ua181_0, uc181_0, rfl, ul181_0, ge181_0⟩ := Kd.FK_slice_open hMe181
    have hv181_0 := hcc181 0 _ rfl
    rw [Nat.add_zero, show ((Kd.slice 35 k35)).sz = 1 from rfl, Nat.mul_one] at hv181_0
    replace hv181_0 := Option.some.inj (hv181_0.symm.trans hx181_0)
    injection hv181_0 with hva_ hvn_ hvc_
    rw [hva_] at ge181_0
    rw [hvc_] at ul181_0
    have HL181_0 := ak (show Kd.V k35 35 _ w.heap.size _ _ (rd_L3 x5_3 ((rd_T33 l0_1 x7_2).f0)) from Kd.V_mk ul181_0 ge181_0)
    clear hva_ hvn_ hvc_ ge181_0 ul181_0
    clear hcc181 hce181
    (first | simp only [add_plain] at hx181_0 | simp only [add_at] at hx181_0 | simp only [Addr.add, Nat.zero_add] at hx181_0 | skip)
    have HR181_0 := ak hi181_0
    have HC181_0 := ak hl181_0
    clear hi181_0 hl181_0
    replace p181 := eq_true p181
    replace q181 := eq_true q181
    try go_wp2
    replace HO_5 := ak (Kd.N_drew HO_5.out)
    replace HL181_0 := ak (Kd.V_drew HL181_0.out)
    replace BK171 := ak (blk_drew BK171.out)
    replace BK180 := ak (blk_drew BK180.out)
    replace HR181_0 := ak (Kd.C_drew HR181_0.out)
    replace HB := ak (below_drew1 HB.out)
    have p182 : 0 ≤ (((rd_T33 l0_1 x7_2).f1) : Int) := oT (by first | (with_reducible assumption) | assumption)
    have q182 : ((rd_T33 l0_1 x7_2).f1) < (x5_3.length : Int) := oT (by first | (with_reducible assumption) | assumption)
    obtain ⟨ad182, A182_0, c182_0, e182, hx182_0, hl182_0, hi182_0⟩ := at_L3 (Kd.N_reads' HO_5.out).2.2 ((rd_T33 l0_1 x7_2).f1) p182 q182
    obtain rfl : (⟨go7, 0, none⟩ : Addr) = ad182 := (by injection e182)
    obtain ⟨ce182, hce182, hMe182, hcc182⟩ := Kd.N_get HO_5.out [] ((rd_T33 l0_1 x7_2).f1) p182 (by first | exact q182 | exact oT (by first | (with_reducible assumption) | assumption) | (have e_ := (Kd.N_reads' HO_5.out).1; omega))
    obtain ⟨ua182_0, uc182_0, rfl, ul182_0, ge182_0⟩ := Kd.FK_slice_open hMe182
    have hv182_0 := hcc182 0 _ rfl
    rw [Nat.add_zero, show ((Kd.slice 35 k35)).sz = 1 from rfl, Nat.mul_one] at hv182_0
    replace hv182_0 := Option.some.inj (hv182_0.symm.trans hx182_0)
    injection hv182_0 with hva_ hvn_ hvc_
    rw [hva_] at ge182_0
    rw [hvc_] at ul182_0
    have HL182_0 := ak (show Kd.V k35 35 _ w.heap.size _ _ (rd_L3 x5_3 ((rd_T33 l0_1 x7_2).f1)) from Kd.V_mk ul182_0 ge182_0)
    clear hva_ hvn_ hvc_ ge182_0 ul182_0
    clear hcc182 hce182
    (first | simp only [add_plain] at hx182_0 | simp only [add_at] at hx182_0 | simp only [Addr.add, Nat.zero_add] at hx182_0 | skip)
    have HR182_0 := ak hi182_0
    have HC182_0 := ak hl182_0
    clear hi182_0 hl182_0
    replace p182 := eq_true p182
    replace q182 := eq_true q182
    have p183 : 0 ≤ (((rd_T33 l0_1 x7_2).f0) : Int) := oT (by first | (with_reducible assumption) | assumption)
    have q183 : ((rd_T33 l0_1 x7_2).f0) < (x5_3.length : Int) := oT (by first | (with_reducible assumption) | assumption)
    obtain ⟨ad183, A183_0, c183_0, e183, hx183_0, hl183_0, hi183_0⟩ := at_L3 (Kd.N_reads' HO_5.out).2.2 ((rd_T33 l0_1 x7_2).f0) p183 q183
    obtain rfl : (⟨go7, 0, none⟩ : Addr) = ad183 := (by injection e183)
    obtain ⟨ce183, hce183, hMe183, hcc183⟩ := Kd.N_get HO_5.out [] ((rd_T33 l0_1 x7_2).f0) p183 (by first | exact q183 | exact oT (by first | (with_reducible assumption) | assumption) | (have e_ := (Kd.N_reads' HO_5.out).1; omega))
    obtain ⟨ua183_0, uc183_0, rfl, ul183_0, ge183_0⟩ := Kd.FK_slice_open hMe183
    have hv183_0 := hcc183 0 _ rfl
    rw [Nat.add_zero, show ((Kd.slice 35 k35)).sz = 1 from rfl, Nat.mul_one] at hv183_0
    replace hv183_0 := Option.some.inj (hv183_0.symm.trans hx183_0)
    injection hv183_0 with hva_ hvn_ hvc_
    rw [hva_] at ge183_0
    rw [hvc_] at ul183_0
    have HL183_0 := ak (show Kd.V k35 35 _ w.heap.size _ _ (rd_L3 x5_3 ((rd_T33 l0_1 x7_2).f0)) from Kd.V_mk ul183_0 ge183_0)
    clear hva_ hvn_ hvc_ ge183_0 ul183_0
    clear hcc183 hce183
    (first | simp only [add_plain] at hx183_0 | simp only [add_at] at hx183_0 | simp only [Addr.add, Nat.zero_add] at hx183_0 | skip)
    have HR183_0 := ak hi183_0
    have HC183_0 := ak hl183_0
    clear hi183_0 hl183_0
    replace p183 := eq_true p183
    replace q183 := eq_true q183
    have p184 : 0 ≤ (x9_3 : Int) := oT (by first | (with_reducible assumption) | assumption)
    have q184 : x9_3 < ((rd_L3 x5_3 ((rd_T33 l0_1 x7_2).f0)).length : Int) := oT (by first | (with_reducible assumption) | assumption)
    obtain ⟨ad184, e184, hx184_0, hx184_1⟩ := at_T35 (by repeat (first | (with_reducible exact HR183_0.out) | (with_reducible refine Kd.C_alloc ?_ _) | (with_reducible refine Kd.C_drewN ?_ _) | (with_reducible refine Kd.C_drew ?_) | exact HR183_0.out)) x9_3 p184 q184
    cases e184
    replace p184 := eq_true p184
    replace q184 := eq_true q184
    have p185 : 0 ≤ (((rd_T33 l0_1 x7_2).f0) : Int) := oT (by first | (with_reducible assumption) | assumption)
    have q185 : ((rd_T33 l0_1 x7_2).f0) < (x5_3.length : Int) := oT (by first | (with_reducible assumption) | assumption)
    obtain ⟨ad185, A185_0, c185_0, e185, hx185_0, hl185_0, hi185_0⟩ := at_L3 (Kd.N_reads' HO_5.out).2.2 ((rd_T33 l0_1 x7_2).f0) p185 q185
    obtain rfl : (⟨go7, 0, none⟩ : Addr) = ad185 := (by injection e185)
    obtain ⟨ce185, hce185, hMe185, hcc185⟩ := Kd.N_get HO_5.out [] ((rd_T33 l0_1 x7_2).f0) p185 (by first | exact q185 | exact oT (by first | (with_reducible assumption) | assumption) | (have e_ := (Kd.N_reads' HO_5.out).1; omega))
    obtain ⟨ua185_0, uc185_0, rfl, ul185_0, ge185_0⟩ := Kd.FK_slice_open hMe185
    have hv185_0 := hcc185 0 _ rfl
    rw [Nat.add_zero, show ((Kd.slice 35 k35)).sz = 1 from rfl, Nat.mul_one] at hv185_0
    replace hv185_0 := Option.some.inj (hv185_0.symm.trans hx185_0)
    injection hv185_0 with hva_ hvn_ hvc_
    rw [hva_] at ge185_0
    rw [hvc_] at ul185_0
    have HL185_0 := ak (show Kd.V k35 35 _ w.heap.size _ _ (rd_L3 x5_3 ((rd_T33 l0_1 x7_2).f0)) from Kd.V_mk ul185_0 ge185_0)
    clear hva_ hvn_ hvc_ ge185_0 ul185_0
    clear hcc185 hce185
    (first | simp only [add_plain] at hx185_0 | simp only [add_at] at hx185_0 | simp only [Addr.add, Nat.zero_add] at hx185_0 | skip)
    have HR185_0 := ak hi185_0
    have HC185_0 := ak hl185_0
    clear hi185_0 hl185_0
    replace p185 := eq_true p185
    replace q185 := eq_true q185
    have ea_ := Option.some.inj (hx183_0.symm.trans hx185_0)
    injection ea_ with ea_ en_ ec_
    subst ea_
    subst ec_
    clear en_
    have p186 : 0 ≤ (x9_3 : Int) := oT (by first | (with_reducible assumption) | assumption)
    have q186 : x9_3 < ((rd_L3 x5_3 ((rd_T33 l0_1 x7_2).f0)).length : Int) := oT (by first | (with_reducible assumption) | assumption)
    obtain ⟨ad186, e186, hx186_0, hx186_1⟩ := at_T35 (by repeat (first | (with_reducible exact HR185_0.out) | (with_reducible refine Kd.C_alloc ?_ _) | (with_reducible refine Kd.C_drewN ?_ _) | (with_reducible refine Kd.C_drew ?_) | exact HR185_0.out)) x9_3 p186 q186
    cases e186
    replace p186 := eq_true p186
    replace q186 := eq_true q186
    refine start_ (n := 36) (S := fun w' => w'.cell? ⟨gb180, 0, none⟩ = some (.int .i64 ((rd_T33 l0_1 x7_2).f0)) ∧ w'.cell? ⟨gb180, 1, none⟩ = some (.int .i64 ((rd_T33 l0_1 x7_2).f1)) ∧ w'.cell? ⟨gb180, 2, none⟩ = some (.int .i64 ((rd_T33 l0_1 x7_2).f2)) ∧ w'.cell? ⟨gb180, 3, none⟩ = some (.int .i64 ((rd_T33 l0_1 x7_2).f3)) ∧ w'.cell? ⟨gb180, 4, none⟩ = some (.int .i64 ((rd_T33 l0_1 x7_2).f4)) ∧ w'.cell? ⟨go7, (((rd_T33 l0_1 x7_2).f1)).toNat, none⟩ = some (.slice A182_0 (rd_L3 x5_3 ((rd_T33 l0_1 x7_2).f1)).length c182_0) ∧ w'.cell? ⟨go7, (((rd_T33 l0_1 x7_2).f0)).toNat, none⟩ = some (.slice (some ad184) (rd_L3 x5_3 ((rd_T33 l0_1 x7_2).f0)).length c183_0) ∧ w'.cell? (ad184.add ((x9_3).toNat * 2)) = some (.int .i64 ((rd_T35 (rd_L3 x5_3 ((rd_T33 l0_1 x7_2).f0)) x9_3).f0)) ∧ w'.cell? ⟨(ad184.add ((x9_3).toNat * 2)).block, (ad184.add ((x9_3).toNat * 2)).off + 1, none⟩ = some (.int .i64 ((rd_T35 (rd_L3 x5_3 ((rd_T33 l0_1 x7_2).f0)) x9_3).f1)) ∧ w'.cell? ⟨go7, (((rd_T33 l0_1 x7_2).f0)).toNat, none⟩ = some (.slice (some ad184) (rd_L3 x5_3 ((rd_T33 l0_1 x7_2).f0)).length c183_0) ∧ w'.cell? (ad184.add ((x9_3).toNat * 2)) = some (.int .i64 ((rd_T35 (rd_L3 x5_3 ((rd_T33 l0_1 x7_2).f0)) x9_3).f0)) ∧ w'.cell? ⟨(ad184.add ((x9_3).toNat * 2)).block, (ad184.add ((x9_3).toNat * 2)).off + 1, none⟩ = some (.int .i64 ((rd_T35 (rd_L3 x5_3 ((rd_T33 l0_1 x7_2).f0)) x9_3).f1))) (ds := [35]) (ms 36 0) (by kernel_rfl) rfl (by kernel_rfl) ⟨(blk_cell BK180.out 0).trans rfl, (blk_cell BK180.out 1).trans rfl, (blk_cell BK180.out 2).trans rfl, (blk_cell BK180.out 3).trans rfl, (blk_cell BK180.out 4).trans rfl, hx182_0, hx183_0, hx184_0, hx184_1, hx185_0, hx186_0, hx186_1⟩ (fun hHeld => ?_); refine with_tabW spec_l19All.tab13 spec_l19All.bits13 (fun HT_ HW_ => ?_)
    generalize wr.drew = w34 at HO_5 HL181_0 BK171 BK180 HR181_0 HB HL182_0 HL183_0 HL185_0 HR182_0 HR183_0 HR185_0 hx182_0 hx183_0 hx184_0 hx184_1 hx185_0 hx186_0 hx186_1 hHeld ⊢
    refine pu 0 46 ?_ (ms 36 1) rfl rfl HT_ (by kernel_rfl) (fun _ _ _ h => h) (by rfl) ?_ ?_ ?_ ?_
    rotate_left
    ·intro w'
     go_simp
     with_reducible rfl
    rotate_left
    ·simp only [SX]
     rfl
    refine pu 1 47 ?_ (ms 36 3) rfl rfl HT_ (by kernel_rfl) (fun _ _ _ h => h) (by rfl) ?_ ?_ ?_ ?_
    rotate_left
    ·intro w'
     go_simp
     with_reducible rfl
    rotate_left
    ·simp only [SX]
     rfl
    refine pu 3 49 ?_ (ms 36 11) rfl rfl HT_ (by kernel_rfl) (fun _ _ _ h => h) (by rfl) ?_ ?_ ?_ ?_
    rotate_left
    ·intro w'
     go_simp
     with_reducible rfl
    rotate_left
    ·simp only [SX]
     rfl
    refine pu 4 50 ?_ (ms 36 27) rfl rfl HT_ (by kernel_rfl) (fun _ _ _ h => h) (by rfl) ?_ ?_ ?_ ?_
    rotate_left
    ·intro w'
     go_simp
     with_reducible rfl
    rotate_left
    ·simp only [SX]
     rfl
    refine pu 8 54 ?_ (ms 36 283) rfl rfl HT_ (by kernel_rfl) (fun _ _ _ h => h) (by rfl) ?_ ?_ ?_ ?_
    rotate_left
    ·intro w'
     go_simp
     with_reducible rfl
    rotate_left
    ·simp only [SX]
     rfl
    refine pu 9 55 ?_ (ms 36 795) rfl rfl HT_ (by kernel_rfl) (fun _ _ _ h => h) (by rfl) ?_ ?_ ?_ ?_
    rotate_left
    ·intro w'
     go_simp
     with_reducible rfl
    rotate_left
    ·simp only [SX]
     rfl
    refine pu 13 59 ?_ (ms 36 8987) rfl rfl HT_ (by kernel_rfl) (fun _ _ _ h => h) (by rfl) ?_ ?_ ?_ ?_
    rotate_left
    ·intro w'
     go_simp
     with_reducible rfl
    rotate_left
    ·simp only [SX]
     rfl
    refine pu 17 63 ?_ (ms 36 140059) rfl rfl HT_ (by kernel_rfl) (fun _ _ _ h => h) (by rfl) ?_ ?_ ?_ ?_
    rotate_left
    ·intro w'
     go_simp
     with_reducible rfl
    rotate_left
    ·simp only [SX]
     rfl
    refine pu 20 66 ?_ (ms 36 1188635) rfl rfl HT_ (by kernel_rfl) (fun _ _ _ h => h) (by rfl) ?_ ?_ ?_ ?_
    rotate_left
    ·intro w'
     go_simp
     with_reducible rfl
    rotate_left
    ·simp only [SX]
     rfl
    refine pu 21 67 ?_ (ms 36 3285787) rfl rfl HT_ (by kernel_rfl) (fun _ _ _ h => h) (by rfl) ?_ ?_ ?_ ?_
    rotate_left
    ·intro w'
     go_simp
     with_reducible rfl
    rotate_left
    ·simp only [SX]
     rfl
    refine pu 25 71 ?_ (ms 36 36840219) rfl rfl HT_ (by kernel_rfl) (fun _ _ _ h => h) (by rfl) ?_ ?_ ?_ ?_
    rotate_left
    ·intro w'
     go_simp
     with_reducible rfl
    rotate_left
    ·simp only [SX]
     rfl
    refine pu 29 75 ?_ (ms 36 573711131) rfl rfl HT_ (by kernel_rfl) (fun _ _ _ h => h) (by rfl) ?_ ?_ ?_ ?_
    rotate_left
    ·intro w'
     go_simp
     with_reducible rfl
    rotate_left
    ·simp only [SX]
     rfl
    refine tk 2 48 ?_ (ms 36 573711135) rfl rfl HT_ HW_ (by kernel_rfl) (fun _ _ _ h => h) (by rfl) ?_ hHeld ?_ ?_ ?_
    rotate_left
    ·rintro w' ⟨s0, s1, s2, s3, s4, s5, s6, s7, s8, s9, s10, s11⟩
     go_simp
     with_reducible rfl
    rotate_left
    ·simp only [SX]
     rfl
    refine tk 5 51 ?_ (ms 36 573711167) rfl rfl HT_ HW_ (by kernel_rfl) (fun _ _ _ h => h) (by rfl) ?_ hHeld ?_ ?_ ?_
    rotate_left
    ·rintro w' ⟨s0, s1, s2, s3, s4, s5, s6, s7, s8, s9, s10, s11⟩
     go_simp
     with_reducible rfl
    rotate_left
    ·simp only [SX]
     rfl
    refine pu 6 52 ?_ (ms 36 573711231) rfl rfl HT_ (by kernel_rfl) (fun _ _ _ h => h) (by rfl) ?_ ?_ ?_ ?_
    rotate_left
    ·intro w'
     go_simp
     with_reducible rfl
    rotate_left
    ·simp only [SX]
     rfl
    refine tk 7 53 ?_ (ms 36 573711359) rfl rfl HT_ HW_ (by kernel_rfl) (fun _ _ _ h => h) (by rfl) ?_ hHeld ?_ ?_ ?_
    rotate_left
    ·rintro w' ⟨s0, s1, s2, s3, s4, s5, s6, s7, s8, s9, s10, s11⟩
     go_simp
     with_reducible rfl
    rotate_left
    ·simp only [SX]
     rfl
    refine tk 10 56 ?_ (ms 36 573712383) rfl rfl HT_ HW_ (by kernel_rfl) (fun _ _ _ h => h) (by rfl) ?_ hHeld ?_ ?_ ?_
    rotate_left
    ·rintro w' ⟨s0, s1, s2, s3, s4, s5, s6, s7, s8, s9, s10, s11⟩
     go_simp
     with_reducible rfl
    rotate_left
    ·simp only [SX]
     rfl
    refine pu 11 57 ?_ (ms 36 573714431) rfl rfl HT_ (by kernel_rfl) (fun _ _ _ h => h) (by rfl) ?_ ?_ ?_ ?_
    rotate_left
    ·intro w'
     go_simp
     with_reducible rfl
    rotate_left
    ·simp only [SX]
     rfl
    refine tk 12 58 ?_ (ms 36 573718527) rfl rfl HT_ HW_ (by kernel_rfl) (fun _ _ _ h => h) (by rfl) ?_ hHeld ?_ ?_ ?_
    rotate_left
    ·rintro w' ⟨s0, s1, s2, s3, s4, s5, s6, s7, s8, s9, s10, s11⟩
     go_simp
     with_reducible rfl
    rotate_left
    ·simp only [SX]
     rfl
    refine pu 14 60 ?_ (ms 36 573734911) rfl rfl HT_ (by kernel_rfl) (fun _ _ _ h => h) (by rfl) ?_ ?_ ?_ ?_
    rotate_left
    ·intro w'
     go_simp
     with_reducible rfl
    rotate_left
    ·simp only [SX]
     rfl
    refine pu 15 61 ?_ (ms 36 573767679) rfl rfl HT_ (by kernel_rfl) (fun _ _ _ h => h) (by rfl) ?_ ?_ ?_ ?_
    rotate_left
    ·intro w'
     go_simp
     with_reducible rfl
    rotate_left
    ·simp only [SX]
     rfl
    refine tk 16 62 ?_ (ms 36 573833215) rfl rfl HT_ HW_ (by kernel_rfl) (fun _ _ _ h => h) (by rfl) ?_ hHeld ?_ ?_ ?_
    rotate_left
    ·rintro w' ⟨s0, s1, s2, s3, s4, s5, s6, s7, s8, s9, s10, s11⟩
     go_simp
     with_reducible rfl
    rotate_left
    ·simp only [SX]
     rfl
    refine tk 18 64 ?_ (ms 36 574095359) rfl rfl HT_ HW_ (by kernel_rfl) (fun _ _ _ h => h) (by rfl) ?_ hHeld ?_ ?_ ?_
    rotate_left
    ·rintro w' ⟨s0, s1, s2, s3, s4, s5, s6, s7, s8, s9, s10, s11⟩
     go_simp
     with_reducible rfl
    rotate_left
    ·simp only [SX]
     rfl
    refine pu 19 65 ?_ (ms 36 574619647) rfl rfl HT_ (by kernel_rfl) (fun _ _ _ h => h) (by rfl) ?_ ?_ ?_ ?_
    rotate_left
    ·intro w'
     go_simp
     with_reducible rfl
    rotate_left
    ·simp only [SX]
     rfl
    refine tk 22 68 ?_ (ms 36 578813951) rfl rfl HT_ HW_ (by kernel_rfl) (fun _ _ _ h => h) (by rfl) ?_ hHeld ?_ ?_ ?_
    rotate_left
    ·rintro w' ⟨s0, s1, s2, s3, s4, s5, s6, s7, s8, s9, s10, s11⟩
     go_simp
     with_reducible rfl
    rotate_left
    ·simp only [SX]
     rfl
    refine pu 23 69 ?_ (ms 36 587202559) rfl rfl HT_ (by kernel_rfl) (fun _ _ _ h => h) (by rfl) ?_ ?_ ?_ ?_
    rotate_left
    ·intro w'
     go_simp
     with_reducible rfl
    rotate_left
    ·simp only [SX]
     rfl
    refine tk 24 70 ?_ (ms 36 603979775) rfl rfl HT_ HW_ (by kernel_rfl) (fun _ _ _ h => h) (by rfl) ?_ hHeld ?_ ?_ ?_
    rotate_left
    ·rintro w' ⟨s0, s1, s2, s3, s4, s5, s6, s7, s8, s9, s10, s11⟩
     go_simp
     with_reducible rfl
    rotate_left
    ·simp only [SX]
     rfl
    refine pu 26 72 ?_ (ms 36 671088639) rfl rfl HT_ (by kernel_rfl) (fun _ _ _ h => h) (by rfl) ?_ ?_ ?_ ?_
    rotate_left
    ·intro w'
     go_simp
     with_reducible rfl
    rotate_left
    ·simp only [SX]
     rfl
    refine pu 27 73 ?_ (ms 36 805306367) rfl rfl HT_ (by kernel_rfl) (fun _ _ _ h => h) (by rfl) ?_ ?_ ?_ ?_
    rotate_left
    ·intro w'
     go_simp
     with_reducible rfl
    rotate_left
    ·simp only [SX]
     rfl
    refine tk 28 74 ?_ (ms 36 1073741823) rfl rfl HT_ HW_ (by kernel_rfl) (fun _ _ _ h => h) (by rfl) ?_ hHeld ?_ ?_ ?_
    rotate_left
    ·rintro w' ⟨s0, s1, s2, s3, s4, s5, s6, s7, s8, s9, s10, s11⟩
     go_simp
     with_reducible rfl
    rotate_left
    ·simp only [SX]
     rfl
    refine tk 30 76 ?_ (ms 36 2147483647) rfl rfl HT_ HW_ (by kernel_rfl) (fun _ _ _ h => h) (by rfl) ?_ hHeld ?_ ?_ ?_
    rotate_left
    ·rintro w' ⟨s0, s1, s2, s3, s4, s5, s6, s7, s8, s9, s10, s11⟩
     go_simp
     with_reducible rfl
    rotate_left
    ·simp only [SX]
     rfl
    refine pu 31 77 ?_ (ms 36 4294967295) rfl rfl HT_ (by kernel_rfl) (fun _ _ _ h => h) (by rfl) ?_ ?_ ?_ ?_
    rotate_left
    ·intro w'
     go_simp
     with_reducible rfl
    rotate_left
    ·simp only [SX]
     rfl
    refine pu 32 78 ?_ (ms 36 8589934591) rfl rfl HT_ (by kernel_rfl) (fun _ _ _ h => h) (by rfl) ?_ ?_ ?_ ?_
    rotate_left
    ·intro w'
     go_simp
     with_reducible rfl
    rotate_left
    ·simp only [SX]
     rfl
    refine one_ (i := 33) (N := some 79) (ms 36 17179869183) rfl rfl (one_of HT_.out (by kernel_rfl)) (by decide) (fun K hK => ?_)
    refine goes_ Try.func72 (by kernel_rfl) rfl #[.slice A182_0 (rd_L3 x5_3 ((rd_T33 l0_1 x7_2).f1)).length c182_0, .agg #[.int .i64 (wrap64 (((rd_T35 (rd_L3 x5_3 ((rd_T33 l0_1 x7_2).f0)) x9_3).f0) + ((rd_T33 l0_1 x7_2).f2))), .int .i64 (wrap64 (((rd_T35 (rd_L3 x5_3 ((rd_T33 l0_1 x7_2).f0)) x9_3).f1) + ((rd_T33 l0_1 x7_2).f3)))]] (by rfl) rfl rfl (by (try simp only [List.map_toArray, List.map_cons, List.map_nil]); first | done | rfl | (simp only [List.length_drop, List.length_take]; rfl)) ?_
    with_reducible refine (spec_l19Put.calls k3 (fun k_ => (((w.heap.size ≤ k_) ∧ (k_ ≠ gb171 ∧ k_ ≠ gb180)) ∧ some k_ ≠ (.slice (some ⟨go7, 0, none⟩) x5_3.length co7 : Value).ownBlock)) _ _ (rd_L3 x5_3 ((rd_T33 l0_1 x7_2).f1)) (wrap64 (((rd_T35 (rd_L3 x5_3 ((rd_T33 l0_1 x7_2).f0)) x9_3).f0) + ((rd_T33 l0_1 x7_2).f2))) (wrap64 (((rd_T35 (rd_L3 x5_3 ((rd_T33 l0_1 x7_2).f0)) x9_3).f1) + ((rd_T33 l0_1 x7_2).f3))) t187 _ ?side1 A30.out).mono ?_
    (case side1 => exact HL182_0.out)
    rintro e w35 ⟨v188, rfl, ho0, hb⟩
    obtain ⟨Av_, cv_, rfl⟩ : ∃ A c, v188 = Value.slice A t187.length c := (by obtain ⟨A, c, h, _⟩ := ho0; exact ⟨A, c, h⟩)
    have HS5_ := (hb.cell (World.block_lt_of_cell? _ _ (hHeld.2.2.2.2.2.1))).trans (hHeld.2.2.2.2.2.1)
    have HS6_ := (hb.cell (World.block_lt_of_cell? _ _ (hHeld.2.2.2.2.2.2.1))).trans (hHeld.2.2.2.2.2.2.1)
    have HS7_ := (hb.cell (World.block_lt_of_cell? _ _ (hHeld.2.2.2.2.2.2.2.1))).trans (hHeld.2.2.2.2.2.2.2.1)
    have HS8_ := (hb.cell (World.block_lt_of_cell? _ _ (hHeld.2.2.2.2.2.2.2.2.1))).trans (hHeld.2.2.2.2.2.2.2.2.1)
    have HS9_ := (hb.cell (World.block_lt_of_cell? _ _ (hHeld.2.2.2.2.2.2.2.2.2.1))).trans (hHeld.2.2.2.2.2.2.2.2.2.1)
    have HS10_ := (hb.cell (World.block_lt_of_cell? _ _ (hHeld.2.2.2.2.2.2.2.2.2.2.1))).trans (hHeld.2.2.2.2.2.2.2.2.2.2.1)
    have HS11_ := (hb.cell (World.block_lt_of_cell? _ _ (hHeld.2.2.2.2.2.2.2.2.2.2.2))).trans (hHeld.2.2.2.2.2.2.2.2.2.2.2)
    refine ⟨_, rfl, ?_⟩
    replace HL181_0 := ak (Kd.V_below (by (with_reducible repeat (first | apply Kd.V_alloc | apply Kd.V_drewN | apply Kd.V_drew)); exact HL181_0.out) hb)
    replace HL182_0 := ak (Kd.V_below (by (with_reducible repeat (first | apply Kd.V_alloc | apply Kd.V_drewN | apply Kd.V_drew)); exact HL182_0.out) hb)
    replace HL183_0 := ak (Kd.V_below (by (with_reducible repeat (first | apply Kd.V_alloc | apply Kd.V_drewN | apply Kd.V_drew)); exact HL183_0.out) hb)
    replace HL185_0 := ak (Kd.V_below (by (with_reducible repeat (first | apply Kd.V_alloc | apply Kd.V_drewN | apply Kd.V_drew)); exact HL185_0.out) hb)
    have HO189 := ak (Kd.V_lower (Kd.V_mono (ok' := fun k_ => (w.heap.size ≤ k_) ∧ some k_ ≠ (.slice (some ⟨go7, 0, none⟩) x5_3.length co7 : Value).ownBlock ∧ k_ ≠ gb171 ∧ k_ ≠ gb180) ho0 (fun k_ hk_ => ⟨Or.elim hk_ (fun hs_ => hs_.1.1) (fun hn_ => (Nat.le_trans (below_size (bl2 HB GE171 GE180)) hn_)), Or.elim hk_ (fun hs_ => hs_.2) (fun hn_ => (Kd.fresh' (Kd.N_lt (by (with_reducible repeat (first | apply Kd.N_alloc | apply Kd.N_drewN | apply Kd.N_drew)); exact HO_5.out)) k_ hn_)), Or.elim hk_ (fun hs_ => hs_.1.2.1) (fun hn_ => (Kd.freshB (bk BK171) k_ hn_)), Or.elim hk_ (fun hs_ => hs_.1.2.2) (fun hn_ => (Kd.freshB (bk BK180) k_ hn_))⟩)) (below_size (bl2 HB GE171 GE180)))
    replace HO_5 := ak (Kd.N_below (by (with_reducible repeat (first | apply Kd.N_alloc | apply Kd.N_drewN | apply Kd.N_drew)); exact HO_5.out) hb)
    replace BK171 := ak (blk_below (bk BK171) hb)
    replace BK180 := ak (blk_below (bk BK180) hb)
    replace HR181_0 := ak (Kd.C_below (by repeat (first | (with_reducible exact HR181_0.out) | (with_reducible refine Kd.C_alloc ?_ _) | (with_reducible refine Kd.C_drewN ?_ _) | (with_reducible refine Kd.C_drew ?_) | exact HR181_0.out)) hb)
    replace HR182_0 := ak (Kd.C_below (by repeat (first | (with_reducible exact HR182_0.out) | (with_reducible refine Kd.C_alloc ?_ _) | (with_reducible refine Kd.C_drewN ?_ _) | (with_reducible refine Kd.C_drew ?_) | exact HR182_0.out)) hb)
    replace HR183_0 := ak (Kd.C_below (by repeat (first | (with_reducible exact HR183_0.out) | (with_reducible refine Kd.C_alloc ?_ _) | (with_reducible refine Kd.C_drewN ?_ _) | (with_reducible refine Kd.C_drew ?_) | exact HR183_0.out)) hb)
    replace HR185_0 := ak (Kd.C_below (by repeat (first | (with_reducible exact HR185_0.out) | (with_reducible refine Kd.C_alloc ?_ _) | (with_reducible refine Kd.C_drewN ?_ _) | (with_reducible refine Kd.C_drew ?_) | exact HR185_0.out)) hb)
    replace HB := ak (below_step (bl2 HB GE171 GE180) hb)
    (try clear hb)
    (try clear hb2)
    (try clear hk)
    (try clear hi)
    (try clear ho0)
    have p31 : 0 ≤ (((rd_T33 l0_1 x7_2).f1) : Int) := oT (by first | (with_reducible assumption) | assumption)
    have q31 : (((rd_T33 l0_1 x7_2).f1) : Int) < ((x5_3.length : Int) : Int) := oT (by first | (with_reducible assumption) | assumption)
    obtain ⟨ce31, hcl31, hM31, hcc31, hfr31⟩ := Kd.N_elem HO_5.out [] (((rd_T33 l0_1 x7_2).f1) : Int) p31 q31
    obtain ⟨ua31_0, uc31_0, rfl, ul31_0, ge31_0⟩ := Kd.FK_slice_open hM31
    have hx31_0 := hcc31 0 _ rfl
    have hf31_0 := hfr31 0
    (try simp only [show ((Kd.slice 35 k35)).sz = 1 from rfl, Nat.mul_one, Nat.add_zero] at hx31_0)
    (try simp only [show ((Kd.slice 35 k35)).sz = 1 from rfl, Nat.mul_one, Nat.add_zero] at hf31_0)
    clear hcl31 hcc31 hfr31 hM31
    replace p31 := eq_true p31
    replace q31 := eq_true q31
    have HX36 := ak (show Kd.N (Kd.slice 35 k35) 30 _ w.heap.size (fun k_ => (w.heap.size ≤ k_) ∧ k_ ≠ gb171 ∧ k_ ≠ gb180) (.slice (some ⟨go7, 0, none⟩) x5_3.length co7) x5_3 from (Kd.N_mono (HO_5.out) (fun k_ hk => ⟨hk.1, ⟨hk.2.1, hk.2.2⟩⟩)))
    obtain ⟨ce36, hcl36, hM36, hcc36, hfr36⟩ := Kd.N_elem HX36.out [] (((rd_T33 l0_1 x7_2).f1) : Int) (oT (by first | (with_reducible assumption) | assumption)) (by have h_ : (((rd_T33 l0_1 x7_2).f1) : Int) < ((x5_3.length : Int) : Int) := oT (by first | (with_reducible assumption) | assumption); first | exact h_ | (have e_ := (Kd.N_reads' HO_5.out).1; omega) | simpa using h_)
    obtain ⟨ua36_0, uc36_0, rfl, ul36_0, ge36_0⟩ := Kd.FK_slice_open hM36
    have HP36 := (Kd.N_seg HX36.out (((rd_T33 l0_1 x7_2).f1) : Int) (oT (by first | (with_reducible assumption) | assumption)) (by have h_ : (((rd_T33 l0_1 x7_2).f1) : Int) < ((x5_3.length : Int) : Int) := oT (by first | (with_reducible assumption) | assumption); first | exact h_ | (have e_ := (Kd.N_reads' HO_5.out).1; omega) | simpa using h_) (seg := [.slice Av_ t187.length cv_]) (j := 0) hcl36 hcc36 (show 1 ≤ 1 from by decide) (x' := t187) (Kd.FK_rowV (Kd.V_mono (ok' := (fun k_ => ((fun k_ => (w.heap.size ≤ k_) ∧ k_ ≠ gb171 ∧ k_ ≠ gb180)) k_ ∧ k_ ≠ go7)) (HO189.out) (fun k_ hk => ⟨⟨hk.1, ⟨hk.2.2.1, hk.2.2.2⟩⟩, fun e_ => (hk.2.1) (by rw [e_]; rfl)⟩))) (fun _ hk => hk)).1
    (try simp only [show ((Kd.slice 35 k35)).sz = 1 from rfl, Nat.mul_one, Nat.add_zero] at HP36)
    rw [← Ny190.out] at HP36
    have HQ36 := ak HP36
    clear hcl36 hcc36 hfr36 hM36 HP36
    refine hK.out _ _ ⟨(blk_cell BK180.out 0).trans rfl, (blk_cell BK180.out 1).trans rfl, (blk_cell BK180.out 2).trans rfl, (blk_cell BK180.out 3).trans rfl, (blk_cell BK180.out 4).trans rfl, HS5_, HS6_, HS7_, HS8_, HS9_, HS10_, HS11_⟩ (fun hHeld => ?_)
    clear hK K
    refine norm_ (a' := ?_) ?_ ?_
    rotate_left
    ·show Act.put _ (some 79) _ = _
     simp only [SX]
     rfl
    refine pu 34 80 ?_ (ms 36 34359738367) rfl rfl HT_ (by kernel_rfl) (fun _ _ _ h => h) (by rfl) ?_ ?_ ?_ ?_
    rotate_left
    ·intro w'
     go_simp
     with_reducible rfl
    rotate_left
    ·simp only [SX]
     rfl
    refine last_ (i := 35) (N := none) (ms 36 68719476735) rfl rfl (one_of HT_.out (by kernel_rfl)) (by decide) (fun K hK => ?_)
    refine skip_ (w1 := ?_) (by rfl) rfl ?_ ?_
    rotate_left
    ·go_simp
     rfl
    refine hK.out _ _ ?_
    clear hK K
    refine done_ (done_of HT_.out (by kernel_rfl)) ?_
    try go_wp2
    (try simp only [← hl5_3])
    go_roundg k3
    case measure => have := HK1.out; have := HK2.out; have := HK3.out; omega
    case rel => exact ⟨(y190), (wrap64 (x9_3 + 1)), (by first | rfl | (simp; done) | (simp [*]; done)), H', ⟨by have := HK1.out; have := HK2.out; have := HK3.out; omega⟩, ⟨by (try simp only [hl5_1]); (try simp only [hl5_2]); (try simp only [hl5_3]); (with_reducible repeat (first | apply Kd.N_alloc | apply Kd.N_drewN | apply Kd.N_drew)); exact HQ36.out⟩, ⟨by (try simp only [hl5_1]); (try simp only [hl5_2]); (try simp only [hl5_3]); (with_reducible repeat (first | refine blk_drewN ?_ _ | refine blk_drew ?_ | refine blk_alloc ?_ _)); refine blk_far ?_ (by have h_ := Kd.N_away HO_5.out (fun _ hk => hk.2.1); intro e_; exact h_ (by rw [e_]; rfl)) _; (with_reducible repeat (first | refine blk_drewN ?_ _ | refine blk_drew ?_ | refine blk_alloc ?_ _)); exact BK171.out⟩, ⟨by (try simp only [hl5_1]); (try simp only [hl5_2]); (try simp only [hl5_3]); (with_reducible repeat (first | refine blk_drewN ?_ _ | refine blk_drew ?_ | refine blk_alloc ?_ _)); refine blk_far ?_ (by have h_ := Kd.N_away HO_5.out (fun _ hk => hk.2.2); intro e_; exact h_ (by rw [e_]; rfl)) _; (with_reducible repeat (first | refine blk_drewN ?_ _ | refine blk_drew ?_ | refine blk_alloc ?_ _)); exact BK180.out⟩, ⟨by repeat (first | (with_reducible first | exact HB.out | apply below_alloc | apply pw_below_drewN | apply below_drew1 | refine below_set ?_ GB7.out | refine below_set ?_ GE171.out | refine below_set ?_ GE180.out) | exact HB.out)⟩⟩

end Go.Proofs.Ytddkaiegnohkcaa.F
