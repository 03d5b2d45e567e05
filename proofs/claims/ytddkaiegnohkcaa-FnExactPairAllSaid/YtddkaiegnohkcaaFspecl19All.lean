-- Printed by wip/px/px.py of this claim's repository (the kit's printer, extended there). Lean checks it.
import Derived.Test.YtddkaiegnohkcaaFKinds
import Derived.Test.YtddkaiegnohkcaaFspecl19Put
namespace Go.Proofs.Ytddkaiegnohkcaa.F
open Go.RowKit Go.Proofs.YtddkaiegnohkcaaW.PrintWords Go.Proofs.YtddkaiegnohkcaaW.PrintLast Go.Proofs.YtddkaiegnohkcaaW.PrintMore
attribute [local go_sem] max2_int min2_int max_two min_two max_three min_three max_four min_four   -- for this text's walks alone
set_option linter.unusedVariables false
set_option linter.unusedSimpArgs false

/-! ### spec_l19All: function 49 -/
mutual
def spec_l19All.l0 : Nat → List (List (S35)) → Int → Int → List (S33) → Option ((List (List (S35))))
 | 0, _, _, _, _ => none
 | k + 1, x5, x6, x334000, x334001 => if x6 < x334000 then (spec_l19All.l1 k x5 x6 0 x334000 x334001) else (some x5)
def spec_l19All.l1 : Nat → List (List (S35)) → Int → Int → Int → List (S33) → Option ((List (List (S35))))
 | 0, _, _, _, _, _ => none
 | k + 1, x5, x6, x7, x334000, x334001 => if x7 < (x334001.length : Int) then (if 0 ≤ x7 then (spec_l19All.l2 k x5 x6 x7 0 x334000 x334001 ((rd_T33 x334001 x7).f0) ((rd_T33 x334001 x7).f1) ((rd_T33 x334001 x7).f2) ((rd_T33 x334001 x7).f3) ((rd_T33 x334001 x7).f4)) else (none)) else (spec_l19All.l0 k x5 (wrap64 (x6 + 1)) x334000 x334001)
def spec_l19All.l2 : Nat → List (List (S35)) → Int → Int → Int → Int → List (S33) → Int → Int → Int → Int → Int → Option ((List (List (S35))))
 | 0, _, _, _, _, _, _, _, _, _, _, _ => none
 | k + 1, x5, x6, x7, x9, x334000, x334001, x343000, x343001, x343002, x343003, x343004 => if 0 ≤ x343000 then (if x343000 < (x5.length : Int) then (if x9 < ((rd_L5 x5 x343000).length : Int) then (if 0 ≤ x343001 then (if x343001 < (x5.length : Int) then (if 0 ≤ x9 then ((spec_l19Put.f k (rd_L5 x5 x343001) (wrap64 (((rd_T35 (rd_L5 x5 x343000) x9).f0) + x343002)) (wrap64 (((rd_T35 (rd_L5 x5 x343000) x9).f1) + x343003))).bind fun t349 => (spec_l19All.l2 k (x5.set (x343001 : Int).toNat t349) x6 x7 (wrap64 (x9 + 1)) x334000 x334001 x343000 x343001 x343002 x343003 x343004)) else (none)) else (none)) else (none)) else (spec_l19All.l1 k x5 x6 (wrap64 (x7 + 1)) x334000 x334001)) else (none)) else (none)
end
def spec_l19All.f (k : Nat) (a0_0 : Int) (l0_1 : List (S33)) (a1 : Int) : Option ((List (List (S35)))) := if 0 ≤ a0_0 then (if (a0_0 : Int).toNat ≤ 11728124029610 then ((some (List.replicate (a0_0 : Int).toNat [] : List (List (S35)))).bind fun y334 => (if 0 ≤ a1 then (if a1 < (y334.length : Int) then (spec_l19All.l0 k (y334.set (a1 : Int).toNat (([(⟨0, 0⟩ : S35)] : List (S35)))) 0 a0_0 l0_1) else (none)) else (none))) else (none)) else (none)
theorem spec_l19All.mono_l : ∀ k, (∀ y0 y1 y2 y3, LeO (spec_l19All.l0 k y0 y1 y2 y3) (spec_l19All.l0 (k + 1) y0 y1 y2 y3)) ∧ (∀ y0 y1 y2 y3 y4, LeO (spec_l19All.l1 k y0 y1 y2 y3 y4) (spec_l19All.l1 (k + 1) y0 y1 y2 y3 y4)) ∧ (∀ y0 y1 y2 y3 y4 y5 y6 y7 y8 y9 y10, LeO (spec_l19All.l2 k y0 y1 y2 y3 y4 y5 y6 y7 y8 y9 y10) (spec_l19All.l2 (k + 1) y0 y1 y2 y3 y4 y5 y6 y7 y8 y9 y10))
 | 0 => ⟨fun _ _ _ _ r h => by simp [spec_l19All.l0] at h, fun _ _ _ _ _ r h => by simp [spec_l19All.l1] at h, fun _ _ _ _ _ _ _ _ _ _ _ r h => by simp [spec_l19All.l2] at h⟩
 | k + 1 => by
  obtain ⟨ih0, ih1, ih2⟩ := spec_l19All.mono_l k
  refine ⟨?_, ?_, ?_⟩
  ·intro y0 y1 y2 y3
   unfold spec_l19All.l0
   repeat' first | (with_reducible exact ih1 _ _ _ _ _) | (with_reducible exact LeO.refl _) | (with_reducible refine LeO.ite ?_ ?_)
  ·intro y0 y1 y2 y3 y4
   unfold spec_l19All.l1
   repeat' first | (with_reducible exact ih0 _ _ _ _) | (with_reducible exact ih2 _ _ _ _ _ _ _ _ _ _ _) | (with_reducible exact LeO.refl _) | (with_reducible refine LeO.ite ?_ ?_)
  ·intro y0 y1 y2 y3 y4 y5 y6 y7 y8 y9 y10
   unfold spec_l19All.l2
   repeat' first | (with_reducible exact ih1 _ _ _ _ _) | (with_reducible exact ih2 _ _ _ _ _ _ _ _ _ _ _) | (with_reducible exact spec_l19Put.mono _ _ _ _) | (with_reducible exact LeO.refl _) | (with_reducible refine LeO.ite ?_ ?_) | (with_reducible refine LeO.bind ?_ (fun _ => ?_))
theorem spec_l19All.mono : ∀ a0 a1 a2 k, LeO (spec_l19All.f k a0 a1 a2) (spec_l19All.f (k + 1) a0 a1 a2) := by
 intro a0 a1 a2 k
 obtain ⟨ih0, ih1, ih2⟩ := spec_l19All.mono_l k
 unfold spec_l19All.f
 repeat' first | (with_reducible exact ih0 _ _ _ _) | (with_reducible exact LeO.refl _) | (with_reducible refine LeO.ite ?_ ?_) | (with_reducible refine LeO.bind ?_ (fun _ => ?_))
def spec_l19All.T13 : Bool × List (List Nat × List Nat) := (true, [([], []), ([], []), ([1], [1]), ([], []), ([], []), ([4], [4]), ([3, 5], [3, 5]), ([6], [6]), ([], []), ([], []), ([9], [9]), ([8, 10], [8, 10]), ([11], [11]), ([], []), ([12, 13], [12, 13]), ([14], [14]), ([15], [15]), ([], []), ([17], [17]), ([16, 18], [16, 18]), ([], []), ([], []), ([21], [21]), ([20, 22], [20, 22]), ([23], [23]), ([], []), ([24, 25], [24, 25]), ([26], [26]), ([27], [27]), ([], []), ([29], [29]), ([28, 30], [28, 30]), ([19, 31], [19, 31]), ([7, 32], [7, 32]), ([0, 2, 0, 1, 2, 3, 4, 5, 6, 7, 8, 9, 10, 11, 12, 13, 14, 15, 16, 17, 18, 19, 20, 21, 22, 23, 24, 25, 26, 27, 28, 29, 30, 31, 32, 33], [0, 2]), ([34, 33, 33, 0, 1, 2, 3, 4, 5, 6, 7, 8, 9, 10, 11, 12, 13, 14, 15, 16, 17, 18, 19, 20, 21, 22, 23, 24, 25, 26, 27, 28, 29, 30, 31, 32, 33], [33, 34])])
def spec_l19All.B13 : List Nat := [0, 0, 2, 0, 0, 16, 56, 120, 0, 0, 512, 1792, 3840, 0, 16128, 32512, 65280, 0, 131072, 524032, 0, 0, 2097152, 7340032, 15728640, 0, 66060288, 133169152, 267386880, 0, 536870912, 2146435072, 4294967040, 8589934584, 17179869183, 34359738367]
theorem spec_l19All.tab13 : rtab .any (opsOf Try.f49 13) = spec_l19All.T13 := by kernel_rfl
theorem spec_l19All.bits13 : waitsOk spec_l19All.T13.2 spec_l19All.B13 = true := by kernel_rfl
set_option maxHeartbeats 8000000 in
set_option maxRecDepth 100000 in
theorem spec_l19All.calls (k : Nat) (a0_0 : Int) (A0_1 : Option Addr) (c0_1 : Nat) (l0_1 : List (S33)) (a1 : Int) (r : List (List (S35))) (w : World) (hr0_1 : Kd.C k33 w A0_1 l0_1.length l0_1) (hc0_1 : l0_1.length ≤ c0_1) (h : spec_l19All.f k a0_0 l0_1 a1 = some r) :
  Calls Try.prog 49 #[.agg #[.int .i64 a0_0, .slice A0_1 l0_1.length c0_1], .int .i64 a1] w fun e w' => ∃ v0_ : Value, e = .returned (v0_) ∧ Kd.N (Kd.slice 35 k35) 30 w' w.heap.size (fun k_ => (w.heap.size ≤ k_)) v0_ r ∧ Below w.heap.size w w' := by
 have hu25 := Try.underlying25
 have hu35 := Try.underlying35
 have hu33 := Try.underlying33
 have HR0_1 := ak hr0_1
 have HC0_1 := ak hc0_1
 clear hr0_1 hc0_1
 have HB := ak (Below.refl w.heap.size w)
 have H : (if 0 ≤ a0_0 then (if (a0_0 : Int).toNat ≤ 11728124029610 then ((some (List.replicate (a0_0 : Int).toNat [] : List (List (S35)))).bind fun y334 => (if 0 ≤ a1 then (if a1 < (y334.length : Int) then (spec_l19All.l0 k (y334.set (a1 : Int).toNat (([(⟨0, 0⟩ : S35)] : List (S35)))) 0 a0_0 l0_1) else (none)) else (none))) else (none)) else (none)) = some r := h
 clear h
 by_cases c3 : 0 ≤ a0_0
 rotate_left
 ·rw [if_neg c3] at H
  exact absurd H (by simp)
 rw [if_pos c3] at H
 have c3b0 := eq_true c3
 have c3b1 : decide (0 ≤ a0_0) = true := decide_eq_true c3
 clear c3
 by_cases c4 : (a0_0 : Int).toNat ≤ 11728124029610
 rotate_left
 ·rw [if_neg c4] at H
  exact absurd H (by simp)
 rw [if_pos c4] at H
 have c4b0 := eq_true c4
 have c4b1 : decide ((a0_0 : Int).toNat ≤ 11728124029610) = true := decide_eq_true c4
 clear c4
 obtain ⟨y334, hy334⟩ : ∃ y_ : List (List (S35)), y_ = (List.replicate (a0_0 : Int).toNat []) := ⟨_, rfl⟩
 replace H : (if 0 ≤ a1 then (if a1 < (y334.length : Int) then (spec_l19All.l0 k (y334.set (a1 : Int).toNat (([(⟨0, 0⟩ : S35)] : List (S35)))) 0 a0_0 l0_1) else (none)) else (none)) = some r := by (have H2_ := (Option.bind_some _ _).symm.trans H; rw [hy334]; with_reducible exact H2_)
 have Ny334 := ak hy334
 clear hy334
 obtain ⟨y337, hy337⟩ : ∃ y_ : List (S35), y_ = (([(⟨0, 0⟩ : S35)] : List (S35))) := ⟨_, rfl⟩
 replace H : (if 0 ≤ a1 then (if a1 < (y334.length : Int) then (spec_l19All.l0 k (y334.set (a1 : Int).toNat y337) 0 a0_0 l0_1) else (none)) else (none)) = some r := by (rw [hy337]; with_reducible exact H)
 have Ny337 := ak hy337
 clear hy337
 by_cases c5 : 0 ≤ a1
 rotate_left
 ·rw [if_neg c5] at H
  exact absurd H (by simp)
 rw [if_pos c5] at H
 have c5b0 : decide (0 ≤ a1) = true := decide_eq_true c5
 clear c5
 by_cases c6 : a1 < (y334.length : Int)
 rotate_left
 ·rw [if_neg c6] at H
  exact absurd H (by simp)
 rw [if_pos c6] at H
 have c6b0 : decide (a1 < (y334.length : Int)) = true := decide_eq_true c6
 clear c6
 obtain ⟨y340, hy340⟩ : ∃ y_ : List (List (S35)), y_ = (y334.set (a1 : Int).toNat y337) := ⟨_, rfl⟩
 replace H : (spec_l19All.l0 k y340 0 a0_0 l0_1) = some r := by (rw [hy340]; with_reducible exact H)
 have Ny340 := ak hy340
 clear hy340
 have H' := ak H
 clear H
 go_enter Try.func49, Try.ntmps49
 go_wp2_with (first | ((with_reducible refine gate_dst (N := 2) rfl ?_); refine box_event ?hg (N := 2) ?hd (cs := #[.int .i64 a0_0, .slice A0_1 l0_1.length c0_1]) (t := 25) ?hr ?_; (case hd => rfl); (case hg => rfl); (case hr => (go_simp; done)); intro gb333 hg w8 hbox hb; have BK333 := ak (hbox); have GW333 := ak ((by rw [hg]; exact (below_size (bl HB)) : w.heap.size ≤ gb333)); have GE333 := ak ((by rw [hg]; exact (below_size (bl HB)) : w.heap.size ≤ gb333)); replace HB := ak (below_step (bl HB) hb); clear hb hbox hg; have hcz9_0 := bc w8 BK333 0 (.int .i64 a0_0) rfl; have hcz9_1 := bc w8 BK333 1 (.slice A0_1 l0_1.length c0_1) rfl; have hfz9_0 := fz BK333 0; have hfz9_1 := fz BK333 1) | ((with_reducible refine gate_dst (N := 12) rfl ?_); refine Kd.N_make (Kd.slice 35 k35) _ 30 rfl (N' := 12) rfl 73 _ _ rfl a0_0 rfl rfl Try.underlying73 (.slice none 0 0) 24 info30 rfl (by decide) (by omega) [] (ok := fun k_ => w8.heap.size ≤ k_) (okp := fun _ => False) (Kd.FK_slice_mk (Nat.le_refl _) (Kd.F_nil _ _ _)) (fun _ hk => hk.elim) (Nat.le_refl _) (oT (by (with_reducible assumption))) (Nat.le_trans (Nat.mul_le_mul_right _ (oT (by (with_reducible assumption)) : a0_0.toNat ≤ 11728124029610)) (by omega)) (Below.refl _ _) (Nat.le_refl _) ?_; intro v335 w10 ho11 hb hg_ hnew_; clear hg_ hnew_; (rw [← Ny334.out] at ho11); have HO336 := ak (Kd.N_lower (Kd.N_mono (ok' := fun k_ => (w.heap.size ≤ k_) ∧ k_ ≠ gb333) ho11 (fun k_ hk_ => ⟨(Nat.le_trans (below_size (bl1 HB GE333)) hk_), (Kd.freshB (bk BK333) k_ hk_)⟩)) (below_size (bl1 HB GE333))); replace BK333 := ak (blk_below (bk BK333) hb); replace HB := ak (below_step (bl1 HB GE333) hb); clear hb ho11) | ((with_reducible refine gate_dst (N := 16) rfl ?_); refine Kd.R_lit k35 _ 35 ?hg (N := 16) ?hd (xs := ([(⟨0, 0⟩ : S35)] : List (S35))) (inner := [.int .i64 0, .int .i64 0]) (ok := fun _ => True) (okp := fun _ => True) ?hr ?hp (fun _ hk => hk) trivial (Below.refl _ _) (Nat.le_refl _) (by simp) ?_; (case hd => rfl); (case hg => rfl); (case hr => (go_simp; done)); (case hp => exact (Reps.c2 (show Kd.M k35 _ _ _ (⟨0, 0⟩ : S35) [.int .i64 0, .int .i64 0] from (k35_mkM _ _ _ (⟨0, 0⟩ : S35) )) (Reps.none _ _))); intro v338 w12 ho13 hb hg_ hnew_; clear hg_ hnew_; (rw [← Ny337.out] at ho13); replace HO336 := ak (Kd.N_elder' (by exact HO336.out) (Kd.R_base ho13) hb); have HO339 := ak (Kd.R_lower (Kd.R_newM (M := fun k_ => (w.heap.size ≤ k_)) ho13 (below_size (bl1 HB GE333)) (fun k_ h_ => h_)) (below_size (bl1 HB GE333))); replace BK333 := ak (blk_below (bk BK333) hb); replace HB := ak (below_step (bl1 HB GE333) hb); clear hb ho13; have p7 : 0 ≤ (a1 : Int) := oT (by (with_reducible assumption)); have q7 : (a1 : Int) < ((y334.length : Int) : Int) := oT (by (with_reducible assumption)); obtain ⟨go7, co7, eo7, gb7, gl7, cl7, HG7⟩ := Kd.N_form HO336.out (by omega); (cases eo7); have GB7 := ak gb7; have GG7 := ak HG7; clear gb7 gl7 HG7; obtain ⟨ce7, hcl7, hM7, hcc7, hfr7⟩ := Kd.N_elem HO336.out [] (a1 : Int) p7 q7; obtain ⟨ua7_0, uc7_0, rfl, ul7_0, ge7_0⟩ := Kd.FK_slice_open hM7; have hx7_0 := hcc7 0 _ rfl; have hf7_0 := hfr7 0; (try simp only [show ((Kd.slice 35 k35)).sz = 1 from rfl, Nat.mul_one, Nat.add_zero] at hx7_0); (try simp only [show ((Kd.slice 35 k35)).sz = 1 from rfl, Nat.mul_one, Nat.add_zero] at hf7_0); clear hcl7 hcc7 hfr7 hM7; replace p7 := eq_true p7; replace q7 := eq_true q7; have n_ := ak (Kd.N_mono (ok' := (fun k_ => (w.heap.size ≤ k_) ∧ some k_ ≠ (v338 : Value).ownBlock ∧ k_ ≠ gb333)) HO336.out (fun k_ hk => ⟨hk.1.1, ⟨hk.2, hk.1.2⟩⟩)); clear HO336; have HO336 := n_; clear n_; have HX14 := ak (show Kd.N (Kd.slice 35 k35) 30 w12 w.heap.size (fun k_ => (w.heap.size ≤ k_) ∧ k_ ≠ gb333) (.slice (some ⟨go7, 0, none⟩) y334.length co7) y334 from (by exact Kd.N_mono HO336.out (fun _ hk => ⟨hk.1, hk.2.2⟩))); obtain ⟨ce14, hcl14, hM14, hcc14, hfr14⟩ := Kd.N_elem HX14.out [] (a1 : Int) (oT (by (with_reducible assumption))) (by have h_ : (a1 : Int) < ((y334.length : Int) : Int) := oT (by (with_reducible assumption)); exact h_); obtain ⟨ua14_0, uc14_0, rfl, ul14_0, ge14_0⟩ := Kd.FK_slice_open hM14; have HP14 := Kd.N_seg HX14.out (a1 : Int) (oT (by (with_reducible assumption))) (by have h_ : (a1 : Int) < ((y334.length : Int) : Int) := oT (by (with_reducible assumption)); exact h_) (seg := [v338]) (j := 0) hcl14 hcc14 (show 1 ≤ 1 from by decide) (x' := y337) (Kd.FK_row (Kd.R_mono (ok' := (fun k_ => ((fun k_ => (w.heap.size ≤ k_) ∧ k_ ≠ gb333)) k_ ∧ k_ ≠ go7)) (Kd.R_types (Kd.R_apart' (HO339.out) (Kd.N_typed HO336.out) (by decide)) BK333.out (by decide)) (fun k_ hk => ⟨⟨hk.1.1.1, hk.2⟩, fun e_ => (hk.1.2) (by rw [e_]; rfl)⟩))) (fun _ hk => hk); have hx14_0 := hcc14 0 _ rfl; (try simp only [show ((Kd.slice 35 k35)).sz = 1 from rfl, Nat.mul_one, Nat.add_zero] at hx14_0); have hf14_0 := hfr14 0; (try simp only [show ((Kd.slice 35 k35)).sz = 1 from rfl, Nat.mul_one, Nat.add_zero] at hf14_0); clear hcl14 hcc14 hfr14 hM14; (try simp only [show ((Kd.slice 35 k35)).sz = 1 from rfl, Nat.mul_one, Nat.add_zero] at HP14); (try simp only [show ((Kd.slice 35 k35)).sz = 1 from rfl, Nat.mul_one, Nat.add_zero] at HP14)) | ((with_reducible refine gate_store (t := 30) (p := 17) rfl ?_); refine store_event (t := 30) (p := 17) (v := ?vo_w15) (w1 := (w12.setCell ⟨go7, (a1 : Int).toNat, none⟩ (v338))) ?hg ?ho ?hn ?hr ?_; (case ho => rfl); (case hg => rfl); (case hn => rfl); (case hr => (obtain ⟨_, _, rfl, _⟩ := Kd.R_reads HO339.out; (go_simp; done))); intro w15 hw; have hg : w12.grownBy w15 (some go7) := (by rw [hw]; exact HP14.2); have hp_ : Kd.N (Kd.slice 35 k35) 30 w15 w.heap.size (fun k_ => (w.heap.size ≤ k_) ∧ k_ ≠ gb333) (.slice (some ⟨go7, 0, none⟩) y334.length co7) y340 := (by rw [hw, Ny340.out]; exact HP14.1); clear HP14; have n0_ := ak (blk_grown (bk BK333) hg (Kd.N_ne HO336.out BK333.out (by decide))); have n1_ := ak (hp_); have n2_ := ak ((by rw [hw]; exact below_set (HB.out) GB7.out : Below w.heap.size w w15)); clear BK333; clear HO336; clear HB; clear HO339; have BK333 := n0_; have HO336 := n1_; have HB := n2_; clear n0_ n1_ n2_; clear hg hw hp_))
 go_loopg [6] k (fun kq v6 w' => ∃ (x5_1 : List (List (S35))) (x6_1 : Int), v6 = .int .i64 x6_1 ∧ Aside0 (spec_l19All.l0 kq x5_1 x6_1 a0_0 l0_1 = some r) ∧ Aside0 (kq ≤ k) ∧ Aside0 (Kd.N (Kd.slice 35 k35) 30 w' w.heap.size (fun k_ => (w.heap.size ≤ k_) ∧ k_ ≠ gb333) (.slice (some ⟨go7, 0, none⟩) y334.length co7) x5_1) ∧ Aside0 (w'.heap[gb333]? = some (.cells #[.int .i64 a0_0, (.slice A0_1 l0_1.length c0_1)] 25 (0, 0))) ∧ Aside0 (Below w.heap.size w w'))
 case atStart => exact ⟨(y340), (0), (by rfl), H', ⟨Nat.le_refl _⟩, ⟨by exact HO336.out⟩, ⟨bk BK333⟩, ⟨bl1 HB GE333⟩⟩
 clear H'
 try clear c1
 try clear hx1
 try clear c2
 try clear p2
 try clear c3
 try clear c3b0
 try clear c3b1
 try clear c4
 try clear c4b0
 try clear c4b1
 try clear c5
 try clear c5b0
 try clear c6
 try clear c6b0
 try clear c7
 try clear p7
 try clear q7
 try clear hx7
 try clear hf7
 try clear c14
 try clear hx14
 try clear hf14
 try clear hcz9_0
 try clear hcz9_1
 try clear hfz9_0
 try clear hfz9_1
 try clear hx14_0
 try clear hx7_0
 try clear p7
 try clear q7
 obtain ⟨x5_1, x6_1, rfl, HA, HK1, HO_5, BK333, HB⟩ := hrel
 have hl5_1 := (Kd.N_reads' HO_5.out).1
 rw [hl5_1] at HO_5
 (try simp only [hl5_1])
 (try simp only [hl5_1] at BK333)
 cases gk with
 | zero => exact absurd HA.out (by simp [spec_l19All.l0])
 | succ k1 =>
  have H := HA.out
  clear HA
  simp only [spec_l19All.l0] at H
  by_cases c16 : x6_1 < a0_0
  rotate_left
  ·rw [if_neg c16] at H
   have c16b0 : decide (x6_1 < a0_0) = false := decide_eq_false c16
   clear c16
   obtain rfl := Option.some.inj H
   have hcz40_0 := bc wr BK333 0 (.int .i64 a0_0) rfl
   have hcz40_1 := bc wr BK333 1 (.slice A0_1 l0_1.length c0_1) rfl
   have hfz40_0 := fz BK333 0
   have hfz40_1 := fz BK333 1
   go_wp2
   go_ret
   exact ⟨_, by rfl, by exact Kd.N_mono HO_5.out (fun _ hk => hk.1), bl1 HB GE333⟩
  rw [if_pos c16] at H
  have c16b0 : decide (x6_1 < a0_0) = true := decide_eq_true c16
  clear c16
  have H' := ak H
  clear H
  have hcz17_0 := bc wr BK333 0 (.int .i64 a0_0) rfl
  have hcz17_1 := bc wr BK333 1 (.slice A0_1 l0_1.length c0_1) rfl
  have hfz17_0 := fz BK333 0
  have hfz17_1 := fz BK333 1
  go_wp2
  go_loopg [7] k1 (fun kq v7 w' => ∃ (x5_2 : List (List (S35))) (x7_2 : Int), v7 = .int .i64 x7_2 ∧ Aside0 (spec_l19All.l1 kq x5_2 x6_1 x7_2 a0_0 l0_1 = some r) ∧ Aside0 (kq ≤ k1) ∧ Aside0 (Kd.N (Kd.slice 35 k35) 30 w' w.heap.size (fun k_ => (w.heap.size ≤ k_) ∧ k_ ≠ gb333) (.slice (some ⟨go7, 0, none⟩) x5_1.length co7) x5_2) ∧ Aside0 (w'.heap[gb333]? = some (.cells #[.int .i64 a0_0, (.slice A0_1 l0_1.length c0_1)] 25 (0, 0))) ∧ Aside0 (Below w.heap.size w w'))
  case atStart => exact ⟨(x5_1), (0), (by rfl), H', ⟨Nat.le_refl _⟩, ⟨by (try simp only [hl5_1]); exact HO_5.out⟩, ⟨by (try simp only [hl5_1]); exact BK333.out⟩, ⟨bl1 HB GE333⟩⟩
  clear H'
  try clear c1
  try clear hx1
  try clear c2
  try clear p2
  try clear c3
  try clear c3b0
  try clear c3b1
  try clear c4
  try clear c4b0
  try clear c4b1
  try clear c5
  try clear c5b0
  try clear c6
  try clear c6b0
  try clear c7
  try clear p7
  try clear q7
  try clear hx7
  try clear hf7
  try clear c14
  try clear hx14
  try clear hf14
  try clear c16
  try clear c16b0
  try clear hcz17_0
  try clear hcz17_1
  try clear hcz9_0
  try clear hcz9_1
  try clear hfz17_0
  try clear hfz17_1
  try clear hfz9_0
  try clear hfz9_1
  try clear hx14_0
  try clear hx7_0
  try clear p2
  try clear p7
  try clear q7
  obtain ⟨x5_2, x7_2, rfl, HA, HK2, HO_5, BK333, HB⟩ := hrel
  have hl5_2 := (Kd.N_reads' HO_5.out).1
  rw [hl5_2] at HO_5
  (try simp only [hl5_2])
  (try simp only [hl5_2] at BK333)
  cases gk with
  | zero => exact absurd HA.out (by simp [spec_l19All.l1])
  | succ k2 =>
   have H := HA.out
   clear HA
   simp only [spec_l19All.l1] at H
   by_cases c18 : x7_2 < (l0_1.length : Int)
   rotate_left
   ·rw [if_neg c18] at H
    have c18b0 : decide (x7_2 < (l0_1.length : Int)) = false := decide_eq_false c18
    clear c18
    have H' := ak H
    clear H
    have hcz39_0 := bc wr BK333 0 (.int .i64 a0_0) rfl
    have hcz39_1 := bc wr BK333 1 (.slice A0_1 l0_1.length c0_1) rfl
    have hfz39_0 := fz BK333 0
    have hfz39_1 := fz BK333 1
    go_wp2
    (try simp only [← hl5_1, ← hl5_2])
    go_roundg k2
    case measure => have := HK1.out; have := HK2.out; omega
    case rel => exact ⟨(x5_2), (wrap64 (x6_1 + 1)), (by rfl), H', ⟨by have := HK1.out; have := HK2.out; omega⟩, ⟨by (try simp only [hl5_1]); (try simp only [hl5_2]); exact HO_5.out⟩, ⟨by (try simp only [hl5_1]); (try simp only [hl5_2]); exact BK333.out⟩, ⟨bl1 HB GE333⟩⟩
   rw [if_pos c18] at H
   have c18b0 : decide (x7_2 < (l0_1.length : Int)) = true := decide_eq_true c18
   clear c18
   by_cases c19 : 0 ≤ x7_2
   rotate_left
   ·rw [if_neg c19] at H
    exact absurd H (by simp)
   rw [if_pos c19] at H
   have c19b0 : decide (0 ≤ x7_2) = true := decide_eq_true c19
   clear c19
   have H' := ak H
   clear H
   have hcz20_0 := bc wr BK333 0 (.int .i64 a0_0) rfl
   have hcz20_1 := bc wr BK333 1 (.slice A0_1 l0_1.length c0_1) rfl
   have hfz20_0 := fz BK333 0
   have hfz20_1 := fz BK333 1
   have p341 : 0 ≤ (x7_2 : Int) := oT (by (with_reducible assumption))
   have q341 : x7_2 < (l0_1.length : Int) := oT (by (with_reducible assumption))
   obtain ⟨ad341, e341, hx341_0, hx341_1, hx341_2, hx341_3, hx341_4⟩ := at_T33 HR0_1.out x7_2 p341 q341
   cases e341
   replace hx341_0 := hcb HB.out hx341_0
   replace hx341_1 := hcb HB.out hx341_1
   replace hx341_2 := hcb HB.out hx341_2
   replace hx341_3 := hcb HB.out hx341_3
   replace hx341_4 := hcb HB.out hx341_4
   replace p341 := eq_true p341
   replace q341 := eq_true q341
   go_wp2_with (((with_reducible refine gate_dst (N := 8) rfl ?_); refine box_event ?hg (N := 8) ?hd (cs := #[.int .i64 0, .int .i64 0, .int .i64 0, .int .i64 0, .int .i64 0]) (t := 33) ?hr ?_; (case hd => rfl); (case hg => rfl); (case hr => (go_simp; done)); intro gb342 hg w21 hbox hb; replace HO_5 := ak (Kd.N_below (Kd.N_elderB (by exact HO_5.out) gb342 (Nat.le_of_eq hg.symm)) hb); have BK342 := ak (hbox); have GW342 := ak ((by rw [hg]; exact (below_size (bl1 HB GE333)) : w.heap.size ≤ gb342)); have GE342 := ak ((by rw [hg]; exact (below_size (bl1 HB GE333)) : w.heap.size ≤ gb342)); replace HB := ak (below_step (bl1 HB GE333) hb); have NB333_342 := ak ((by rw [hg]; exact Nat.ne_of_lt (blk_lt (bk BK333)) : gb333 ≠ gb342)); have NB342_333 := ak ((by rw [hg]; exact Nat.ne_of_gt (blk_lt (bk BK333)) : gb342 ≠ gb333)); replace BK333 := ak (blk_below (bk BK333) hb); clear hb hbox hg; have hnb22 := NB342_333.out; have hnc22 := NB333_342.out; have hcz23_0 := bc w21 BK342 0 (.int .i64 0) rfl; have hcz23_1 := bc w21 BK342 1 (.int .i64 0) rfl; have hcz23_2 := bc w21 BK342 2 (.int .i64 0) rfl; have hcz23_3 := bc w21 BK342 3 (.int .i64 0) rfl; have hcz23_4 := bc w21 BK342 4 (.int .i64 0) rfl; have hfz23_0 := fz BK342 0; have hfz23_1 := fz BK342 1; have hfz23_2 := fz BK342 2; have hfz23_3 := fz BK342 3; have hfz23_4 := fz BK342 4))
   go_loopg [9] k2 (fun kq v9 w' => ∃ (x5_3 : List (List (S35))) (x9_3 : Int), v9 = .int .i64 x9_3 ∧ Aside0 (spec_l19All.l2 kq x5_3 x6_1 x7_2 x9_3 a0_0 l0_1 ((rd_T33 l0_1 x7_2).f0) ((rd_T33 l0_1 x7_2).f1) ((rd_T33 l0_1 x7_2).f2) ((rd_T33 l0_1 x7_2).f3) ((rd_T33 l0_1 x7_2).f4) = some r) ∧ Aside0 (kq ≤ k2) ∧ Aside0 (Kd.N (Kd.slice 35 k35) 30 w' w.heap.size (fun k_ => (w.heap.size ≤ k_) ∧ k_ ≠ gb333 ∧ k_ ≠ gb342) (.slice (some ⟨go7, 0, none⟩) x5_2.length co7) x5_3) ∧ Aside0 (w'.heap[gb333]? = some (.cells #[.int .i64 a0_0, (.slice (some ad341) l0_1.length c0_1)] 25 (0, 0))) ∧ Aside0 (w'.heap[gb342]? = some (.cells #[.int .i64 ((rd_T33 l0_1 x7_2).f0), .int .i64 ((rd_T33 l0_1 x7_2).f1), .int .i64 ((rd_T33 l0_1 x7_2).f2), .int .i64 ((rd_T33 l0_1 x7_2).f3), .int .i64 ((rd_T33 l0_1 x7_2).f4)] 33 (0, 0))) ∧ Aside0 (Below w.heap.size w w'))
   case atStart => exact ⟨(x5_2), (0), (by rfl), H', ⟨Nat.le_refl _⟩, ⟨by (try simp only [hl5_1]); (try simp only [hl5_2]); exact Kd.N_mono (Kd.N_far (p := ⟨gb342, 4, none⟩) (Kd.N_far (p := ⟨gb342, 3, none⟩) (Kd.N_far (p := ⟨gb342, 2, none⟩) (Kd.N_far (p := ⟨gb342, 1, none⟩) (Kd.N_far (p := ⟨gb342, 0, none⟩) (Kd.N_mono HO_5.out (fun k_ hk => (⟨hk, hk.2⟩ : _ ∧ k_ ≠ gb342))) (fun _ hk => hk.2) (.int .i64 ((rd_T33 l0_1 x7_2).f0))) (fun _ hk => hk.2) (.int .i64 ((rd_T33 l0_1 x7_2).f1))) (fun _ hk => hk.2) (.int .i64 ((rd_T33 l0_1 x7_2).f2))) (fun _ hk => hk.2) (.int .i64 ((rd_T33 l0_1 x7_2).f3))) (fun _ hk => hk.2) (.int .i64 ((rd_T33 l0_1 x7_2).f4))) (fun _ hk => ⟨hk.1.1.1, ⟨hk.1.1.2, hk.1.2⟩⟩)⟩, ⟨by (try simp only [hl5_1]); (try simp only [hl5_2]); refine blk_far ?_ NB333_342.out _; refine blk_far ?_ NB333_342.out _; refine blk_far ?_ NB333_342.out _; refine blk_far ?_ NB333_342.out _; refine blk_far ?_ NB333_342.out _; exact BK333.out⟩, ⟨by (try simp only [hl5_1]); (try simp only [hl5_2]); refine blk_put (cs := #[.int .i64 ((rd_T33 l0_1 x7_2).f0), .int .i64 ((rd_T33 l0_1 x7_2).f1), .int .i64 ((rd_T33 l0_1 x7_2).f2), .int .i64 ((rd_T33 l0_1 x7_2).f3), .int .i64 0]) ?_ 4 _ rfl; refine blk_put (cs := #[.int .i64 ((rd_T33 l0_1 x7_2).f0), .int .i64 ((rd_T33 l0_1 x7_2).f1), .int .i64 ((rd_T33 l0_1 x7_2).f2), .int .i64 0, .int .i64 0]) ?_ 3 _ rfl; refine blk_put (cs := #[.int .i64 ((rd_T33 l0_1 x7_2).f0), .int .i64 ((rd_T33 l0_1 x7_2).f1), .int .i64 0, .int .i64 0, .int .i64 0]) ?_ 2 _ rfl; refine blk_put (cs := #[.int .i64 ((rd_T33 l0_1 x7_2).f0), .int .i64 0, .int .i64 0, .int .i64 0, .int .i64 0]) ?_ 1 _ rfl; refine blk_put (cs := #[.int .i64 0, .int .i64 0, .int .i64 0, .int .i64 0, .int .i64 0]) ?_ 0 _ rfl; exact BK342.out⟩, ⟨bl2 HB GE333 GE342⟩⟩
   clear H'
   try clear c1
   try clear hx1
   try clear c2
   try clear p2
   try clear c3
   try clear c3b0
   try clear c3b1
   try clear p3
   try clear q3
   try clear hx3
   try clear c4
   try clear c4b0
   try clear c4b1
   try clear c5
   try clear c5b0
   try clear c6
   try clear c6b0
   try clear c7
   try clear p7
   try clear q7
   try clear hx7
   try clear hf7
   try clear c14
   try clear hx14
   try clear hf14
   try clear c16
   try clear c16b0
   try clear c18
   try clear c18b0
   try clear c19
   try clear c19b0
   try clear c22
   try clear hcz17_0
   try clear hcz17_1
   try clear hcz20_0
   try clear hcz20_1
   try clear hcz23_0
   try clear hcz23_1
   try clear hcz23_2
   try clear hcz23_3
   try clear hcz23_4
   try clear hcz9_0
   try clear hcz9_1
   try clear hfz17_0
   try clear hfz17_1
   try clear hfz20_0
   try clear hfz20_1
   try clear hfz23_0
   try clear hfz23_1
   try clear hfz23_2
   try clear hfz23_3
   try clear hfz23_4
   try clear hfz9_0
   try clear hfz9_1
   try clear hx14_0
   try clear hx341_0
   try clear hx341_1
   try clear hx341_2
   try clear hx341_3
   try clear hx341_4
   try clear hx7_0
   try clear p2
   try clear p341
   try clear p7
   try clear q341
   try clear q7
   obtain ⟨x5_3, x9_3, rfl, HA, HK3, HO_5, BK333, BK342, HB⟩ := hrel
   have hl5_3 := (Kd.N_reads' HO_5.out).1
   rw [hl5_3] at HO_5
   (try simp only [hl5_3])
   (try simp only [hl5_3] at BK333)
   (try simp only [hl5_3] at BK342)
   cases gk with
   | zero => exact absurd HA.out (by simp [spec_l19All.l2])
   | succ k3 =>
    have H := HA.out
    clear HA
    simp only [spec_l19All.l2] at H
    by_cases c24 : 0 ≤ ((rd_T33 l0_1 x7_2).f0)
    rotate_left
    ·rw [if_neg c24] at H
     exact absurd H (by simp)
    rw [if_pos c24] at H
    have c24b0 : decide (0 ≤ ((rd_T33 l0_1 x7_2).f0)) = true := decide_eq_true c24
    clear c24
    by_cases c25 : ((rd_T33 l0_1 x7_2).f0) < (x5_3.length : Int)
    rotate_left
    ·rw [if_neg c25] at H
     exact absurd H (by simp)
    rw [if_pos c25] at H
    have c25b0 : decide (((rd_T33 l0_1 x7_2).f0) < (x5_3.length : Int)) = true := decide_eq_true c25
    clear c25
    by_cases c26 : x9_3 < ((rd_L5 x5_3 ((rd_T33 l0_1 x7_2).f0)).length : Int)
    rotate_left
    ·rw [if_neg c26] at H
     have c26b0 : decide (x9_3 < ((rd_L5 x5_3 ((rd_T33 l0_1 x7_2).f0)).length : Int)) = false := decide_eq_false c26
     clear c26
     have H' := ak H
     clear H
     have hnb37 := NB342_333.out
     have hnc37 := NB333_342.out
     have hcz38_0 := bc wr BK342 0 (.int .i64 ((rd_T33 l0_1 x7_2).f0)) rfl
     have hcz38_1 := bc wr BK342 1 (.int .i64 ((rd_T33 l0_1 x7_2).f1)) rfl
     have hcz38_2 := bc wr BK342 2 (.int .i64 ((rd_T33 l0_1 x7_2).f2)) rfl
     have hcz38_3 := bc wr BK342 3 (.int .i64 ((rd_T33 l0_1 x7_2).f3)) rfl
     have hcz38_4 := bc wr BK342 4 (.int .i64 ((rd_T33 l0_1 x7_2).f4)) rfl
     have hfz38_0 := fz BK342 0
     have hfz38_1 := fz BK342 1
     have hfz38_2 := fz BK342 2
     have hfz38_3 := fz BK342 3
     have hfz38_4 := fz BK342 4
     have p343 : 0 ≤ (((rd_T33 l0_1 x7_2).f0) : Int) := oT (by (with_reducible assumption))
     have q343 : ((rd_T33 l0_1 x7_2).f0) < (x5_3.length : Int) := oT (by (with_reducible assumption))
     obtain ⟨ad343, A343_0, c343_0, e343, hx343_0, hl343_0, hi343_0⟩ := at_L5 (Kd.N_reads' HO_5.out).2.2 ((rd_T33 l0_1 x7_2).f0) p343 q343
     obtain rfl : (⟨go7, 0, none⟩ : Addr) = ad343 := (by injection e343)
     obtain ⟨ce343, hce343, hMe343, hcc343⟩ := Kd.N_get HO_5.out [] ((rd_T33 l0_1 x7_2).f0) p343 (by exact q343)
     obtain ⟨ua343_0, uc343_0, rfl, ul343_0, ge343_0⟩ := Kd.FK_slice_open hMe343
     have hv343_0 := hcc343 0 _ rfl
     rw [Nat.add_zero, show ((Kd.slice 35 k35)).sz = 1 from rfl, Nat.mul_one] at hv343_0
     replace hv343_0 := Option.some.inj (hv343_0.symm.trans hx343_0)
     injection hv343_0 with hva_ hvn_ hvc_
     rw [hva_] at ge343_0
     rw [hvc_] at ul343_0
     have HL343_0 := ak (show Kd.V k35 35 _ w.heap.size _ _ (rd_L5 x5_3 ((rd_T33 l0_1 x7_2).f0)) from Kd.V_mk ul343_0 ge343_0)
     clear hva_ hvn_ hvc_ ge343_0 ul343_0
     clear hcc343 hce343
     (simp only [add_plain] at hx343_0)
     have HR343_0 := ak hi343_0
     have HC343_0 := ak hl343_0
     clear hi343_0 hl343_0
     replace p343 := eq_true p343
     replace q343 := eq_true q343
     go_wp2
     (try simp only [← hl5_2, ← hl5_3])
     go_roundg k3
     case measure => have := HK1.out; have := HK2.out; have := HK3.out; omega
     case rel => exact ⟨(x5_3), (wrap64 (x7_2 + 1)), (by rfl), H', ⟨by have := HK1.out; have := HK2.out; have := HK3.out; omega⟩, ⟨by (try simp only [hl5_1]); (try simp only [hl5_2]); (try simp only [hl5_3]); exact Kd.N_mono HO_5.out (fun _ hk => ⟨hk.1, hk.2.1⟩)⟩, ⟨by (try simp only [hl5_1]); (try simp only [hl5_2]); (try simp only [hl5_3]); exact BK333.out⟩, ⟨bl2 HB GE333 GE342⟩⟩
    rw [if_pos c26] at H
    have c26b0 : decide (x9_3 < ((rd_L5 x5_3 ((rd_T33 l0_1 x7_2).f0)).length : Int)) = true := decide_eq_true c26
    clear c26
    by_cases c27 : 0 ≤ ((rd_T33 l0_1 x7_2).f1)
    rotate_left
    ·rw [if_neg c27] at H
     exact absurd H (by simp)
    rw [if_pos c27] at H
    have c27b0 : decide (0 ≤ ((rd_T33 l0_1 x7_2).f1)) = true := decide_eq_true c27
    clear c27
    by_cases c28 : ((rd_T33 l0_1 x7_2).f1) < (x5_3.length : Int)
    rotate_left
    ·rw [if_neg c28] at H
     exact absurd H (by simp)
    rw [if_pos c28] at H
    have c28b0 : decide (((rd_T33 l0_1 x7_2).f1) < (x5_3.length : Int)) = true := decide_eq_true c28
    clear c28
    by_cases c29 : 0 ≤ x9_3
    rotate_left
    ·rw [if_neg c29] at H
     exact absurd H (by simp)
    rw [if_pos c29] at H
    have c29b0 : decide (0 ≤ x9_3) = true := decide_eq_true c29
    clear c29
    replace H := Option.bind_eq_some_iff.mp H
    obtain ⟨t349, A300, H⟩ := H
    have A30 := ak A300
    clear A300
    obtain ⟨y352, hy352⟩ : ∃ y_ : List (List (S35)), y_ = (x5_3.set (((rd_T33 l0_1 x7_2).f1) : Int).toNat t349) := ⟨_, rfl⟩
    replace H : (spec_l19All.l2 k3 y352 x6_1 x7_2 (wrap64 (x9_3 + 1)) a0_0 l0_1 ((rd_T33 l0_1 x7_2).f0) ((rd_T33 l0_1 x7_2).f1) ((rd_T33 l0_1 x7_2).f2) ((rd_T33 l0_1 x7_2).f3) ((rd_T33 l0_1 x7_2).f4)) = some r := by (rw [hy352]; with_reducible exact H)
    have Ny352 := ak hy352
    clear hy352
    have H' := ak H
    clear H
    have hnb32 := NB342_333.out
    have hnc32 := NB333_342.out
    have hcz33_0 := bc wr BK342 0 (.int .i64 ((rd_T33 l0_1 x7_2).f0)) rfl
    have hcz33_1 := bc wr BK342 1 (.int .i64 ((rd_T33 l0_1 x7_2).f1)) rfl
    have hcz33_2 := bc wr BK342 2 (.int .i64 ((rd_T33 l0_1 x7_2).f2)) rfl
    have hcz33_3 := bc wr BK342 3 (.int .i64 ((rd_T33 l0_1 x7_2).f3)) rfl
    have hcz33_4 := bc wr BK342 4 (.int .i64 ((rd_T33 l0_1 x7_2).f4)) rfl
    have hfz33_0 := fz BK342 0
    have hfz33_1 := fz BK342 1
    have hfz33_2 := fz BK342 2
    have hfz33_3 := fz BK342 3
    have hfz33_4 := fz BK342 4
    have p343 : 0 ≤ (((rd_T33 l0_1 x7_2).f0) : Int) := oT (by (with_reducible assumption))
    have q343 : ((rd_T33 l0_1 x7_2).f0) < (x5_3.length : Int) := oT (by (with_reducible assumption))
    obtain ⟨ad343, A343_0, c343_0, e343, hx343_0, hl343_0, hi343_0⟩ := at_L5 (Kd.N_reads' HO_5.out).2.2 ((rd_T33 l0_1 x7_2).f0) p343 q343
    obtain rfl : (⟨go7, 0, none⟩ : Addr) = ad343 := (by injection e343)
    obtain ⟨ce343, hce343, hMe343, hcc343⟩ := Kd.N_get HO_5.out [] ((rd_T33 l0_1 x7_2).f0) p343 (by exact q343)
    obtain ⟨ua343_0, uc343_0, rfl, ul343_0, ge343_0⟩ := Kd.FK_slice_open hMe343
    have hv343_0 := hcc343 0 _ rfl
    rw [Nat.add_zero, show ((Kd.slice 35 k35)).sz = 1 from rfl, Nat.mul_one] at hv343_0
    replace hv343_0 := Option.some.inj (hv343_0.symm.trans hx343_0)
    injection hv343_0 with hva_ hvn_ hvc_
    rw [hva_] at ge343_0
    rw [hvc_] at ul343_0
    have HL343_0 := ak (show Kd.V k35 35 _ w.heap.size _ _ (rd_L5 x5_3 ((rd_T33 l0_1 x7_2).f0)) from Kd.V_mk ul343_0 ge343_0)
    clear hva_ hvn_ hvc_ ge343_0 ul343_0
    clear hcc343 hce343
    (simp only [add_plain] at hx343_0)
    have HR343_0 := ak hi343_0
    have HC343_0 := ak hl343_0
    clear hi343_0 hl343_0
    replace p343 := eq_true p343
    replace q343 := eq_true q343
    try go_wp2
    replace HO_5 := ak (Kd.N_drew HO_5.out)
    replace HL343_0 := ak (Kd.V_drew HL343_0.out)
    replace BK333 := ak (blk_drew BK333.out)
    replace BK342 := ak (blk_drew BK342.out)
    replace HR343_0 := ak (Kd.C_drew HR343_0.out)
    replace HB := ak (below_drew1 HB.out)
    have p344 : 0 ≤ (((rd_T33 l0_1 x7_2).f1) : Int) := oT (by (with_reducible assumption))
    have q344 : ((rd_T33 l0_1 x7_2).f1) < (x5_3.length : Int) := oT (by (with_reducible assumption))
    obtain ⟨ad344, A344_0, c344_0, e344, hx344_0, hl344_0, hi344_0⟩ := at_L5 (Kd.N_reads' HO_5.out).2.2 ((rd_T33 l0_1 x7_2).f1) p344 q344
    obtain rfl : (⟨go7, 0, none⟩ : Addr) = ad344 := (by injection e344)
    obtain ⟨ce344, hce344, hMe344, hcc344⟩ := Kd.N_get HO_5.out [] ((rd_T33 l0_1 x7_2).f1) p344 (by exact q344)
    obtain ⟨ua344_0, uc344_0, rfl, ul344_0, ge344_0⟩ := Kd.FK_slice_open hMe344
    have hv344_0 := hcc344 0 _ rfl
    rw [Nat.add_zero, show ((Kd.slice 35 k35)).sz = 1 from rfl, Nat.mul_one] at hv344_0
    replace hv344_0 := Option.some.inj (hv344_0.symm.trans hx344_0)
    injection hv344_0 with hva_ hvn_ hvc_
    rw [hva_] at ge344_0
    rw [hvc_] at ul344_0
    have HL344_0 := ak (show Kd.V k35 35 _ w.heap.size _ _ (rd_L5 x5_3 ((rd_T33 l0_1 x7_2).f1)) from Kd.V_mk ul344_0 ge344_0)
    clear hva_ hvn_ hvc_ ge344_0 ul344_0
    clear hcc344 hce344
    (simp only [add_plain] at hx344_0)
    have HR344_0 := ak hi344_0
    have HC344_0 := ak hl344_0
    clear hi344_0 hl344_0
    replace p344 := eq_true p344
    replace q344 := eq_true q344
    have p345 : 0 ≤ (((rd_T33 l0_1 x7_2).f0) : Int) := oT (by (with_reducible assumption))
    have q345 : ((rd_T33 l0_1 x7_2).f0) < (x5_3.length : Int) := oT (by (with_reducible assumption))
    obtain ⟨ad345, A345_0, c345_0, e345, hx345_0, hl345_0, hi345_0⟩ := at_L5 (Kd.N_reads' HO_5.out).2.2 ((rd_T33 l0_1 x7_2).f0) p345 q345
    obtain rfl : (⟨go7, 0, none⟩ : Addr) = ad345 := (by injection e345)
    obtain ⟨ce345, hce345, hMe345, hcc345⟩ := Kd.N_get HO_5.out [] ((rd_T33 l0_1 x7_2).f0) p345 (by exact q345)
    obtain ⟨ua345_0, uc345_0, rfl, ul345_0, ge345_0⟩ := Kd.FK_slice_open hMe345
    have hv345_0 := hcc345 0 _ rfl
    rw [Nat.add_zero, show ((Kd.slice 35 k35)).sz = 1 from rfl, Nat.mul_one] at hv345_0
    replace hv345_0 := Option.some.inj (hv345_0.symm.trans hx345_0)
    injection hv345_0 with hva_ hvn_ hvc_
    rw [hva_] at ge345_0
    rw [hvc_] at ul345_0
    have HL345_0 := ak (show Kd.V k35 35 _ w.heap.size _ _ (rd_L5 x5_3 ((rd_T33 l0_1 x7_2).f0)) from Kd.V_mk ul345_0 ge345_0)
    clear hva_ hvn_ hvc_ ge345_0 ul345_0
    clear hcc345 hce345
    (simp only [add_plain] at hx345_0)
    have HR345_0 := ak hi345_0
    have HC345_0 := ak hl345_0
    clear hi345_0 hl345_0
    replace p345 := eq_true p345
    replace q345 := eq_true q345
    have p346 : 0 ≤ (x9_3 : Int) := oT (by (with_reducible assumption))
    have q346 : x9_3 < ((rd_L5 x5_3 ((rd_T33 l0_1 x7_2).f0)).length : Int) := oT (by (with_reducible assumption))
    obtain ⟨ad346, e346, hx346_0, hx346_1⟩ := at_T35 (by repeat ((with_reducible exact HR345_0.out))) x9_3 p346 q346
    cases e346
    replace p346 := eq_true p346
    replace q346 := eq_true q346
    have p347 : 0 ≤ (((rd_T33 l0_1 x7_2).f0) : Int) := oT (by (with_reducible assumption))
    have q347 : ((rd_T33 l0_1 x7_2).f0) < (x5_3.length : Int) := oT (by (with_reducible assumption))
    obtain ⟨ad347, A347_0, c347_0, e347, hx347_0, hl347_0, hi347_0⟩ := at_L5 (Kd.N_reads' HO_5.out).2.2 ((rd_T33 l0_1 x7_2).f0) p347 q347
    obtain rfl : (⟨go7, 0, none⟩ : Addr) = ad347 := (by injection e347)
    obtain ⟨ce347, hce347, hMe347, hcc347⟩ := Kd.N_get HO_5.out [] ((rd_T33 l0_1 x7_2).f0) p347 (by exact q347)
    obtain ⟨ua347_0, uc347_0, rfl, ul347_0, ge347_0⟩ := Kd.FK_slice_open hMe347
    have hv347_0 := hcc347 0 _ rfl
    rw [Nat.add_zero, show ((Kd.slice 35 k35)).sz = 1 from rfl, Nat.mul_one] at hv347_0
    replace hv347_0 := Option.some.inj (hv347_0.symm.trans hx347_0)
    injection hv347_0 with hva_ hvn_ hvc_
    rw [hva_] at ge347_0
    rw [hvc_] at ul347_0
    have HL347_0 := ak (show Kd.V k35 35 _ w.heap.size _ _ (rd_L5 x5_3 ((rd_T33 l0_1 x7_2).f0)) from Kd.V_mk ul347_0 ge347_0)
    clear hva_ hvn_ hvc_ ge347_0 ul347_0
    clear hcc347 hce347
    (simp only [add_plain] at hx347_0)
    have HR347_0 := ak hi347_0
    have HC347_0 := ak hl347_0
    clear hi347_0 hl347_0
    replace p347 := eq_true p347
    replace q347 := eq_true q347
    have ea_ := Option.some.inj (hx345_0.symm.trans hx347_0)
    injection ea_ with ea_ en_ ec_
    subst ea_
    subst ec_
    clear en_
    have p348 : 0 ≤ (x9_3 : Int) := oT (by (with_reducible assumption))
    have q348 : x9_3 < ((rd_L5 x5_3 ((rd_T33 l0_1 x7_2).f0)).length : Int) := oT (by (with_reducible assumption))
    obtain ⟨ad348, e348, hx348_0, hx348_1⟩ := at_T35 (by repeat ((with_reducible exact HR347_0.out))) x9_3 p348 q348
    cases e348
    replace p348 := eq_true p348
    replace q348 := eq_true q348
    refine start_ (n := 36) (S := fun w' => w'.cell? ⟨gb342, 0, none⟩ = some (.int .i64 ((rd_T33 l0_1 x7_2).f0)) ∧ w'.cell? ⟨gb342, 1, none⟩ = some (.int .i64 ((rd_T33 l0_1 x7_2).f1)) ∧ w'.cell? ⟨gb342, 2, none⟩ = some (.int .i64 ((rd_T33 l0_1 x7_2).f2)) ∧ w'.cell? ⟨gb342, 3, none⟩ = some (.int .i64 ((rd_T33 l0_1 x7_2).f3)) ∧ w'.cell? ⟨gb342, 4, none⟩ = some (.int .i64 ((rd_T33 l0_1 x7_2).f4)) ∧ w'.cell? ⟨go7, (((rd_T33 l0_1 x7_2).f1)).toNat, none⟩ = some (.slice A344_0 (rd_L5 x5_3 ((rd_T33 l0_1 x7_2).f1)).length c344_0) ∧ w'.cell? ⟨go7, (((rd_T33 l0_1 x7_2).f0)).toNat, none⟩ = some (.slice (some ad346) (rd_L5 x5_3 ((rd_T33 l0_1 x7_2).f0)).length c345_0) ∧ w'.cell? (ad346.add ((x9_3).toNat * 2)) = some (.int .i64 ((rd_T35 (rd_L5 x5_3 ((rd_T33 l0_1 x7_2).f0)) x9_3).f0)) ∧ w'.cell? ⟨(ad346.add ((x9_3).toNat * 2)).block, (ad346.add ((x9_3).toNat * 2)).off + 1, none⟩ = some (.int .i64 ((rd_T35 (rd_L5 x5_3 ((rd_T33 l0_1 x7_2).f0)) x9_3).f1)) ∧ w'.cell? ⟨go7, (((rd_T33 l0_1 x7_2).f0)).toNat, none⟩ = some (.slice (some ad346) (rd_L5 x5_3 ((rd_T33 l0_1 x7_2).f0)).length c345_0) ∧ w'.cell? (ad346.add ((x9_3).toNat * 2)) = some (.int .i64 ((rd_T35 (rd_L5 x5_3 ((rd_T33 l0_1 x7_2).f0)) x9_3).f0)) ∧ w'.cell? ⟨(ad346.add ((x9_3).toNat * 2)).block, (ad346.add ((x9_3).toNat * 2)).off + 1, none⟩ = some (.int .i64 ((rd_T35 (rd_L5 x5_3 ((rd_T33 l0_1 x7_2).f0)) x9_3).f1))) (ds := [35]) (ms 36 0) (by kernel_rfl) rfl (by kernel_rfl) ⟨(blk_cell BK342.out 0).trans rfl, (blk_cell BK342.out 1).trans rfl, (blk_cell BK342.out 2).trans rfl, (blk_cell BK342.out 3).trans rfl, (blk_cell BK342.out 4).trans rfl, hx344_0, hx345_0, hx346_0, hx346_1, hx347_0, hx348_0, hx348_1⟩ (fun hHeld => ?_); refine with_tabW spec_l19All.tab13 spec_l19All.bits13 (fun HT_ HW_ => ?_)
    generalize wr.drew = w34 at HO_5 HL343_0 BK333 BK342 HR343_0 HB HL344_0 HL345_0 HL347_0 HR344_0 HR345_0 HR347_0 hx344_0 hx345_0 hx346_0 hx346_1 hx347_0 hx348_0 hx348_1 hHeld ⊢
    refine pu 0 46 ?_ (ms 36 1) rfl rfl HT_ (by kernel_rfl) (fun _ _ _ h => h) (by rfl) ?_ ?_ ?_ ?_
    rotate_left
    ·intro w'
     go_simp
     with_reducible rfl
    rotate_left
    ·simp only [SX]
     rfl
    refine pu 1 47 ?_ (ms 36 3) rfl rfl HT_ (by kernel_rfl) (fun _ _ _ h => h) (by rfl) ?_ ?_ ?_ ?_
    rotate_left
    ·intro w'
     go_simp
     with_reducible rfl
    rotate_left
    ·simp only [SX]
     rfl
    refine pu 3 49 ?_ (ms 36 11) rfl rfl HT_ (by kernel_rfl) (fun _ _ _ h => h) (by rfl) ?_ ?_ ?_ ?_
    rotate_left
    ·intro w'
     go_simp
     with_reducible rfl
    rotate_left
    ·simp only [SX]
     rfl
    refine pu 4 50 ?_ (ms 36 27) rfl rfl HT_ (by kernel_rfl) (fun _ _ _ h => h) (by rfl) ?_ ?_ ?_ ?_
    rotate_left
    ·intro w'
     go_simp
     with_reducible rfl
    rotate_left
    ·simp only [SX]
     rfl
    refine pu 8 54 ?_ (ms 36 283) rfl rfl HT_ (by kernel_rfl) (fun _ _ _ h => h) (by rfl) ?_ ?_ ?_ ?_
    rotate_left
    ·intro w'
     go_simp
     with_reducible rfl
    rotate_left
    ·simp only [SX]
     rfl
    refine pu 9 55 ?_ (ms 36 795) rfl rfl HT_ (by kernel_rfl) (fun _ _ _ h => h) (by rfl) ?_ ?_ ?_ ?_
    rotate_left
    ·intro w'
     go_simp
     with_reducible rfl
    rotate_left
    ·simp only [SX]
     rfl
    refine pu 13 59 ?_ (ms 36 8987) rfl rfl HT_ (by kernel_rfl) (fun _ _ _ h => h) (by rfl) ?_ ?_ ?_ ?_
    rotate_left
    ·intro w'
     go_simp
     with_reducible rfl
    rotate_left
    ·simp only [SX]
     rfl
    refine pu 17 63 ?_ (ms 36 140059) rfl rfl HT_ (by kernel_rfl) (fun _ _ _ h => h) (by rfl) ?_ ?_ ?_ ?_
    rotate_left
    ·intro w'
     go_simp
     with_reducible rfl
    rotate_left
    ·simp only [SX]
     rfl
    refine pu 20 66 ?_ (ms 36 1188635) rfl rfl HT_ (by kernel_rfl) (fun _ _ _ h => h) (by rfl) ?_ ?_ ?_ ?_
    rotate_left
    ·intro w'
     go_simp
     with_reducible rfl
    rotate_left
    ·simp only [SX]
     rfl
    refine pu 21 67 ?_ (ms 36 3285787) rfl rfl HT_ (by kernel_rfl) (fun _ _ _ h => h) (by rfl) ?_ ?_ ?_ ?_
    rotate_left
    ·intro w'
     go_simp
     with_reducible rfl
    rotate_left
    ·simp only [SX]
     rfl
    refine pu 25 71 ?_ (ms 36 36840219) rfl rfl HT_ (by kernel_rfl) (fun _ _ _ h => h) (by rfl) ?_ ?_ ?_ ?_
    rotate_left
    ·intro w'
     go_simp
     with_reducible rfl
    rotate_left
    ·simp only [SX]
     rfl
    refine pu 29 75 ?_ (ms 36 573711131) rfl rfl HT_ (by kernel_rfl) (fun _ _ _ h => h) (by rfl) ?_ ?_ ?_ ?_
    rotate_left
    ·intro w'
     go_simp
     with_reducible rfl
    rotate_left
    ·simp only [SX]
     rfl
    refine tk 2 48 ?_ (ms 36 573711135) rfl rfl HT_ HW_ (by kernel_rfl) (fun _ _ _ h => h) (by rfl) ?_ hHeld ?_ ?_ ?_
    rotate_left
    ·rintro w' ⟨s0, s1, s2, s3, s4, s5, s6, s7, s8, s9, s10, s11⟩
     go_simp
     with_reducible rfl
    rotate_left
    ·simp only [SX]
     rfl
    refine tk 5 51 ?_ (ms 36 573711167) rfl rfl HT_ HW_ (by kernel_rfl) (fun _ _ _ h => h) (by rfl) ?_ hHeld ?_ ?_ ?_
    rotate_left
    ·rintro w' ⟨s0, s1, s2, s3, s4, s5, s6, s7, s8, s9, s10, s11⟩
     go_simp
     with_reducible rfl
    rotate_left
    ·simp only [SX]
     rfl
    refine pu 6 52 ?_ (ms 36 573711231) rfl rfl HT_ (by kernel_rfl) (fun _ _ _ h => h) (by rfl) ?_ ?_ ?_ ?_
    rotate_left
    ·intro w'
     go_simp
     with_reducible rfl
    rotate_left
    ·simp only [SX]
     rfl
    refine tk 7 53 ?_ (ms 36 573711359) rfl rfl HT_ HW_ (by kernel_rfl) (fun _ _ _ h => h) (by rfl) ?_ hHeld ?_ ?_ ?_
    rotate_left
    ·rintro w' ⟨s0, s1, s2, s3, s4, s5, s6, s7, s8, s9, s10, s11⟩
     go_simp
     with_reducible rfl
    rotate_left
    ·simp only [SX]
     rfl
    refine tk 10 56 ?_ (ms 36 573712383) rfl rfl HT_ HW_ (by kernel_rfl) (fun _ _ _ h => h) (by rfl) ?_ hHeld ?_ ?_ ?_
    rotate_left
    ·rintro w' ⟨s0, s1, s2, s3, s4, s5, s6, s7, s8, s9, s10, s11⟩
     go_simp
     with_reducible rfl
    rotate_left
    ·simp only [SX]
     rfl
    refine pu 11 57 ?_ (ms 36 573714431) rfl rfl HT_ (by kernel_rfl) (fun _ _ _ h => h) (by rfl) ?_ ?_ ?_ ?_
    rotate_left
    ·intro w'
     go_simp
     with_reducible rfl
    rotate_left
    ·simp only [SX]
     rfl
    refine tk 12 58 ?_ (ms 36 573718527) rfl rfl HT_ HW_ (by kernel_rfl) (fun _ _ _ h => h) (by rfl) ?_ hHeld ?_ ?_ ?_
    rotate_left
    ·rintro w' ⟨s0, s1, s2, s3, s4, s5, s6, s7, s8, s9, s10, s11⟩
     go_simp
     with_reducible rfl
    rotate_left
    ·simp only [SX]
     rfl
    refine pu 14 60 ?_ (ms 36 573734911) rfl rfl HT_ (by kernel_rfl) (fun _ _ _ h => h) (by rfl) ?_ ?_ ?_ ?_
    rotate_left
    ·intro w'
     go_simp
     with_reducible rfl
    rotate_left
    ·simp only [SX]
     rfl
    refine pu 15 61 ?_ (ms 36 573767679) rfl rfl HT_ (by kernel_rfl) (fun _ _ _ h => h) (by rfl) ?_ ?_ ?_ ?_
    rotate_left
    ·intro w'
     go_simp
     with_reducible rfl
    rotate_left
    ·simp only [SX]
     rfl
    refine tk 16 62 ?_ (ms 36 573833215) rfl rfl HT_ HW_ (by kernel_rfl) (fun _ _ _ h => h) (by rfl) ?_ hHeld ?_ ?_ ?_
    rotate_left
    ·rintro w' ⟨s0, s1, s2, s3, s4, s5, s6, s7, s8, s9, s10, s11⟩
     go_simp
     with_reducible rfl
    rotate_left
    ·simp only [SX]
     rfl
    refine tk 18 64 ?_ (ms 36 574095359) rfl rfl HT_ HW_ (by kernel_rfl) (fun _ _ _ h => h) (by rfl) ?_ hHeld ?_ ?_ ?_
    rotate_left
    ·rintro w' ⟨s0, s1, s2, s3, s4, s5, s6, s7, s8, s9, s10, s11⟩
     go_simp
     with_reducible rfl
    rotate_left
    ·simp only [SX]
     rfl
    refine pu 19 65 ?_ (ms 36 574619647) rfl rfl HT_ (by kernel_rfl) (fun _ _ _ h => h) (by rfl) ?_ ?_ ?_ ?_
    rotate_left
    ·intro w'
     go_simp
     with_reducible rfl
    rotate_left
    ·simp only [SX]
     rfl
    refine tk 22 68 ?_ (ms 36 578813951) rfl rfl HT_ HW_ (by kernel_rfl) (fun _ _ _ h => h) (by rfl) ?_ hHeld ?_ ?_ ?_
    rotate_left
    ·rintro w' ⟨s0, s1, s2, s3, s4, s5, s6, s7, s8, s9, s10, s11⟩
     go_simp
     with_reducible rfl
    rotate_left
    ·simp only [SX]
     rfl
    refine pu 23 69 ?_ (ms 36 587202559) rfl rfl HT_ (by kernel_rfl) (fun _ _ _ h => h) (by rfl) ?_ ?_ ?_ ?_
    rotate_left
    ·intro w'
     go_simp
     with_reducible rfl
    rotate_left
    ·simp only [SX]
     rfl
    refine tk 24 70 ?_ (ms 36 603979775) rfl rfl HT_ HW_ (by kernel_rfl) (fun _ _ _ h => h) (by rfl) ?_ hHeld ?_ ?_ ?_
    rotate_left
    ·rintro w' ⟨s0, s1, s2, s3, s4, s5, s6, s7, s8, s9, s10, s11⟩
     go_simp
     with_reducible rfl
    rotate_left
    ·simp only [SX]
     rfl
    refine pu 26 72 ?_ (ms 36 671088639) rfl rfl HT_ (by kernel_rfl) (fun _ _ _ h => h) (by rfl) ?_ ?_ ?_ ?_
    rotate_left
    ·intro w'
     go_simp
     with_reducible rfl
    rotate_left
    ·simp only [SX]
     rfl
    refine pu 27 73 ?_ (ms 36 805306367) rfl rfl HT_ (by kernel_rfl) (fun _ _ _ h => h) (by rfl) ?_ ?_ ?_ ?_
    rotate_left
    ·intro w'
     go_simp
     with_reducible rfl
    rotate_left
    ·simp only [SX]
     rfl
    refine tk 28 74 ?_ (ms 36 1073741823) rfl rfl HT_ HW_ (by kernel_rfl) (fun _ _ _ h => h) (by rfl) ?_ hHeld ?_ ?_ ?_
    rotate_left
    ·rintro w' ⟨s0, s1, s2, s3, s4, s5, s6, s7, s8, s9, s10, s11⟩
     go_simp
     with_reducible rfl
    rotate_left
    ·simp only [SX]
     rfl
    refine tk 30 76 ?_ (ms 36 2147483647) rfl rfl HT_ HW_ (by kernel_rfl) (fun _ _ _ h => h) (by rfl) ?_ hHeld ?_ ?_ ?_
    rotate_left
    ·rintro w' ⟨s0, s1, s2, s3, s4, s5, s6, s7, s8, s9, s10, s11⟩
     go_simp
     with_reducible rfl
    rotate_left
    ·simp only [SX]
     rfl
    refine pu 31 77 ?_ (ms 36 4294967295) rfl rfl HT_ (by kernel_rfl) (fun _ _ _ h => h) (by rfl) ?_ ?_ ?_ ?_
    rotate_left
    ·intro w'
     go_simp
     with_reducible rfl
    rotate_left
    ·simp only [SX]
     rfl
    refine pu 32 78 ?_ (ms 36 8589934591) rfl rfl HT_ (by kernel_rfl) (fun _ _ _ h => h) (by rfl) ?_ ?_ ?_ ?_
    rotate_left
    ·intro w'
     go_simp
     with_reducible rfl
    rotate_left
    ·simp only [SX]
     rfl
    refine one_ (i := 33) (N := some 79) (ms 36 17179869183) rfl rfl (one_of HT_.out (by kernel_rfl)) (by decide) (fun K hK => ?_)
    refine goes_ Try.func72 (by kernel_rfl) rfl #[.slice A344_0 (rd_L5 x5_3 ((rd_T33 l0_1 x7_2).f1)).length c344_0, .agg #[.int .i64 (wrap64 (((rd_T35 (rd_L5 x5_3 ((rd_T33 l0_1 x7_2).f0)) x9_3).f0) + ((rd_T33 l0_1 x7_2).f2))), .int .i64 (wrap64 (((rd_T35 (rd_L5 x5_3 ((rd_T33 l0_1 x7_2).f0)) x9_3).f1) + ((rd_T33 l0_1 x7_2).f3)))]] (by rfl) rfl rfl (by (try simp only [List.map_toArray, List.map_cons, List.map_nil]); rfl) ?_
    with_reducible refine (spec_l19Put.calls k3 (fun k_ => (((w.heap.size ≤ k_) ∧ (k_ ≠ gb333 ∧ k_ ≠ gb342)) ∧ some k_ ≠ (.slice (some ⟨go7, 0, none⟩) x5_3.length co7 : Value).ownBlock)) _ _ (rd_L5 x5_3 ((rd_T33 l0_1 x7_2).f1)) (wrap64 (((rd_T35 (rd_L5 x5_3 ((rd_T33 l0_1 x7_2).f0)) x9_3).f0) + ((rd_T33 l0_1 x7_2).f2))) (wrap64 (((rd_T35 (rd_L5 x5_3 ((rd_T33 l0_1 x7_2).f0)) x9_3).f1) + ((rd_T33 l0_1 x7_2).f3))) t349 _ ?side1 A30.out).mono ?_
    (case side1 => exact HL344_0.out)
    rintro e w35 ⟨v350, rfl, ho0, hb⟩
    obtain ⟨Av_, cv_, rfl⟩ : ∃ A c, v350 = Value.slice A t349.length c := (by obtain ⟨A, c, h, _⟩ := ho0; exact ⟨A, c, h⟩)
    have HS5_ := (hb.cell (World.block_lt_of_cell? _ _ (hHeld.2.2.2.2.2.1))).trans (hHeld.2.2.2.2.2.1)
    have HS6_ := (hb.cell (World.block_lt_of_cell? _ _ (hHeld.2.2.2.2.2.2.1))).trans (hHeld.2.2.2.2.2.2.1)
    have HS7_ := (hb.cell (World.block_lt_of_cell? _ _ (hHeld.2.2.2.2.2.2.2.1))).trans (hHeld.2.2.2.2.2.2.2.1)
    have HS8_ := (hb.cell (World.block_lt_of_cell? _ _ (hHeld.2.2.2.2.2.2.2.2.1))).trans (hHeld.2.2.2.2.2.2.2.2.1)
    have HS9_ := (hb.cell (World.block_lt_of_cell? _ _ (hHeld.2.2.2.2.2.2.2.2.2.1))).trans (hHeld.2.2.2.2.2.2.2.2.2.1)
    have HS10_ := (hb.cell (World.block_lt_of_cell? _ _ (hHeld.2.2.2.2.2.2.2.2.2.2.1))).trans (hHeld.2.2.2.2.2.2.2.2.2.2.1)
    have HS11_ := (hb.cell (World.block_lt_of_cell? _ _ (hHeld.2.2.2.2.2.2.2.2.2.2.2))).trans (hHeld.2.2.2.2.2.2.2.2.2.2.2)
    refine ⟨_, rfl, ?_⟩
    replace HL343_0 := ak (Kd.V_below (by exact HL343_0.out) hb)
    replace HL344_0 := ak (Kd.V_below (by exact HL344_0.out) hb)
    replace HL345_0 := ak (Kd.V_below (by exact HL345_0.out) hb)
    replace HL347_0 := ak (Kd.V_below (by exact HL347_0.out) hb)
    have HO351 := ak (Kd.V_lower (Kd.V_mono (ok' := fun k_ => (w.heap.size ≤ k_) ∧ some k_ ≠ (.slice (some ⟨go7, 0, none⟩) x5_3.length co7 : Value).ownBlock ∧ k_ ≠ gb333 ∧ k_ ≠ gb342) ho0 (fun k_ hk_ => ⟨Or.elim hk_ (fun hs_ => hs_.1.1) (fun hn_ => (Nat.le_trans (below_size (bl2 HB GE333 GE342)) hn_)), Or.elim hk_ (fun hs_ => hs_.2) (fun hn_ => (Kd.fresh' (Kd.N_lt (by exact HO_5.out)) k_ hn_)), Or.elim hk_ (fun hs_ => hs_.1.2.1) (fun hn_ => (Kd.freshB (bk BK333) k_ hn_)), Or.elim hk_ (fun hs_ => hs_.1.2.2) (fun hn_ => (Kd.freshB (bk BK342) k_ hn_))⟩)) (below_size (bl2 HB GE333 GE342)))
    replace HO_5 := ak (Kd.N_below (by exact HO_5.out) hb)
    replace BK333 := ak (blk_below (bk BK333) hb)
    replace BK342 := ak (blk_below (bk BK342) hb)
    replace HR343_0 := ak (Kd.C_below (by repeat ((with_reducible exact HR343_0.out))) hb)
    replace HR344_0 := ak (Kd.C_below (by repeat ((with_reducible exact HR344_0.out))) hb)
    replace HR345_0 := ak (Kd.C_below (by repeat ((with_reducible exact HR345_0.out))) hb)
    replace HR347_0 := ak (Kd.C_below (by repeat ((with_reducible exact HR347_0.out))) hb)
    replace HB := ak (below_step (bl2 HB GE333 GE342) hb)
    (try clear hb)
    (try clear hb2)
    (try clear hk)
    (try clear hi)
    (try clear ho0)
    have p31 : 0 ≤ (((rd_T33 l0_1 x7_2).f1) : Int) := oT (by (with_reducible assumption))
    have q31 : (((rd_T33 l0_1 x7_2).f1) : Int) < ((x5_3.length : Int) : Int) := oT (by (with_reducible assumption))
    obtain ⟨ce31, hcl31, hM31, hcc31, hfr31⟩ := Kd.N_elem HO_5.out [] (((rd_T33 l0_1 x7_2).f1) : Int) p31 q31
    obtain ⟨ua31_0, uc31_0, rfl, ul31_0, ge31_0⟩ := Kd.FK_slice_open hM31
    have hx31_0 := hcc31 0 _ rfl
    have hf31_0 := hfr31 0
    (try simp only [show ((Kd.slice 35 k35)).sz = 1 from rfl, Nat.mul_one, Nat.add_zero] at hx31_0)
    (try simp only [show ((Kd.slice 35 k35)).sz = 1 from rfl, Nat.mul_one, Nat.add_zero] at hf31_0)
    clear hcl31 hcc31 hfr31 hM31
    replace p31 := eq_true p31
    replace q31 := eq_true q31
    have HX36 := ak (show Kd.N (Kd.slice 35 k35) 30 _ w.heap.size (fun k_ => (w.heap.size ≤ k_) ∧ k_ ≠ gb333 ∧ k_ ≠ gb342) (.slice (some ⟨go7, 0, none⟩) x5_3.length co7) x5_3 from (Kd.N_mono (HO_5.out) (fun k_ hk => ⟨hk.1, ⟨hk.2.1, hk.2.2⟩⟩)))
    obtain ⟨ce36, hcl36, hM36, hcc36, hfr36⟩ := Kd.N_elem HX36.out [] (((rd_T33 l0_1 x7_2).f1) : Int) (oT (by (with_reducible assumption))) (by have h_ : (((rd_T33 l0_1 x7_2).f1) : Int) < ((x5_3.length : Int) : Int) := oT (by (with_reducible assumption)); exact h_)
    obtain ⟨ua36_0, uc36_0, rfl, ul36_0, ge36_0⟩ := Kd.FK_slice_open hM36
    have HP36 := (Kd.N_seg HX36.out (((rd_T33 l0_1 x7_2).f1) : Int) (oT (by (with_reducible assumption))) (by have h_ : (((rd_T33 l0_1 x7_2).f1) : Int) < ((x5_3.length : Int) : Int) := oT (by (with_reducible assumption)); exact h_) (seg := [.slice Av_ t349.length cv_]) (j := 0) hcl36 hcc36 (show 1 ≤ 1 from by decide) (x' := t349) (Kd.FK_rowV (Kd.V_mono (ok' := (fun k_ => ((fun k_ => (w.heap.size ≤ k_) ∧ k_ ≠ gb333 ∧ k_ ≠ gb342)) k_ ∧ k_ ≠ go7)) (HO351.out) (fun k_ hk => ⟨⟨hk.1, ⟨hk.2.2.1, hk.2.2.2⟩⟩, fun e_ => (hk.2.1) (by rw [e_]; rfl)⟩))) (fun _ hk => hk)).1
    (try simp only [show ((Kd.slice 35 k35)).sz = 1 from rfl, Nat.mul_one, Nat.add_zero] at HP36)
    rw [← Ny352.out] at HP36
    have HQ36 := ak HP36
    clear hcl36 hcc36 hfr36 hM36 HP36
    refine hK.out _ _ ⟨(blk_cell BK342.out 0).trans rfl, (blk_cell BK342.out 1).trans rfl, (blk_cell BK342.out 2).trans rfl, (blk_cell BK342.out 3).trans rfl, (blk_cell BK342.out 4).trans rfl, HS5_, HS6_, HS7_, HS8_, HS9_, HS10_, HS11_⟩ (fun hHeld => ?_)
    clear hK K
    refine norm_ (a' := ?_) ?_ ?_
    rotate_left
    ·show Act.put _ (some 79) _ = _
     simp only [SX]
     rfl
    refine pu 34 80 ?_ (ms 36 34359738367) rfl rfl HT_ (by kernel_rfl) (fun _ _ _ h => h) (by rfl) ?_ ?_ ?_ ?_
    rotate_left
    ·intro w'
     go_simp
     with_reducible rfl
    rotate_left
    ·simp only [SX]
     rfl
    refine last_ (i := 35) (N := none) (ms 36 68719476735) rfl rfl (one_of HT_.out (by kernel_rfl)) (by decide) (fun K hK => ?_)
    refine skip_ (w1 := ?_) (by rfl) rfl ?_ ?_
    rotate_left
    ·go_simp
     rfl
    refine hK.out _ _ ?_
    clear hK K
    refine done_ (done_of HT_.out (by kernel_rfl)) ?_
    try go_wp2
    (try simp only [← hl5_3])
    go_roundg k3
    case measure => have := HK1.out; have := HK2.out; have := HK3.out; omega
    case rel => exact ⟨(y352), (wrap64 (x9_3 + 1)), (by rfl), H', ⟨by have := HK1.out; have := HK2.out; have := HK3.out; omega⟩, ⟨by (try simp only [hl5_1]); (try simp only [hl5_2]); (try simp only [hl5_3]); exact HQ36.out⟩, ⟨by (try simp only [hl5_1]); (try simp only [hl5_2]); (try simp only [hl5_3]); refine blk_far ?_ (by have h_ := Kd.N_away HO_5.out (fun _ hk => hk.2.1); intro e_; exact h_ (by rw [e_]; rfl)) _; exact BK333.out⟩, ⟨by (try simp only [hl5_1]); (try simp only [hl5_2]); (try simp only [hl5_3]); refine blk_far ?_ (by have h_ := Kd.N_away HO_5.out (fun _ hk => hk.2.2); intro e_; exact h_ (by rw [e_]; rfl)) _; exact BK342.out⟩, ⟨by repeat ((with_reducible first | exact HB.out | refine below_set ?_ GB7.out))⟩⟩

end Go.Proofs.Ytddkaiegnohkcaa.F
