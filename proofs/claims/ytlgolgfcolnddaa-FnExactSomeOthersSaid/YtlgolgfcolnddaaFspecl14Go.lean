-- Printed by wip/px/px.py of this claim's repository (the kit's printer, extended there). Lean checks it.
import Derived.Test.YtlgolgfcolnddaaFKinds
import Derived.Test.YtlgolgfcolnddaaFspecl14Put
namespace Go.Proofs.Ytlgolgfcolnddaa.F
open Go.RowKit Go.Proofs.YtlgolgfcolnddaaW.PrintWords Go.Proofs.YtlgolgfcolnddaaW.PrintLast Go.Proofs.YtlgolgfcolnddaaW.PrintMore
attribute [local go_sem] max2_int min2_int max_two min_two max_three min_three max_four min_four   -- for this text's walks alone
set_option linter.unusedVariables false
set_option linter.unusedSimpArgs false

/-! ### spec_l14Go: function 90 -/
mutual
def spec_l14Go.l0 : Nat → Int → Int → Int → List Bool → List (S103) → Int → Int → List (S58) → List Int → Int → Option ((List (S103)) × List Bool)
 | 0, _, _, _, _, _, _, _, _, _, _ => none
 | k + 1, x1, x2, x3, x4, x6, x15, x222000, x222001, x223000, x223001 => if x15 < (x222001.length : Int) then (if 0 ≤ x15 then (if ((rd_T58 x222001 x15).f0) = x3 then (if 0 ≤ ((rd_T58 x222001 x15).f1) then (if ((rd_T58 x222001 x15).f1) < (x4.length : Int) then (if rdOf false x4 ((rd_T58 x222001 x15).f1) = true then (spec_l14Go.l0 k x1 x2 x3 x4 x6 (wrap64 (x15 + 1)) x222000 x222001 x223000 x223001) else (if (x6.length : Int) = x2 then (if 0 ≤ (wrap64 (x2 - 1)) then (if (wrap64 (x2 - 1)) < (x6.length : Int) then (if (wrap64 (x223001 + ((rd_T58 x222001 x15).f2))) > ((rd_T103 x6 (wrap64 (x2 - 1))).f1) then (spec_l14Go.l0 k x1 x2 x3 x4 x6 (wrap64 (x15 + 1)) x222000 x222001 x223000 x223001) else ((some (([] : List Int) : List Int)).bind fun y237 => (if y237.length + x223000.length < 17592186044416 then ((some (y237 ++ x223000 : List Int)).bind fun y240 => ((some (([x15] : List Int) : List Int)).bind fun y243 => (if y240.length + y243.length < 17592186044416 then ((spec_l14Go.f k x222000 x222001 x1 x2 ((rd_T58 x222001 x15).f1) (x4.set (((rd_T58 x222001 x15).f1) : Int).toNat true) (y240 ++ y243) (wrap64 (x223001 + ((rd_T58 x222001 x15).f2))) x6).bind fun bt249 => (spec_l14Go.l0 k x1 x2 x3 (bt249.2.set (((rd_T58 x222001 x15).f1) : Int).toNat false) bt249.1 (wrap64 (x15 + 1)) x222000 x222001 x223000 x223001)) else (none)))) else (none)))) else (none)) else (none)) else ((some (([] : List Int) : List Int)).bind fun y255 => (if y255.length + x223000.length < 17592186044416 then ((some (y255 ++ x223000 : List Int)).bind fun y258 => ((some (([x15] : List Int) : List Int)).bind fun y261 => (if y258.length + y261.length < 17592186044416 then ((spec_l14Go.f k x222000 x222001 x1 x2 ((rd_T58 x222001 x15).f1) (x4.set (((rd_T58 x222001 x15).f1) : Int).toNat true) (y258 ++ y261) (wrap64 (x223001 + ((rd_T58 x222001 x15).f2))) x6).bind fun bt267 => (spec_l14Go.l0 k x1 x2 x3 (bt267.2.set (((rd_T58 x222001 x15).f1) : Int).toNat false) bt267.1 (wrap64 (x15 + 1)) x222000 x222001 x223000 x223001)) else (none)))) else (none))))) else (none)) else (none)) else (spec_l14Go.l0 k x1 x2 x3 x4 x6 (wrap64 (x15 + 1)) x222000 x222001 x223000 x223001)) else (none)) else (some (x6, x4))
def spec_l14Go.f : Nat → Int → List (S58) → Int → Int → Int → List Bool → List Int → Int → List (S103) → Option ((List (S103)) × List Bool)
 | 0, _, _, _, _, _, _, _, _, _ => none
 | k + 1, a0_0, l0_1, a1, a2, a3, l4, l5_0, a5_1, l6 => if a3 = a1 then ((some (([] : List Int) : List Int)).bind fun y223 => (if y223.length + l5_0.length < 17592186044416 then ((spec_l14Put.f k l6 (y223 ++ l5_0) a5_1 a2).bind fun t229 => (some (t229, l4))) else (none))) else (spec_l14Go.l0 k a1 a2 a3 l4 l6 0 a0_0 l0_1 l5_0 a5_1)
end
theorem spec_l14Go.mono_l : ∀ k, (∀ y0 y1 y2 y3 y4 y5 y6 y7 y8, LeO (spec_l14Go.f k y0 y1 y2 y3 y4 y5 y6 y7 y8) (spec_l14Go.f (k + 1) y0 y1 y2 y3 y4 y5 y6 y7 y8)) ∧ (∀ y0 y1 y2 y3 y4 y5 y6 y7 y8 y9, LeO (spec_l14Go.l0 k y0 y1 y2 y3 y4 y5 y6 y7 y8 y9) (spec_l14Go.l0 (k + 1) y0 y1 y2 y3 y4 y5 y6 y7 y8 y9))
 | 0 => ⟨fun _ _ _ _ _ _ _ _ _ r h => by simp [spec_l14Go.f] at h, fun _ _ _ _ _ _ _ _ _ _ r h => by simp [spec_l14Go.l0] at h⟩
 | k + 1 => by
  obtain ⟨ih0, ih1⟩ := spec_l14Go.mono_l k
  refine ⟨?_, ?_⟩
  ·intro y0 y1 y2 y3 y4 y5 y6 y7 y8
   unfold spec_l14Go.f
   repeat' first
   | (with_reducible exact ih0 _ _ _ _ _ _ _ _ _)
   | (with_reducible exact ih1 _ _ _ _ _ _ _ _ _ _)
   | (with_reducible exact spec_l14Put.mono _ _ _ _ _)
   | (with_reducible exact LeO.refl _)
   | (with_reducible exact LeO.none _)
   | (with_reducible refine LeO.ite ?_ ?_)
   | (with_reducible refine LeO.bind ?_ (fun _ => ?_))
   | exact ih0 _ _ _ _ _ _ _ _ _
   | exact ih1 _ _ _ _ _ _ _ _ _ _
   | exact spec_l14Put.mono _ _ _ _ _
   | exact LeO.none _
   | refine LeO.ite ?_ ?_
   | refine LeO.bind ?_ (fun _ => ?_)
  ·intro y0 y1 y2 y3 y4 y5 y6 y7 y8 y9
   unfold spec_l14Go.l0
   repeat' first
   | (with_reducible exact ih0 _ _ _ _ _ _ _ _ _)
   | (with_reducible exact ih1 _ _ _ _ _ _ _ _ _ _)
   | (with_reducible exact spec_l14Put.mono _ _ _ _ _)
   | (with_reducible exact LeO.refl _)
   | (with_reducible exact LeO.none _)
   | (with_reducible refine LeO.ite ?_ ?_)
   | (with_reducible refine LeO.bind ?_ (fun _ => ?_))
   | exact ih0 _ _ _ _ _ _ _ _ _
   | exact ih1 _ _ _ _ _ _ _ _ _ _
   | exact spec_l14Put.mono _ _ _ _ _
   | exact LeO.none _
   | refine LeO.ite ?_ ?_
   | refine LeO.bind ?_ (fun _ => ?_)
theorem spec_l14Go.mono : ∀ a0 a1 a2 a3 a4 a5 a6 a7 a8 k, LeO (spec_l14Go.f k a0 a1 a2 a3 a4 a5 a6 a7 a8) (spec_l14Go.f (k + 1) a0 a1 a2 a3 a4 a5 a6 a7 a8) := by
 intro a0 a1 a2 a3 a4 a5 a6 a7 a8 k
 obtain ⟨ih0, ih1⟩ := spec_l14Go.mono_l k
 exact ih0 a0 a1 a2 a3 a4 a5 a6 a7 a8
def spec_l14Go.T2 : Bool × List (List Nat × List Nat) := (true, [([], []), ([], []), ([], []), ([2], [2]), ([1, 3], [1, 3]), ([], []), ([5], [5]), ([4, 6], [4, 6]), ([], []), ([0, 7, 8, 4], [0, 7, 8]), ([9, 9, 0, 1, 2, 3, 4, 5, 6, 7, 8, 9], [9])])
def spec_l14Go.B2 : List Nat := [0, 0, 0, 4, 14, 0, 32, 126, 0, 511, 1023]
theorem spec_l14Go.tab2 : rtab .any (opsOf Try.f90 2) = spec_l14Go.T2 := by kernel_rfl
theorem spec_l14Go.bits2 : waitsOk spec_l14Go.T2.2 spec_l14Go.B2 = true := by kernel_rfl
def spec_l14Go.T7 : Bool × List (List Nat × List Nat) := (true, [([], []), ([0], [0]), ([], []), ([1, 2], [1, 2]), ([3], [3]), ([4], [4]), ([4], [4]), ([6, 4], [4, 6]), ([5, 7, 4], [4, 5, 7]), ([8, 4], [4, 8]), ([4, 9], [4, 9]), ([10, 4], [10]), ([11], [11]), ([12, 11], [11, 12]), ([11], [11]), ([13, 14, 11], [11, 13, 14]), ([15, 11, 11], [11, 15]), ([16], [16]), ([17, 16], [16, 17]), ([16], [16]), ([19, 16], [16, 19]), ([18, 20, 16], [16, 18, 20]), ([16], [16]), ([16], [16]), ([23, 16], [16, 23]), ([22, 24, 16], [16, 22, 24]), ([25, 16], [16, 25]), ([26, 16], [16, 26]), ([21, 27, 16], [16, 21, 27]), ([16, 28, 11], [11, 16, 28]), ([11, 29], [11, 29])])
def spec_l14Go.B7 : List Nat := [0, 1, 0, 7, 15, 31, 31, 95, 255, 511, 1023, 2047, 4095, 8191, 4095, 32767, 65535, 131071, 262143, 131071, 655359, 2097151, 131071, 131071, 8519679, 29491199, 63045631, 130154495, 268435455, 536870911, 1073741823]
theorem spec_l14Go.tab7 : rtab .any (opsOf Try.f90 7) = spec_l14Go.T7 := by kernel_rfl
theorem spec_l14Go.bits7 : waitsOk spec_l14Go.T7.2 spec_l14Go.B7 = true := by kernel_rfl
def spec_l14Go.T9 : Bool × List (List Nat × List Nat) := (true, [([], []), ([], []), ([], []), ([], []), ([3], [3]), ([], []), ([], []), ([], []), ([7], [7]), ([6, 8], [6, 8]), ([], []), ([10], [10]), ([9, 11, 9], [9, 11]), ([], []), ([13], [13]), ([], []), ([15], [15]), ([14, 16], [14, 16]), ([12, 17], [12, 17]), ([], []), ([0, 1, 2, 4, 5, 18, 19, 12], [0, 1, 2, 4, 5, 18, 19]), ([20, 20, 0, 1, 2, 3, 4, 5, 6, 7, 8, 9, 10, 11, 12, 13, 14, 15, 16, 17, 18, 19, 20], [19, 20])])
def spec_l14Go.B9 : List Nat := [0, 0, 0, 0, 8, 0, 0, 0, 128, 448, 0, 1024, 4032, 0, 8192, 0, 32768, 122880, 262080, 0, 1048575, 2097151]
theorem spec_l14Go.tab9 : rtab .any (opsOf Try.f90 9) = spec_l14Go.T9 := by kernel_rfl
theorem spec_l14Go.bits9 : waitsOk spec_l14Go.T9.2 spec_l14Go.B9 = true := by kernel_rfl
set_option maxHeartbeats 8000000 in
set_option maxRecDepth 100000 in
theorem spec_l14Go.calls (k : Nat) : ∀ (a0_0 : Int) (A0_1 : Option Addr) (c0_1 : Nat) (l0_1 : List (S58)) (a1 : Int) (a2 : Int) (a3 : Int) (P4_ : Nat → Prop) (u9000_ : Value) (l4 : List Bool) (A5_0 : Option Addr) (c5_0 : Nat) (l5_0 : List Int) (a5_1 : Int) (P6_ : Nat → Prop) (A6 : Option Addr) (c6 : Nat) (l6 : List (S103)) (r1 : List (S103)) (r2 : List Bool) (w0 w : World) (hB : Below w0.heap.size w0 w) (hr0_1 : ∀ W_, Kept w W_ (fun k_ => P4_ k_) → Kd.C k58 W_ A0_1 l0_1.length l0_1) (hc0_1 : l0_1.length ≤ c0_1) (ho4 : Kd.R Kd.bool 4 w w0.heap.size P4_ u9000_ l4) (hr5_0 : ∀ W_, Kept w W_ (fun k_ => P4_ k_) → Kd.C (Kd.int .i64) W_ A5_0 l5_0.length l5_0) (hc5_0 : l5_0.length ≤ c5_0) (hs6 : Kd.V k103 103 w w0.heap.size (fun k_ => P6_ k_ ∧ some k_ ≠ (u9000_ : Value).ownBlock) (.slice A6 l6.length c6) l6) (h : spec_l14Go.f k a0_0 l0_1 a1 a2 a3 l4 l5_0 a5_1 l6 = some (r1, r2)),
  Calls Try.prog 90 #[.agg #[.int .i64 a0_0, .slice A0_1 l0_1.length c0_1], .int .i64 a1, .int .i64 a2, .int .i64 a3, u9000_, .agg #[.slice A5_0 l5_0.length c5_0, .int .i64 a5_1], .slice A6 l6.length c6] w fun e w' => ∃ v0_ : Value, e = .returned (v0_) ∧ Kd.V k103 103 w' w0.heap.size (fun k_ => ((P4_ k_ ∨ P6_ k_) ∨ w.heap.size ≤ k_) ∧ some k_ ≠ (u9000_ : Value).ownBlock) v0_ r1 ∧ Kd.R Kd.bool 4 w' w0.heap.size (fun k_ => (P4_ k_ ∨ w.heap.size ≤ k_)) u9000_ r2 ∧ Below w0.heap.size w0 w' ∧ Kept w w' (fun k_ => P4_ k_) := by
 induction k using Nat.strongRecOn with
 | _ k ih =>
 intro a0_0 A0_1 c0_1 l0_1 a1 a2 a3 P4_ u9000_ l4 A5_0 c5_0 l5_0 a5_1 P6_ A6 c6 l6 r1 r2 w0 w hB hr0_1 hc0_1 ho4 hr5_0 hc5_0 hs6 h
 cases k with
 | zero => exact absurd h (by simp [spec_l14Go.f])
 | succ k =>
 simp only [spec_l14Go.f] at h
 have hu25 := Try.underlying25
 have hu103 := Try.underlying103
 have hu58 := Try.underlying58
 have HR0_1 := ak hr0_1
 have HC0_1 := ak hc0_1
 clear hr0_1 hc0_1
 have HO4 := ak (show Kd.R Kd.bool 4 w w0.heap.size (fun k_ => (P4_ k_ ∨ w.heap.size ≤ k_)) u9000_ l4 from Kd.R_mono ho4 (fun k_ hk => (.inl hk)))
 have HR5_0 := ak hr5_0
 have HC5_0 := ak hc5_0
 clear hr5_0 hc5_0
 have HO6 := ak (show Kd.V k103 103 w w0.heap.size (fun k_ => ((P4_ k_ ∨ P6_ k_) ∨ w.heap.size ≤ k_) ∧ some k_ ≠ (u9000_ : Value).ownBlock) (.slice A6 l6.length c6) l6 from Kd.V_mono hs6 (fun k_ hk => ⟨.inl (.inr hk.1), hk.2⟩))
 have HK := ak (Kept.refl w (fun k_ => P4_ k_))
 have HW0 := ak hB.size
 have HB := ak hB
 clear hB
 have H : (if a3 = a1 then ((some (([] : List Int) : List Int)).bind fun y223 => (if y223.length + l5_0.length < 17592186044416 then ((spec_l14Put.f k l6 (y223 ++ l5_0) a5_1 a2).bind fun t229 => (some (t229, l4))) else (none))) else (spec_l14Go.l0 k a1 a2 a3 l4 l6 0 a0_0 l0_1 l5_0 a5_1)) = some (r1, r2) := h
 clear h
 by_cases c8 : a3 = a1
 ·rw [if_pos c8] at H
  have c8b0 : (a3 == a1) = true := beq_iff_eq.mpr c8
  have c8b1 : (a3 != a1) = false := bne_eq_false_iff_eq.mpr c8
  clear c8
  obtain ⟨y223, hy223⟩ : ∃ y_ : List Int, y_ = (([] : List Int)) := ⟨_, rfl⟩
  replace H : (if y223.length + l5_0.length < 17592186044416 then ((spec_l14Put.f k l6 (y223 ++ l5_0) a5_1 a2).bind fun t229 => (some (t229, l4))) else (none)) = some (r1, r2) := by first | (rw [hy223]; with_reducible exact H) | (have H2_ := (Option.bind_some _ _).symm.trans H; rw [hy223]; with_reducible exact H2_) | (have H2_ := (Option.bind_some _ _).symm.trans H; with_reducible exact H2_) | with_reducible exact H | (rw [hy223]; exact H) | exact H
  have Ny223 := ak hy223
  clear hy223
  by_cases c9 : y223.length + l5_0.length < 17592186044416
  rotate_left
  ·rw [if_neg c9] at H
   exact absurd H (by simp)
  rw [if_pos c9] at H
  have LMc9 := ak c9
  clear c9
  obtain ⟨y226, hy226⟩ : ∃ y_ : List Int, y_ = (y223 ++ l5_0) := ⟨_, rfl⟩
  replace H : ((spec_l14Put.f k l6 y226 a5_1 a2).bind fun t229 => (some (t229, l4))) = some (r1, r2) := by first | (rw [hy226]; with_reducible exact H) | (have H2_ := (Option.bind_some _ _).symm.trans H; rw [hy226]; with_reducible exact H2_) | (have H2_ := (Option.bind_some _ _).symm.trans H; with_reducible exact H2_) | with_reducible exact H | (rw [hy226]; exact H) | exact H
  have Ny226 := ak hy226
  clear hy226
  replace H := Option.bind_eq_some_iff.mp H
  obtain ⟨t229, A100, H⟩ := H
  have A10 := ak A100
  clear A100
  simp only [Option.some.injEq, Prod.mk.injEq] at H
  obtain ⟨rfl, rfl⟩ := H
  go_enter Try.func90, Try.ntmps90
  try go_wp2_with (first | ((with_reducible refine gate_dst (N := 7) rfl ?_); refine box_event ?hg (N := 7) ?hd (cs := #[.int .i64 a0_0, .slice A0_1 l0_1.length c0_1]) (t := 25) ?hr ?_; (case hd => rfl); (case hg => rfl); (case hr => first | (go_simp; done) | (go_simp; rfl)); intro gb221 hg w11 hbox hb; replace HO4 := ak (Kd.R_below (rk HO4) hb); replace HO6 := ak (Kd.V_below (Kd.V_elderB (by (with_reducible repeat (first | apply Kd.V_alloc | apply Kd.V_drewN | apply Kd.V_drew)); exact HO6.out) gb221 (Nat.le_of_eq hg.symm)) hb); have BK221 := ak (hbox); have GW221 := ak ((by rw [hg]; exact (by first | exact HK.out.1 | exact (show Kept w _ (fun k_ => P4_ k_) from by repeat (first | (with_reducible first | exact HK.out | apply Kept.alloc | apply Kept.drewN | apply Kept.drew) | exact HK.out)).1) : w.heap.size ≤ gb221)); replace HK := ak (Kept.below (S := (fun k_ => P4_ k_)) (by repeat (first | (with_reducible first | exact HK.out | apply Kept.alloc | apply Kept.drewN | apply Kept.drew) | exact HK.out)) hb); have GE221 := ak ((by rw [hg]; exact (below_size (bl HB)) : w0.heap.size ≤ gb221)); replace HB := ak (below_step (bl HB) hb); clear hb hbox hg) | ((with_reducible refine gate_dst (N := 12) rfl ?_); refine box_event ?hg (N := 12) ?hd (cs := #[.slice A5_0 l5_0.length c5_0, .int .i64 a5_1]) (t := 103) ?hr ?_; (case hd => rfl); (case hg => rfl); (case hr => first | (go_simp; done) | (go_simp; rfl)); intro gb222 hg w12 hbox hb; replace HO4 := ak (Kd.R_below (rk HO4) hb); replace HO6 := ak (Kd.V_below (Kd.V_elderB (by (with_reducible repeat (first | apply Kd.V_alloc | apply Kd.V_drewN | apply Kd.V_drew)); exact HO6.out) gb222 (Nat.le_of_eq hg.symm)) hb); have BK222 := ak (hbox); have GW222 := ak ((by rw [hg]; exact (by first | exact HK.out.1 | exact (show Kept w _ (fun k_ => P4_ k_) from by repeat (first | (with_reducible first | exact HK.out | apply Kept.alloc | apply Kept.drewN | apply Kept.drew | refine Kept.setCell ?_ (.inr GW221.out) _) | exact HK.out)).1) : w.heap.size ≤ gb222)); replace HK := ak (Kept.below (S := (fun k_ => P4_ k_)) (by repeat (first | (with_reducible first | exact HK.out | apply Kept.alloc | apply Kept.drewN | apply Kept.drew | refine Kept.setCell ?_ (.inr GW221.out) _) | exact HK.out)) hb); have GE222 := ak ((by rw [hg]; exact (below_size (bl1 HB GE221)) : w0.heap.size ≤ gb222)); replace HB := ak (below_step (bl1 HB GE221) hb); have NB221_222 := ak ((by rw [hg]; exact Nat.ne_of_lt (blk_lt (bk BK221)) : gb221 ≠ gb222)); have NB222_221 := ak ((by rw [hg]; exact Nat.ne_of_gt (blk_lt (bk BK221)) : gb222 ≠ gb221)); replace BK221 := ak (blk_below (bk BK221) hb); clear hb hbox hg))
  replace HO4 := ak (Kd.R_drew HO4.out)
  replace HO6 := ak (Kd.V_drew HO6.out)
  replace BK221 := ak (blk_drew BK221.out)
  replace BK222 := ak (blk_drew BK222.out)
  replace HK := ak (Kept.drew HK.out)
  replace HB := ak (below_drew1 HB.out)
  refine start_ (n := 11) (S := fun w' => w'.cell? ⟨gb222, 0, none⟩ = some (.slice A5_0 l5_0.length c5_0) ∧ w'.cell? ⟨gb222, 1, none⟩ = some (.int .i64 a5_1)) (ds := []) (ms 11 0) (by kernel_rfl) rfl (by kernel_rfl) ⟨(blk_cell BK222.out 0).trans rfl, (blk_cell BK222.out 1).trans rfl⟩ (fun hHeld => ?_); refine with_tabW spec_l14Go.tab2 spec_l14Go.bits2 (fun HT_ HW_ => ?_)
  generalize w12.drew = w13 at HO4 HO6 BK221 BK222 HK HB hHeld ⊢
  refine pu 0 20 ?_ (ms 11 1) rfl rfl HT_ (by kernel_rfl) (fun _ _ _ h => h) (by rfl) ?_ ?_ ?_ ?_
  rotate_left
  ·intro w'
   go_simp
   with_reducible rfl
  rotate_left
  ·simp only [SX]
   rfl
  refine pu 2 22 ?_ (ms 11 5) rfl rfl HT_ (by kernel_rfl) (fun _ _ _ h => h) (by rfl) ?_ ?_ ?_ ?_
  rotate_left
  ·intro w'
   go_simp
   with_reducible rfl
  rotate_left
  ·simp only [SX]
   rfl
  refine pu 5 25 ?_ (ms 11 37) rfl rfl HT_ (by kernel_rfl) (fun _ _ _ h => h) (by rfl) ?_ ?_ ?_ ?_
  rotate_left
  ·intro w'
   go_simp
   with_reducible rfl
  rotate_left
  ·simp only [SX]
   rfl
  refine pu 8 28 ?_ (ms 11 293) rfl rfl HT_ (by kernel_rfl) (fun _ _ _ h => h) (by rfl) ?_ ?_ ?_ ?_
  rotate_left
  ·intro w'
   go_simp
   with_reducible rfl
  rotate_left
  ·simp only [SX]
   rfl
  refine tk 3 23 ?_ (ms 11 301) rfl rfl HT_ HW_ (by kernel_rfl) (fun _ _ _ h => h) (by rfl) ?_ hHeld ?_ ?_ ?_
  rotate_left
  ·rintro w' ⟨s0, s1⟩
   go_simp
   with_reducible rfl
  rotate_left
  ·simp only [SX]
   rfl
  refine tk 6 26 ?_ (ms 11 365) rfl rfl HT_ HW_ (by kernel_rfl) (fun _ _ _ h => h) (by rfl) ?_ hHeld ?_ ?_ ?_
  rotate_left
  ·rintro w' ⟨s0, s1⟩
   go_simp
   with_reducible rfl
  rotate_left
  ·simp only [SX]
   rfl
  refine one_ (i := 1) (N := some 21) (ms 11 367) rfl rfl (one_of HT_.out (by kernel_rfl)) (by decide) (fun K hK => ?_)
  refine Kd.R_lit_step (Kd.int .i64) _ 3 ?hg (N := 21) ?hd (xs := ([] : List Int)) (inner := []) (ok := fun _ => True) (okp := fun _ => True) ?hr ?hp (fun _ hk => hk) trivial (Below.refl _ _) (Nat.le_refl _) (by simp) ?_; (case hd => rfl); (case hg => rfl); (case hr => first | (go_simp; done) | (go_simp; rfl)); (case hp => exact (Reps.none _ _))
  intro v224 w14 ho15 hb hg_ hnew_
  clear hg_ hnew_
  (first | rw [← Ny223.out] at ho15 | (simp only [Int.reduceToNat] at ho15; rw [← Ny223.out] at ho15))
  replace HO4 := ak (Kd.R_below (rk HO4) hb)
  replace HO6 := ak (Kd.V_elder' (by (with_reducible repeat (first | apply Kd.V_alloc | apply Kd.V_drewN | apply Kd.V_drew)); exact HO6.out) (Kd.R_base ho15) hb)
  have HO225 := ak (Kd.R_lower (Kd.R_newM (M := fun k_ => (P4_ k_ ∨ w.heap.size ≤ k_)) ho15 (by first | exact HK.out.1 | exact (show Kept w _ (fun k_ => P4_ k_) from by repeat (first | (with_reducible first | exact HK.out | apply Kept.alloc | apply Kept.drewN | apply Kept.drew | refine Kept.setCell ?_ (.inr GW221.out) _ | refine Kept.setCell ?_ (.inr GW222.out) _) | exact HK.out)).1) (fun k_ h_ => .inr h_)) (below_size (bl2 HB GE221 GE222)))
  replace BK221 := ak (blk_below (bk BK221) hb)
  replace BK222 := ak (blk_below (bk BK222) hb)
  replace HK := ak (Kept.below (S := (fun k_ => P4_ k_)) (by repeat (first | (with_reducible first | exact HK.out | apply Kept.alloc | apply Kept.drewN | apply Kept.drew | refine Kept.setCell ?_ (.inr GW221.out) _ | refine Kept.setCell ?_ (.inr GW222.out) _) | exact HK.out)) hb)
  replace HB := ak (below_step (bl2 HB GE221 GE222) hb)
  clear hb ho15
  refine hK.out _ _ ⟨(blk_cell BK222.out 0).trans rfl, (blk_cell BK222.out 1).trans rfl⟩ (fun hHeld => ?_)
  clear hK K
  refine norm_ (a' := ?_) ?_ ?_
  rotate_left
  ·show Act.put _ (some 21) _ = _
   simp only [SX]
   rfl
  refine one_ (i := 4) (N := some 24) (ms 11 383) rfl rfl (one_of HT_.out (by kernel_rfl)) (by decide) (fun K hK => ?_)
  refine Kd.R_append_rows_step (Kd.int .i64) (w0 := w0) w0.heap.size (by rfl) (.tmp 21) (.tmp 23) 33 3 (.int .i64 0) 8 rfl Try.underlying33 info3 rfl (by decide) (by omega) v224 y223 l5_0 _ _ _ (fun k_ => (P4_ k_ ∨ w.heap.size ≤ k_)) (fun _ => False) rfl rfl ?aO ?aR (fun _ _ h => h) (fun _ h => h.elim) ?aF ?aB ?aS ?aL ?_
  (case aR => exact Kd.C_kept_now HR5_0.out (by repeat (first | (with_reducible first | exact HK.out | apply Kept.alloc | apply Kept.drewN | apply Kept.drew | refine Kept.setCell ?_ (.inr GW221.out) _ | refine Kept.setCell ?_ (.inr GW222.out) _) | exact HK.out)))
  (case aB => exact (bl2 HB GE221 GE222))
  (case aF => exact (fun k_ hk => (.inr (Nat.le_trans (by first | exact HK.out.1 | exact (show Kept w _ (fun k_ => P4_ k_) from by repeat (first | (with_reducible first | exact HK.out | apply Kept.alloc | apply Kept.drewN | apply Kept.drew | refine Kept.setCell ?_ (.inr GW221.out) _ | refine Kept.setCell ?_ (.inr GW222.out) _) | exact HK.out)).1) hk))))
  (case aO => exact (by (with_reducible repeat (first | apply Kd.R_alloc | apply Kd.R_drewN | apply Kd.R_drew)); exact Kd.R_mono HO225.out (fun _ hk => hk.1)))
  (case aS => exact (below_size (bl2 HB GE221 GE222)))
  (case aL => have := LMc9.out; omega)
  intro v227 w16 ho hb hg hat
  rw [← Ny226.out] at ho
  have n0_ := ak (Kd.R_over' (rk HO4) (Kd.R_typed (rk HO225)) (by decide) hg)
  have n1_ := ak (Kd.V_afterv (ok := (fun k_ => ((P4_ k_ ∨ P6_ k_) ∨ w.heap.size ≤ k_) ∧ some k_ ≠ (u9000_ : Value).ownBlock ∧ k_ ≠ gb221 ∧ k_ ≠ gb222)) (by (with_reducible repeat (first | apply Kd.V_alloc | apply Kd.V_drewN | apply Kd.V_drew)); exact Kd.V_mono HO6.out (fun _ hk => ⟨⟨hk.1.1.1.1, ⟨hk.1.1.1.2, ⟨hk.1.1.2, hk.1.2⟩⟩⟩, hk.2⟩)) hg hat)
  have n2_ := ak (blk_grown (bk BK221) hg (Kd.R_ne HO225.out BK221.out (by decide)))
  have n3_ := ak (blk_grown (bk BK222) hg (Kd.R_ne HO225.out BK222.out (by decide)))
  have n4_ := ak (hb)
  have n5_ := ak (Kept.of_grown (S := (fun k_ => P4_ k_)) hg (by repeat (first | (with_reducible first | exact HK.out | apply Kept.alloc | apply Kept.drewN | apply Kept.drew | refine Kept.setCell ?_ (.inr GW221.out) _ | refine Kept.setCell ?_ (.inr GW222.out) _) | exact HK.out)) (fun k_ e_ => (HO225.out.1 k_ e_).1))
  have n6_ := ak (ho)
  clear HO4
  clear HO6
  clear BK221
  clear BK222
  clear HB
  clear HK
  clear HO225
  have HO4 := n0_
  have HO6 := n1_
  have BK221 := n2_
  have BK222 := n3_
  have HB := n4_
  have HK := n5_
  have HO228 := n6_
  clear n0_ n1_ n2_ n3_ n4_ n5_ n6_
  clear ho hb hg hat
  obtain ⟨Ao17, co17, eo17⟩ := Kd.R_slice HO228.out
  (first | subst eo17 | (injection eo17 with f1_ f2_ f3_; have f4_ := f1_.symm; have f5_ := f3_.symm; clear f1_ f2_ f3_; subst f4_; subst f5_))
  refine hK.out _ _ ⟨(blk_cell BK222.out 0).trans rfl, (blk_cell BK222.out 1).trans rfl⟩ (fun hHeld => ?_)
  clear hK K
  refine norm_ (a' := ?_) ?_ ?_
  rotate_left
  ·show Act.put _ (some 24) _ = _
   simp only [SX]
   rfl
  refine pu 7 27 ?_ (ms 11 511) rfl rfl HT_ (by kernel_rfl) (fun _ _ _ h => h) (by rfl) ?_ ?_ ?_ ?_
  rotate_left
  ·intro w'
   go_simp
   with_reducible rfl
  rotate_left
  ·simp only [SX]
   rfl
  refine one_ (i := 9) (N := some 29) (ms 11 1023) rfl rfl (one_of HT_.out (by kernel_rfl)) (by decide) (fun K hK => ?_)
  refine goes_ Try.func114 (by kernel_rfl) rfl #[.slice A6 l6.length c6, .agg #[.slice Ao17 y226.length co17, .int .i64 a5_1], .int .i64 a2] (by rfl) rfl rfl (by (try simp only [List.map_toArray, List.map_cons, List.map_nil]); first | done | rfl | (simp only [List.length_drop, List.length_take]; rfl)) ?_
  with_reducible refine (spec_l14Put.calls k (fun k_ => ((((P4_ k_ ∨ P6_ k_) ∨ w.heap.size ≤ k_) ∧ (some k_ ≠ (u9000_ : Value).ownBlock ∧ (k_ ≠ gb221 ∧ k_ ≠ gb222))) ∧ some k_ ≠ (.slice Ao17 y226.length co17 : Value).ownBlock)) _ _ l6 (fun k_ => some k_ = (.slice Ao17 y226.length co17 : Value).ownBlock) _ _ y226 a5_1 a2 t229 _ ?side1 ?side2 A10.out).mono ?_
  (case side1 => exact HO6.out)
  (case side2 => exact Kd.R_V (Kd.R_tight rfl (Kd.R_types (Kd.R_types (Kd.R_apart' (HO228.out) (Kd.R_typed HO4.out) (by decide)) BK221.out (by decide)) BK222.out (by decide))))
  rintro e w18 ⟨v230, rfl, ho0, hb⟩
  refine ⟨_, rfl, ?_⟩
  replace HO6 := ak (Kd.V_elder' (by (with_reducible repeat (first | apply Kd.V_alloc | apply Kd.V_drewN | apply Kd.V_drew)); exact HO6.out) (Kd.N_base ho0) hb)
  have HO231 := ak (Kd.N_lower (Kd.N_mono (ok' := fun k_ => ((P4_ k_ ∨ P6_ k_) ∨ w.heap.size ≤ k_) ∧ some k_ ≠ (u9000_ : Value).ownBlock ∧ k_ ≠ gb221 ∧ k_ ≠ gb222) ho0 (fun k_ hk_ => ⟨Or.elim hk_ (fun hs_ => Or.elim hs_ (fun hs_ => hs_.1.1) (fun hs_ => (Or.imp_left (fun h_ => (.inl h_)) (((Kd.R_types (Kd.R_types (Kd.R_apart' (HO228.out) (Kd.R_typed HO4.out) (by decide)) BK221.out (by decide)) BK222.out (by decide)).1 k_ hs_.symm).1.1.1)))) (fun hn_ => (.inr (Nat.le_trans (by first | exact HK.out.1 | exact (show Kept w _ (fun k_ => P4_ k_) from by repeat (first | (with_reducible first | exact HK.out | apply Kept.alloc | apply Kept.drewN | apply Kept.drew | refine Kept.setCell ?_ (.inr GW221.out) _ | refine Kept.setCell ?_ (.inr GW222.out) _) | exact HK.out)).1) hn_))), Or.elim hk_ (fun hs_ => Or.elim hs_ (fun hs_ => hs_.1.2.1) (fun hs_ => ((Kd.R_types (Kd.R_types (Kd.R_apart' (HO228.out) (Kd.R_typed HO4.out) (by decide)) BK221.out (by decide)) BK222.out (by decide)).1 k_ hs_.symm).1.1.2)) (fun hn_ => (Kd.fresh' (Kd.R_lt (rk HO4)) k_ hn_)), Or.elim hk_ (fun hs_ => Or.elim hs_ (fun hs_ => hs_.1.2.2.1) (fun hs_ => ((Kd.R_types (Kd.R_types (Kd.R_apart' (HO228.out) (Kd.R_typed HO4.out) (by decide)) BK221.out (by decide)) BK222.out (by decide)).1 k_ hs_.symm).1.2)) (fun hn_ => (Kd.freshB (bk BK221) k_ hn_)), Or.elim hk_ (fun hs_ => Or.elim hs_ (fun hs_ => hs_.1.2.2.2) (fun hs_ => ((Kd.R_types (Kd.R_types (Kd.R_apart' (HO228.out) (Kd.R_typed HO4.out) (by decide)) BK221.out (by decide)) BK222.out (by decide)).1 k_ hs_.symm).2)) (fun hn_ => (Kd.freshB (bk BK222) k_ hn_))⟩)) (below_size (bl2 HB GE221 GE222)))
  replace HO4 := ak (Kd.R_below (rk HO4) hb)
  replace HO228 := ak (Kd.R_below (rk HO228) hb)
  replace BK221 := ak (blk_below (bk BK221) hb)
  replace BK222 := ak (blk_below (bk BK222) hb)
  replace HK := ak (Kept.below (S := (fun k_ => P4_ k_)) (by repeat (first | (with_reducible first | exact HK.out | apply Kept.alloc | apply Kept.drewN | apply Kept.drew | refine Kept.setCell ?_ (.inr GW221.out) _ | refine Kept.setCell ?_ (.inr GW222.out) _) | exact HK.out)) hb)
  replace HB := ak (below_step (bl2 HB GE221 GE222) hb)
  (try clear hb)
  (try clear hb2)
  (try clear hk)
  (try clear hi)
  (try clear ho0)
  refine hK.out _ _ ⟨(blk_cell BK222.out 0).trans rfl, (blk_cell BK222.out 1).trans rfl⟩ (fun hHeld => ?_)
  clear hK K
  refine norm_ (a' := ?_) ?_ ?_
  rotate_left
  ·show Act.put _ (some 29) _ = _
   simp only [SX]
   rfl
  refine pu 10 14 ?_ (ms 11 2047) rfl rfl HT_ (by kernel_rfl) (fun _ _ _ h => h) (by rfl) ?_ ?_ ?_ ?_
  rotate_left
  ·intro w'
   go_simp
   with_reducible rfl
  rotate_left
  ·simp only [SX]
   rfl
  refine done_ (done_of HT_.out (by kernel_rfl)) ?_
  try go_wp2
  go_ret
  exact ⟨_, by first | rfl | (simp [errW_none, errW_some] <;> rfl) | (simp [*, errW_none, errW_some] <;> rfl), Kd.N_V (by (with_reducible repeat (first | apply Kd.N_alloc | apply Kd.N_drewN | apply Kd.N_drew)); exact Kd.N_mono HO231.out (fun _ hk => ⟨hk.1, hk.2.1⟩)), rk HO4, bl2 HB GE221 GE222, by repeat (first | (with_reducible first | exact HK.out | apply Kept.alloc | apply Kept.drewN | apply Kept.drew | refine Kept.setCell ?_ (.inr GW221.out) _ | refine Kept.setCell ?_ (.inr GW222.out) _) | exact HK.out)⟩
 rw [if_neg c8] at H
 have c8b0 : (a3 == a1) = false := beq_eq_false_iff_ne.mpr c8
 have c8b1 : (a3 != a1) = true := bne_iff_ne.mpr c8
 have H' := ak H
 clear H
 go_enter Try.func90, Try.ntmps90
 go_wp2_with (first | ((with_reducible refine gate_dst (N := 7) rfl ?_); refine box_event ?hg (N := 7) ?hd (cs := #[.int .i64 a0_0, .slice A0_1 l0_1.length c0_1]) (t := 25) ?hr ?_; (case hd => rfl); (case hg => rfl); (case hr => first | (go_simp; done) | (go_simp; rfl)); intro gb221 hg w19 hbox hb; replace HO4 := ak (Kd.R_below (rk HO4) hb); replace HO6 := ak (Kd.V_below (Kd.V_elderB (by (with_reducible repeat (first | apply Kd.V_alloc | apply Kd.V_drewN | apply Kd.V_drew)); exact HO6.out) gb221 (Nat.le_of_eq hg.symm)) hb); have BK221 := ak (hbox); have GW221 := ak ((by rw [hg]; exact (by first | exact HK.out.1 | exact (show Kept w _ (fun k_ => P4_ k_) from by repeat (first | (with_reducible first | exact HK.out | apply Kept.alloc | apply Kept.drewN | apply Kept.drew) | exact HK.out)).1) : w.heap.size ≤ gb221)); replace HK := ak (Kept.below (S := (fun k_ => P4_ k_)) (by repeat (first | (with_reducible first | exact HK.out | apply Kept.alloc | apply Kept.drewN | apply Kept.drew) | exact HK.out)) hb); have GE221 := ak ((by rw [hg]; exact (below_size (bl HB)) : w0.heap.size ≤ gb221)); replace HB := ak (below_step (bl HB) hb); clear hb hbox hg) | ((with_reducible refine gate_dst (N := 12) rfl ?_); refine box_event ?hg (N := 12) ?hd (cs := #[.slice A5_0 l5_0.length c5_0, .int .i64 a5_1]) (t := 103) ?hr ?_; (case hd => rfl); (case hg => rfl); (case hr => first | (go_simp; done) | (go_simp; rfl)); intro gb222 hg w20 hbox hb; replace HO4 := ak (Kd.R_below (rk HO4) hb); replace HO6 := ak (Kd.V_below (Kd.V_elderB (by (with_reducible repeat (first | apply Kd.V_alloc | apply Kd.V_drewN | apply Kd.V_drew)); exact HO6.out) gb222 (Nat.le_of_eq hg.symm)) hb); have BK222 := ak (hbox); have GW222 := ak ((by rw [hg]; exact (by first | exact HK.out.1 | exact (show Kept w _ (fun k_ => P4_ k_) from by repeat (first | (with_reducible first | exact HK.out | apply Kept.alloc | apply Kept.drewN | apply Kept.drew | refine Kept.setCell ?_ (.inr GW221.out) _) | exact HK.out)).1) : w.heap.size ≤ gb222)); replace HK := ak (Kept.below (S := (fun k_ => P4_ k_)) (by repeat (first | (with_reducible first | exact HK.out | apply Kept.alloc | apply Kept.drewN | apply Kept.drew | refine Kept.setCell ?_ (.inr GW221.out) _) | exact HK.out)) hb); have GE222 := ak ((by rw [hg]; exact (below_size (bl1 HB GE221)) : w0.heap.size ≤ gb222)); replace HB := ak (below_step (bl1 HB GE221) hb); have NB221_222 := ak ((by rw [hg]; exact Nat.ne_of_lt (blk_lt (bk BK221)) : gb221 ≠ gb222)); have NB222_221 := ak ((by rw [hg]; exact Nat.ne_of_gt (blk_lt (bk BK221)) : gb222 ≠ gb221)); replace BK221 := ak (blk_below (bk BK221) hb); clear hb hbox hg))
 go_loopg [6, 15] k (fun kq v6 v15 w' => ∃ (x4_1 : List Bool) (x6_1 : List (S103)) (x15_1 : Int), v15 = .int .i64 x15_1 ∧ Aside0 (spec_l14Go.l0 kq a1 a2 a3 x4_1 x6_1 x15_1 a0_0 l0_1 l5_0 a5_1 = some (r1, r2)) ∧ Aside0 (kq ≤ k) ∧ Aside0 (Kd.R Kd.bool 4 w' w0.heap.size (fun k_ => (P4_ k_ ∨ w.heap.size ≤ k_)) u9000_ x4_1) ∧ Aside0 (Kd.V k103 103 w' w0.heap.size (fun k_ => ((P4_ k_ ∨ P6_ k_) ∨ w.heap.size ≤ k_) ∧ some k_ ≠ (u9000_ : Value).ownBlock ∧ k_ ≠ gb221 ∧ k_ ≠ gb222) v6 x6_1) ∧ Aside0 (w'.heap[gb221]? = some (.cells #[.int .i64 a0_0, (.slice A0_1 l0_1.length c0_1)] 25 (0, 0))) ∧ Aside0 (w'.heap[gb222]? = some (.cells #[(.slice A5_0 l5_0.length c5_0), .int .i64 a5_1] 103 (0, 0))) ∧ Aside0 (Kept w w' (fun k_ => P4_ k_)) ∧ Aside0 (Below w0.heap.size w0 w'))
 case atStart => exact ⟨(l4), (l6), (0), (by first | rfl | (simp; done) | (simp [*]; done)), H', ⟨Nat.le_refl _⟩, ⟨rk HO4⟩, ⟨by (with_reducible repeat (first | apply Kd.V_alloc | apply Kd.V_drewN | apply Kd.V_drew)); exact Kd.V_mono HO6.out (fun _ hk => ⟨hk.1.1.1, ⟨hk.1.1.2, ⟨hk.1.2, hk.2⟩⟩⟩)⟩, ⟨bk BK221⟩, ⟨bk BK222⟩, ⟨by repeat (first | (with_reducible first | exact HK.out | apply Kept.alloc | apply Kept.drewN | apply Kept.drew | refine Kept.setCell ?_ (.inr GW221.out) _ | refine Kept.setCell ?_ (.inr GW222.out) _) | exact HK.out)⟩, ⟨bl2 HB GE221 GE222⟩⟩
 clear H'
 try clear c1
 try clear p2
 try clear c5
 try clear c6
 try clear c8
 try clear c8b0
 try clear c8b1
 try clear c9
 try clear c11
 obtain ⟨x4_1, x6_1, x15_1, rfl, HA, HK1, HO_4, HO_6, BK221, BK222, HK, HB⟩ := hrel
 cases gk with
 | zero => exact absurd HA.out (by simp [spec_l14Go.l0])
 | succ k1 =>
  have H := HA.out
  clear HA
  simp only [spec_l14Go.l0] at H
  by_cases c21 : x15_1 < (l0_1.length : Int)
  rotate_left
  ·rw [if_neg c21] at H
   have c21b0 : decide (x15_1 < (l0_1.length : Int)) = false := decide_eq_false c21
   clear c21
   simp only [Option.some.injEq, Prod.mk.injEq] at H
   obtain ⟨rfl, rfl⟩ := H
   have hnb124 := NB221_222.out
   have hnc124 := NB222_221.out
   have hcz125_0 := bc wr BK221 0 (.int .i64 a0_0) rfl
   have hcz125_1 := bc wr BK221 1 (.slice A0_1 l0_1.length c0_1) rfl
   have hfz125_0 := fz BK221 0
   have hfz125_1 := fz BK221 1
   go_wp2
   go_ret
   exact ⟨_, by first | rfl | (simp [errW_none, errW_some] <;> rfl) | (simp [*, errW_none, errW_some] <;> rfl), by (with_reducible repeat (first | apply Kd.V_alloc | apply Kd.V_drewN | apply Kd.V_drew)); exact Kd.V_mono HO_6.out (fun _ hk => ⟨hk.1, hk.2.1⟩), rk HO_4, bl2 HB GE221 GE222, by repeat (first | (with_reducible first | exact HK.out | apply Kept.alloc | apply Kept.drewN | apply Kept.drew | refine Kept.setCell ?_ (.inr GW221.out) _ | refine Kept.setCell ?_ (.inr GW222.out) _) | exact HK.out)⟩
  rw [if_pos c21] at H
  have c21b0 : decide (x15_1 < (l0_1.length : Int)) = true := decide_eq_true c21
  clear c21
  by_cases c22 : 0 ≤ x15_1
  rotate_left
  ·rw [if_neg c22] at H
   exact absurd H (by simp)
  rw [if_pos c22] at H
  have c22b0 : decide (0 ≤ x15_1) = true := decide_eq_true c22
  clear c22
  by_cases c23 : ((rd_T58 l0_1 x15_1).f0) = a3
  rotate_left
  ·rw [if_neg c23] at H
   have c23b0 : (((rd_T58 l0_1 x15_1).f0) == a3) = false := beq_eq_false_iff_ne.mpr c23
   have c23b1 : (((rd_T58 l0_1 x15_1).f0) != a3) = true := bne_iff_ne.mpr c23
   have H' := ak H
   clear H
   have hnb116 := NB221_222.out
   have hnc116 := NB222_221.out
   have hcz117_0 := bc wr BK221 0 (.int .i64 a0_0) rfl
   have hcz117_1 := bc wr BK221 1 (.slice A0_1 l0_1.length c0_1) rfl
   have hfz117_0 := fz BK221 0
   have hfz117_1 := fz BK221 1
   have p232 : 0 ≤ (x15_1 : Int) := oT (by first | (with_reducible assumption) | assumption)
   have q232 : x15_1 < (l0_1.length : Int) := oT (by first | (with_reducible assumption) | assumption)
   obtain ⟨ad232, e232, hx232_0, hx232_1, hx232_2, hx232_3, hx232_4⟩ := at_T58 (Kd.C_kept_now HR0_1.out HK.out) x15_1 p232 q232
   cases e232
   replace p232 := eq_true p232
   replace q232 := eq_true q232
   try go_wp2_with (first | ((with_reducible refine gate_dst (N := 16) rfl ?_); refine box_event ?hg (N := 16) ?hd (cs := #[.int .i64 0, .int .i64 0, .int .i64 0, .int .i64 0, .int .i64 0]) (t := 58) ?hr ?_; (case hd => rfl); (case hg => rfl); (case hr => first | (go_simp; done) | (go_simp; rfl)); intro gb233 hg w118 hbox hb; replace HO_4 := ak (Kd.R_below (rk HO_4) hb); replace HO_6 := ak (Kd.V_below (Kd.V_elderB (by (with_reducible repeat (first | apply Kd.V_alloc | apply Kd.V_drewN | apply Kd.V_drew)); exact HO_6.out) gb233 (Nat.le_of_eq hg.symm)) hb); have BK233 := ak (hbox); have GW233 := ak ((by rw [hg]; exact (by first | exact HK.out.1 | exact (show Kept w _ (fun k_ => P4_ k_) from by repeat (first | (with_reducible first | exact HK.out | apply Kept.alloc | apply Kept.drewN | apply Kept.drew | refine Kept.setCell ?_ (.inr GW221.out) _ | refine Kept.setCell ?_ (.inr GW222.out) _) | exact HK.out)).1) : w.heap.size ≤ gb233)); replace HK := ak (Kept.below (S := (fun k_ => P4_ k_)) (by repeat (first | (with_reducible first | exact HK.out | apply Kept.alloc | apply Kept.drewN | apply Kept.drew | refine Kept.setCell ?_ (.inr GW221.out) _ | refine Kept.setCell ?_ (.inr GW222.out) _) | exact HK.out)) hb); have GE233 := ak ((by rw [hg]; exact (below_size (bl2 HB GE221 GE222)) : w0.heap.size ≤ gb233)); replace HB := ak (below_step (bl2 HB GE221 GE222) hb); have NB221_233 := ak ((by rw [hg]; exact Nat.ne_of_lt (blk_lt (bk BK221)) : gb221 ≠ gb233)); have NB233_221 := ak ((by rw [hg]; exact Nat.ne_of_gt (blk_lt (bk BK221)) : gb233 ≠ gb221)); replace BK221 := ak (blk_below (bk BK221) hb); have NB222_233 := ak ((by rw [hg]; exact Nat.ne_of_lt (blk_lt (bk BK222)) : gb222 ≠ gb233)); have NB233_222 := ak ((by rw [hg]; exact Nat.ne_of_gt (blk_lt (bk BK222)) : gb233 ≠ gb222)); replace BK222 := ak (blk_below (bk BK222) hb); clear hb hbox hg; have hnb119 := NB233_221.out; have hnc119 := NB221_233.out; have hnb120 := NB233_222.out; have hnc120 := NB222_233.out; have hcz121_0 := bc w118 BK233 0 (.int .i64 0) rfl; have hcz121_1 := bc w118 BK233 1 (.int .i64 0) rfl; have hcz121_2 := bc w118 BK233 2 (.int .i64 0) rfl; have hcz121_3 := bc w118 BK233 3 (.int .i64 0) rfl; have hcz121_4 := bc w118 BK233 4 (.int .i64 0) rfl; have hfz121_0 := fz BK233 0; have hfz121_1 := fz BK233 1; have hfz121_2 := fz BK233 2; have hfz121_3 := fz BK233 3; have hfz121_4 := fz BK233 4))
   have n0_ : Aside0 (Kd.R Kd.bool 4 (((((w118.setCell ⟨gb233, 0, none⟩ (.int .i64 ((rd_T58 l0_1 x15_1).f0))).setCell ⟨gb233, 1, none⟩ (.int .i64 ((rd_T58 l0_1 x15_1).f1))).setCell ⟨gb233, 2, none⟩ (.int .i64 ((rd_T58 l0_1 x15_1).f2))).setCell ⟨gb233, 3, none⟩ (.int .i64 ((rd_T58 l0_1 x15_1).f3))).setCell ⟨gb233, 4, none⟩ (.int .i64 ((rd_T58 l0_1 x15_1).f4))) w0.heap.size (fun k_ => (P4_ k_ ∨ w.heap.size ≤ k_)) u9000_ x4_1) := ⟨by (with_reducible repeat (first | apply Kd.R_alloc | apply Kd.R_drewN | apply Kd.R_drew)); exact Kd.R_mono (Kd.R_far (p := ⟨gb233, 4, none⟩) (Kd.R_far (p := ⟨gb233, 3, none⟩) (Kd.R_far (p := ⟨gb233, 2, none⟩) (Kd.R_far (p := ⟨gb233, 1, none⟩) (Kd.R_far (p := ⟨gb233, 0, none⟩) (Kd.R_types HO_4.out BK233.out (by decide)) (fun _ hk => hk.2) (.int .i64 ((rd_T58 l0_1 x15_1).f0))) (fun _ hk => hk.2) (.int .i64 ((rd_T58 l0_1 x15_1).f1))) (fun _ hk => hk.2) (.int .i64 ((rd_T58 l0_1 x15_1).f2))) (fun _ hk => hk.2) (.int .i64 ((rd_T58 l0_1 x15_1).f3))) (fun _ hk => hk.2) (.int .i64 ((rd_T58 l0_1 x15_1).f4))) (fun _ hk => hk.1)⟩
   have n1_ : Aside0 (Kd.V k103 103 (((((w118.setCell ⟨gb233, 0, none⟩ (.int .i64 ((rd_T58 l0_1 x15_1).f0))).setCell ⟨gb233, 1, none⟩ (.int .i64 ((rd_T58 l0_1 x15_1).f1))).setCell ⟨gb233, 2, none⟩ (.int .i64 ((rd_T58 l0_1 x15_1).f2))).setCell ⟨gb233, 3, none⟩ (.int .i64 ((rd_T58 l0_1 x15_1).f3))).setCell ⟨gb233, 4, none⟩ (.int .i64 ((rd_T58 l0_1 x15_1).f4))) w0.heap.size (fun k_ => ((P4_ k_ ∨ P6_ k_) ∨ w.heap.size ≤ k_) ∧ some k_ ≠ (u9000_ : Value).ownBlock ∧ k_ ≠ gb221 ∧ k_ ≠ gb222 ∧ k_ ≠ gb233) u6 x6_1) := ⟨by (with_reducible repeat (first | apply Kd.V_alloc | apply Kd.V_drewN | apply Kd.V_drew)); exact Kd.V_mono (Kd.V_far (p := ⟨gb233, 4, none⟩) (Kd.V_far (p := ⟨gb233, 3, none⟩) (Kd.V_far (p := ⟨gb233, 2, none⟩) (Kd.V_far (p := ⟨gb233, 1, none⟩) (Kd.V_far (p := ⟨gb233, 0, none⟩) (Kd.V_mono HO_6.out (fun k_ hk => (⟨hk, hk.2⟩ : _ ∧ k_ ≠ gb233))) (fun _ hk => hk.2) (.int .i64 ((rd_T58 l0_1 x15_1).f0))) (fun _ hk => hk.2) (.int .i64 ((rd_T58 l0_1 x15_1).f1))) (fun _ hk => hk.2) (.int .i64 ((rd_T58 l0_1 x15_1).f2))) (fun _ hk => hk.2) (.int .i64 ((rd_T58 l0_1 x15_1).f3))) (fun _ hk => hk.2) (.int .i64 ((rd_T58 l0_1 x15_1).f4))) (fun _ hk => ⟨hk.1.1.1, ⟨hk.1.1.2.1, ⟨hk.1.1.2.2.1, ⟨hk.1.1.2.2.2, hk.1.2⟩⟩⟩⟩)⟩
   have n2_ : Aside0 ((((((w118.setCell ⟨gb233, 0, none⟩ (.int .i64 ((rd_T58 l0_1 x15_1).f0))).setCell ⟨gb233, 1, none⟩ (.int .i64 ((rd_T58 l0_1 x15_1).f1))).setCell ⟨gb233, 2, none⟩ (.int .i64 ((rd_T58 l0_1 x15_1).f2))).setCell ⟨gb233, 3, none⟩ (.int .i64 ((rd_T58 l0_1 x15_1).f3))).setCell ⟨gb233, 4, none⟩ (.int .i64 ((rd_T58 l0_1 x15_1).f4))).heap[gb221]? = some (.cells #[.int .i64 a0_0, .slice (some ad232) l0_1.length c0_1] 25 (0, 0))) := ⟨by (with_reducible repeat (first | refine blk_drewN ?_ _ | refine blk_drew ?_ | refine blk_alloc ?_ _)); refine blk_far ?_ NB221_233.out _; refine blk_far ?_ NB221_233.out _; refine blk_far ?_ NB221_233.out _; refine blk_far ?_ NB221_233.out _; refine blk_far ?_ NB221_233.out _; (with_reducible repeat (first | refine blk_drewN ?_ _ | refine blk_drew ?_ | refine blk_alloc ?_ _)); exact BK221.out⟩
   have n3_ : Aside0 ((((((w118.setCell ⟨gb233, 0, none⟩ (.int .i64 ((rd_T58 l0_1 x15_1).f0))).setCell ⟨gb233, 1, none⟩ (.int .i64 ((rd_T58 l0_1 x15_1).f1))).setCell ⟨gb233, 2, none⟩ (.int .i64 ((rd_T58 l0_1 x15_1).f2))).setCell ⟨gb233, 3, none⟩ (.int .i64 ((rd_T58 l0_1 x15_1).f3))).setCell ⟨gb233, 4, none⟩ (.int .i64 ((rd_T58 l0_1 x15_1).f4))).heap[gb222]? = some (.cells #[.slice A5_0 l5_0.length c5_0, .int .i64 a5_1] 103 (0, 0))) := ⟨by (with_reducible repeat (first | refine blk_drewN ?_ _ | refine blk_drew ?_ | refine blk_alloc ?_ _)); refine blk_far ?_ NB222_233.out _; refine blk_far ?_ NB222_233.out _; refine blk_far ?_ NB222_233.out _; refine blk_far ?_ NB222_233.out _; refine blk_far ?_ NB222_233.out _; (with_reducible repeat (first | refine blk_drewN ?_ _ | refine blk_drew ?_ | refine blk_alloc ?_ _)); exact BK222.out⟩
   have n4_ : Aside0 ((((((w118.setCell ⟨gb233, 0, none⟩ (.int .i64 ((rd_T58 l0_1 x15_1).f0))).setCell ⟨gb233, 1, none⟩ (.int .i64 ((rd_T58 l0_1 x15_1).f1))).setCell ⟨gb233, 2, none⟩ (.int .i64 ((rd_T58 l0_1 x15_1).f2))).setCell ⟨gb233, 3, none⟩ (.int .i64 ((rd_T58 l0_1 x15_1).f3))).setCell ⟨gb233, 4, none⟩ (.int .i64 ((rd_T58 l0_1 x15_1).f4))).heap[gb233]? = some (.cells #[.int .i64 ((rd_T58 l0_1 x15_1).f0), .int .i64 ((rd_T58 l0_1 x15_1).f1), .int .i64 ((rd_T58 l0_1 x15_1).f2), .int .i64 ((rd_T58 l0_1 x15_1).f3), .int .i64 ((rd_T58 l0_1 x15_1).f4)] 58 (0, 0))) := ⟨by (with_reducible repeat (first | refine blk_drewN ?_ _ | refine blk_drew ?_ | refine blk_alloc ?_ _)); refine blk_put (cs := #[.int .i64 ((rd_T58 l0_1 x15_1).f0), .int .i64 ((rd_T58 l0_1 x15_1).f1), .int .i64 ((rd_T58 l0_1 x15_1).f2), .int .i64 ((rd_T58 l0_1 x15_1).f3), .int .i64 0]) ?_ 4 _ rfl; refine blk_put (cs := #[.int .i64 ((rd_T58 l0_1 x15_1).f0), .int .i64 ((rd_T58 l0_1 x15_1).f1), .int .i64 ((rd_T58 l0_1 x15_1).f2), .int .i64 0, .int .i64 0]) ?_ 3 _ rfl; refine blk_put (cs := #[.int .i64 ((rd_T58 l0_1 x15_1).f0), .int .i64 ((rd_T58 l0_1 x15_1).f1), .int .i64 0, .int .i64 0, .int .i64 0]) ?_ 2 _ rfl; refine blk_put (cs := #[.int .i64 ((rd_T58 l0_1 x15_1).f0), .int .i64 0, .int .i64 0, .int .i64 0, .int .i64 0]) ?_ 1 _ rfl; refine blk_put (cs := #[.int .i64 0, .int .i64 0, .int .i64 0, .int .i64 0, .int .i64 0]) ?_ 0 _ rfl; (with_reducible repeat (first | refine blk_drewN ?_ _ | refine blk_drew ?_ | refine blk_alloc ?_ _)); exact BK233.out⟩
   have n5_ : Aside0 (Kept w (((((w118.setCell ⟨gb233, 0, none⟩ (.int .i64 ((rd_T58 l0_1 x15_1).f0))).setCell ⟨gb233, 1, none⟩ (.int .i64 ((rd_T58 l0_1 x15_1).f1))).setCell ⟨gb233, 2, none⟩ (.int .i64 ((rd_T58 l0_1 x15_1).f2))).setCell ⟨gb233, 3, none⟩ (.int .i64 ((rd_T58 l0_1 x15_1).f3))).setCell ⟨gb233, 4, none⟩ (.int .i64 ((rd_T58 l0_1 x15_1).f4))) (fun k_ => P4_ k_)) := ⟨by repeat (first | (with_reducible first | exact HK.out | apply Kept.alloc | apply Kept.drewN | apply Kept.drew | refine Kept.setCell ?_ (.inr GW221.out) _ | refine Kept.setCell ?_ (.inr GW222.out) _ | refine Kept.setCell ?_ (.inr GW233.out) _) | exact HK.out)⟩
   have n6_ : Aside0 (Below w0.heap.size w0 (((((w118.setCell ⟨gb233, 0, none⟩ (.int .i64 ((rd_T58 l0_1 x15_1).f0))).setCell ⟨gb233, 1, none⟩ (.int .i64 ((rd_T58 l0_1 x15_1).f1))).setCell ⟨gb233, 2, none⟩ (.int .i64 ((rd_T58 l0_1 x15_1).f2))).setCell ⟨gb233, 3, none⟩ (.int .i64 ((rd_T58 l0_1 x15_1).f3))).setCell ⟨gb233, 4, none⟩ (.int .i64 ((rd_T58 l0_1 x15_1).f4)))) := ⟨bl3 HB GE221 GE222 GE233⟩
   (try clear HO_4)
   (try clear HO_6)
   (try clear BK221)
   (try clear BK222)
   (try clear BK233)
   (try clear HK)
   (try clear HB)
   generalize (((((w118.setCell ⟨gb233, 0, none⟩ (.int .i64 ((rd_T58 l0_1 x15_1).f0))).setCell ⟨gb233, 1, none⟩ (.int .i64 ((rd_T58 l0_1 x15_1).f1))).setCell ⟨gb233, 2, none⟩ (.int .i64 ((rd_T58 l0_1 x15_1).f2))).setCell ⟨gb233, 3, none⟩ (.int .i64 ((rd_T58 l0_1 x15_1).f3))).setCell ⟨gb233, 4, none⟩ (.int .i64 ((rd_T58 l0_1 x15_1).f4))) = w122 at n0_ n1_ n2_ n3_ n4_ n5_ n6_ ⊢
   have HO_4 := n0_
   have HO_6 := n1_
   have BK221 := n2_
   have BK222 := n3_
   have BK233 := n4_
   have HK := n5_
   have HB := n6_
   clear n0_ n1_ n2_ n3_ n4_ n5_ n6_
   replace HO_4 := ak (Kd.R_drew HO_4.out)
   replace HO_6 := ak (Kd.V_drew HO_6.out)
   replace BK221 := ak (blk_drew BK221.out)
   replace BK222 := ak (blk_drew BK222.out)
   replace BK233 := ak (blk_drew BK233.out)
   replace HK := ak (Kept.drew HK.out)
   replace HB := ak (below_drew1 HB.out)
   refine start_ (n := 31) (S := fun w' => w'.cell? ⟨gb233, 0, none⟩ = some (.int .i64 ((rd_T58 l0_1 x15_1).f0)) ∧ w'.cell? ⟨gb233, 1, none⟩ = some (.int .i64 ((rd_T58 l0_1 x15_1).f1)) ∧ w'.cell? ⟨gb233, 2, none⟩ = some (.int .i64 ((rd_T58 l0_1 x15_1).f2)) ∧ w'.cell? ⟨gb233, 3, none⟩ = some (.int .i64 ((rd_T58 l0_1 x15_1).f3)) ∧ w'.cell? ⟨gb233, 4, none⟩ = some (.int .i64 ((rd_T58 l0_1 x15_1).f4))) (ds := []) (ms 31 0) (by kernel_rfl) rfl (by kernel_rfl) ⟨(blk_cell BK233.out 0).trans rfl, (blk_cell BK233.out 1).trans rfl, (blk_cell BK233.out 2).trans rfl, (blk_cell BK233.out 3).trans rfl, (blk_cell BK233.out 4).trans rfl⟩ (fun hHeld => ?_); refine with_tabW spec_l14Go.tab7 spec_l14Go.bits7 (fun HT_ HW_ => ?_)
   generalize w122.drew = w123 at HO_4 HO_6 BK221 BK222 BK233 HK HB hHeld ⊢
   refine pu 0 42 ?_ (ms 31 1) rfl rfl HT_ (by kernel_rfl) (fun _ _ _ h => h) (by rfl) ?_ ?_ ?_ ?_
   rotate_left
   ·intro w'
    go_simp
    with_reducible rfl
   rotate_left
   ·simp only [SX]
    rfl
   refine pu 2 44 ?_ (ms 31 5) rfl rfl HT_ (by kernel_rfl) (fun _ _ _ h => h) (by rfl) ?_ ?_ ?_ ?_
   rotate_left
   ·intro w'
    go_simp
    with_reducible rfl
   rotate_left
   ·simp only [SX]
    rfl
   refine tk 1 43 ?_ (ms 31 7) rfl rfl HT_ HW_ (by kernel_rfl) (fun _ _ _ h => h) (by rfl) ?_ hHeld ?_ ?_ ?_
   rotate_left
   ·rintro w' ⟨s0, s1, s2, s3, s4⟩
    go_simp
    with_reducible rfl
   rotate_left
   ·simp only [SX]
    rfl
   refine pu 3 45 ?_ (ms 31 15) rfl rfl HT_ (by kernel_rfl) (fun _ _ _ h => h) (by rfl) ?_ ?_ ?_ ?_
   rotate_left
   ·intro w'
    go_simp
    with_reducible rfl
   rotate_left
   ·simp only [SX]
    rfl
   refine pu 4 46 ?_ (ms 31 31) rfl rfl HT_ (by kernel_rfl) (fun _ _ _ h => h) (by rfl) ?_ ?_ ?_ ?_
   rotate_left
   ·intro w'
    go_simp
    with_reducible rfl
   rotate_left
   ·simp only [SX]
    rfl
   refine pure_ (i := 5) (N := some 47) (v := undef) (a' := ?_) (ms 31 63) rfl rfl (any_of HT_.out (by kernel_rfl)) (fun _ _ _ h => h) (Or.inr ⟨by rfl, rfl⟩) ?_ ?_
   rotate_left
   ·simp only [SX]
    rfl
   refine pure_ (i := 6) (N := some 48) (v := undef) (a' := ?_) (ms 31 127) rfl rfl (any_of HT_.out (by kernel_rfl)) (fun _ _ _ h => h) (Or.inr ⟨by rfl, rfl⟩) ?_ ?_
   rotate_left
   ·simp only [SX]
    rfl
   refine pure_ (i := 7) (N := some 49) (v := undef) (a' := ?_) (ms 31 255) rfl rfl (any_of HT_.out (by kernel_rfl)) (fun _ _ _ h => h) (Or.inr ⟨by rfl, rfl⟩) ?_ ?_
   rotate_left
   ·simp only [SX]
    rfl
   refine pure_ (i := 8) (N := some 50) (v := undef) (a' := ?_) (ms 31 511) rfl rfl (any_of HT_.out (by kernel_rfl)) (fun _ _ _ h => h) (Or.inr ⟨by rfl, rfl⟩) ?_ ?_
   rotate_left
   ·simp only [SX]
    rfl
   refine pure_ (i := 9) (N := some 51) (v := undef) (a' := ?_) (ms 31 1023) rfl rfl (any_of HT_.out (by kernel_rfl)) (fun _ _ _ h => h) (Or.inr ⟨by rfl, rfl⟩) ?_ ?_
   rotate_left
   ·simp only [SX]
    rfl
   refine pu 10 52 ?_ (ms 31 2047) rfl rfl HT_ (by kernel_rfl) (fun _ _ _ h => h) (by rfl) ?_ ?_ ?_ ?_
   rotate_left
   ·intro w'
    go_simp
    with_reducible rfl
   rotate_left
   ·simp only [SX]
    rfl
   refine pu 11 53 ?_ (ms 31 4095) rfl rfl HT_ (by kernel_rfl) (fun _ _ _ h => h) (by rfl) ?_ ?_ ?_ ?_
   rotate_left
   ·intro w'
    go_simp
    with_reducible rfl
   rotate_left
   ·simp only [SX]
    rfl
   refine pure_ (i := 12) (N := some 54) (v := undef) (a' := ?_) (ms 31 8191) rfl rfl (any_of HT_.out (by kernel_rfl)) (fun _ _ _ h => h) (Or.inr ⟨by rfl, rfl⟩) ?_ ?_
   rotate_left
   ·simp only [SX]
    rfl
   refine pure_ (i := 13) (N := some 55) (v := undef) (a' := ?_) (ms 31 16383) rfl rfl (any_of HT_.out (by kernel_rfl)) (fun _ _ _ h => h) (Or.inr ⟨by rfl, rfl⟩) ?_ ?_
   rotate_left
   ·simp only [SX]
    rfl
   refine pure_ (i := 14) (N := some 56) (v := undef) (a' := ?_) (ms 31 32767) rfl rfl (any_of HT_.out (by kernel_rfl)) (fun _ _ _ h => h) (Or.inr ⟨by rfl, rfl⟩) ?_ ?_
   rotate_left
   ·simp only [SX]
    rfl
   refine pure_ (i := 15) (N := some 57) (v := undef) (a' := ?_) (ms 31 65535) rfl rfl (any_of HT_.out (by kernel_rfl)) (fun _ _ _ h => h) (Or.inr ⟨by rfl, rfl⟩) ?_ ?_
   rotate_left
   ·simp only [SX]
    rfl
   refine pure_ (i := 16) (N := some 58) (v := undef) (a' := ?_) (ms 31 131071) rfl rfl (any_of HT_.out (by kernel_rfl)) (fun _ _ _ h => h) (Or.inr ⟨by rfl, rfl⟩) ?_ ?_
   rotate_left
   ·simp only [SX]
    rfl
   refine pure_ (i := 17) (N := some 59) (v := undef) (a' := ?_) (ms 31 262143) rfl rfl (any_of HT_.out (by kernel_rfl)) (fun _ _ _ h => h) (Or.inr ⟨by rfl, rfl⟩) ?_ ?_
   rotate_left
   ·simp only [SX]
    rfl
   refine pure_ (i := 18) (N := some 60) (v := undef) (a' := ?_) (ms 31 524287) rfl rfl (any_of HT_.out (by kernel_rfl)) (fun _ _ _ h => h) (Or.inr ⟨by rfl, rfl⟩) ?_ ?_
   rotate_left
   ·simp only [SX]
    rfl
   refine pure_ (i := 19) (N := some 61) (v := undef) (a' := ?_) (ms 31 1048575) rfl rfl (any_of HT_.out (by kernel_rfl)) (fun _ _ _ h => h) (Or.inr ⟨by rfl, rfl⟩) ?_ ?_
   rotate_left
   ·simp only [SX]
    rfl
   refine pure_ (i := 20) (N := some 62) (v := undef) (a' := ?_) (ms 31 2097151) rfl rfl (any_of HT_.out (by kernel_rfl)) (fun _ _ _ h => h) (Or.inr ⟨by rfl, rfl⟩) ?_ ?_
   rotate_left
   ·simp only [SX]
    rfl
   refine pure_ (i := 21) (N := some 63) (v := undef) (a' := ?_) (ms 31 4194303) rfl rfl (any_of HT_.out (by kernel_rfl)) (fun _ _ _ h => h) (Or.inr ⟨by rfl, rfl⟩) ?_ ?_
   rotate_left
   ·simp only [SX]
    rfl
   refine pure_ (i := 22) (N := some 64) (v := undef) (a' := ?_) (ms 31 8388607) rfl rfl (any_of HT_.out (by kernel_rfl)) (fun _ _ _ h => h) (Or.inr ⟨by rfl, rfl⟩) ?_ ?_
   rotate_left
   ·simp only [SX]
    rfl
   refine pure_ (i := 23) (N := some 65) (v := undef) (a' := ?_) (ms 31 16777215) rfl rfl (any_of HT_.out (by kernel_rfl)) (fun _ _ _ h => h) (Or.inr ⟨by rfl, rfl⟩) ?_ ?_
   rotate_left
   ·simp only [SX]
    rfl
   refine pure_ (i := 24) (N := some 66) (v := undef) (a' := ?_) (ms 31 33554431) rfl rfl (any_of HT_.out (by kernel_rfl)) (fun _ _ _ h => h) (Or.inr ⟨by rfl, rfl⟩) ?_ ?_
   rotate_left
   ·simp only [SX]
    rfl
   refine pure_ (i := 25) (N := some 67) (v := undef) (a' := ?_) (ms 31 67108863) rfl rfl (any_of HT_.out (by kernel_rfl)) (fun _ _ _ h => h) (Or.inr ⟨by rfl, rfl⟩) ?_ ?_
   rotate_left
   ·simp only [SX]
    rfl
   refine pure_ (i := 26) (N := some 68) (v := undef) (a' := ?_) (ms 31 134217727) rfl rfl (any_of HT_.out (by kernel_rfl)) (fun _ _ _ h => h) (Or.inr ⟨by rfl, rfl⟩) ?_ ?_
   rotate_left
   ·simp only [SX]
    rfl
   refine pure_ (i := 27) (N := some 69) (v := undef) (a' := ?_) (ms 31 268435455) rfl rfl (any_of HT_.out (by kernel_rfl)) (fun _ _ _ h => h) (Or.inr ⟨by rfl, rfl⟩) ?_ ?_
   rotate_left
   ·simp only [SX]
    rfl
   refine pure_ (i := 28) (N := some 70) (v := undef) (a' := ?_) (ms 31 536870911) rfl rfl (any_of HT_.out (by kernel_rfl)) (fun _ _ _ h => h) (Or.inr ⟨by rfl, rfl⟩) ?_ ?_
   rotate_left
   ·simp only [SX]
    rfl
   refine pure_ (i := 29) (N := some 71) (v := undef) (a' := ?_) (ms 31 1073741823) rfl rfl (any_of HT_.out (by kernel_rfl)) (fun _ _ _ h => h) (Or.inr ⟨by rfl, rfl⟩) ?_ ?_
   rotate_left
   ·simp only [SX]
    rfl
   refine pu 30 72 ?_ (ms 31 2147483647) rfl rfl HT_ (by kernel_rfl) (fun _ _ _ h => h) (by rfl) ?_ ?_ ?_ ?_
   rotate_left
   ·intro w'
    go_simp
    with_reducible rfl
   rotate_left
   ·simp only [SX]
    rfl
   refine done_ (done_of HT_.out (by kernel_rfl)) ?_
   try go_wp2
   go_roundg k1
   case measure => have := HK1.out; omega
   case rel => exact ⟨(x4_1), (x6_1), (wrap64 (x15_1 + 1)), (by first | rfl | (simp; done) | (simp [*]; done)), H', ⟨by have := HK1.out; omega⟩, ⟨rk HO_4⟩, ⟨by (with_reducible repeat (first | apply Kd.V_alloc | apply Kd.V_drewN | apply Kd.V_drew)); exact Kd.V_mono HO_6.out (fun _ hk => ⟨hk.1, ⟨hk.2.1, ⟨hk.2.2.1, hk.2.2.2.1⟩⟩⟩)⟩, ⟨bk BK221⟩, ⟨bk BK222⟩, ⟨by repeat (first | (with_reducible first | exact HK.out | apply Kept.alloc | apply Kept.drewN | apply Kept.drew | refine Kept.setCell ?_ (.inr GW221.out) _ | refine Kept.setCell ?_ (.inr GW222.out) _ | refine Kept.setCell ?_ (.inr GW233.out) _) | exact HK.out)⟩, ⟨bl3 HB GE221 GE222 GE233⟩⟩
  rw [if_pos c23] at H
  have c23b0 : (((rd_T58 l0_1 x15_1).f0) == a3) = true := beq_iff_eq.mpr c23
  have c23b1 : (((rd_T58 l0_1 x15_1).f0) != a3) = false := bne_eq_false_iff_eq.mpr c23
  clear c23
  by_cases c24 : 0 ≤ ((rd_T58 l0_1 x15_1).f1)
  rotate_left
  ·rw [if_neg c24] at H
   exact absurd H (by simp)
  rw [if_pos c24] at H
  have c24b0 : decide (0 ≤ ((rd_T58 l0_1 x15_1).f1)) = true := decide_eq_true c24
  clear c24
  by_cases c25 : ((rd_T58 l0_1 x15_1).f1) < (x4_1.length : Int)
  rotate_left
  ·rw [if_neg c25] at H
   exact absurd H (by simp)
  rw [if_pos c25] at H
  have c25b0 : decide (((rd_T58 l0_1 x15_1).f1) < (x4_1.length : Int)) = true := decide_eq_true c25
  clear c25
  obtain ⟨bq26, hbq26⟩ : ∃ b_ : Bool, b_ = (rdOf false x4_1 ((rd_T58 l0_1 x15_1).f1)) := ⟨_, rfl⟩
  replace H : (if bq26 = true then (spec_l14Go.l0 k1 a1 a2 a3 x4_1 x6_1 (wrap64 (x15_1 + 1)) a0_0 l0_1 l5_0 a5_1) else (if (x6_1.length : Int) = a2 then (if 0 ≤ (wrap64 (a2 - 1)) then (if (wrap64 (a2 - 1)) < (x6_1.length : Int) then (if (wrap64 (a5_1 + ((rd_T58 l0_1 x15_1).f2))) > ((rd_T103 x6_1 (wrap64 (a2 - 1))).f1) then (spec_l14Go.l0 k1 a1 a2 a3 x4_1 x6_1 (wrap64 (x15_1 + 1)) a0_0 l0_1 l5_0 a5_1) else ((some (([] : List Int) : List Int)).bind fun y237 => (if y237.length + l5_0.length < 17592186044416 then ((some (y237 ++ l5_0 : List Int)).bind fun y240 => ((some (([x15_1] : List Int) : List Int)).bind fun y243 => (if y240.length + y243.length < 17592186044416 then ((spec_l14Go.f k1 a0_0 l0_1 a1 a2 ((rd_T58 l0_1 x15_1).f1) (x4_1.set (((rd_T58 l0_1 x15_1).f1) : Int).toNat true) (y240 ++ y243) (wrap64 (a5_1 + ((rd_T58 l0_1 x15_1).f2))) x6_1).bind fun bt249 => (spec_l14Go.l0 k1 a1 a2 a3 (bt249.2.set (((rd_T58 l0_1 x15_1).f1) : Int).toNat false) bt249.1 (wrap64 (x15_1 + 1)) a0_0 l0_1 l5_0 a5_1)) else (none)))) else (none)))) else (none)) else (none)) else ((some (([] : List Int) : List Int)).bind fun y255 => (if y255.length + l5_0.length < 17592186044416 then ((some (y255 ++ l5_0 : List Int)).bind fun y258 => ((some (([x15_1] : List Int) : List Int)).bind fun y261 => (if y258.length + y261.length < 17592186044416 then ((spec_l14Go.f k1 a0_0 l0_1 a1 a2 ((rd_T58 l0_1 x15_1).f1) (x4_1.set (((rd_T58 l0_1 x15_1).f1) : Int).toNat true) (y258 ++ y261) (wrap64 (a5_1 + ((rd_T58 l0_1 x15_1).f2))) x6_1).bind fun bt267 => (spec_l14Go.l0 k1 a1 a2 a3 (bt267.2.set (((rd_T58 l0_1 x15_1).f1) : Int).toNat false) bt267.1 (wrap64 (x15_1 + 1)) a0_0 l0_1 l5_0 a5_1)) else (none)))) else (none))))) = some (r1, r2) := by rw [← hbq26] at H; exact H
  have Nbq26 := ak hbq26
  clear hbq26
  by_cases c27 : bq26 = true
  ·subst c27
   rw [if_pos rfl] at H
   have H' := ak H
   clear H
   have hnb28 := NB221_222.out
   have hnc28 := NB222_221.out
   have hcz29_0 := bc wr BK221 0 (.int .i64 a0_0) rfl
   have hcz29_1 := bc wr BK221 1 (.slice A0_1 l0_1.length c0_1) rfl
   have hfz29_0 := fz BK221 0
   have hfz29_1 := fz BK221 1
   have p232 : 0 ≤ (x15_1 : Int) := oT (by first | (with_reducible assumption) | assumption)
   have q232 : x15_1 < (l0_1.length : Int) := oT (by first | (with_reducible assumption) | assumption)
   obtain ⟨ad232, e232, hx232_0, hx232_1, hx232_2, hx232_3, hx232_4⟩ := at_T58 (Kd.C_kept_now HR0_1.out HK.out) x15_1 p232 q232
   cases e232
   replace p232 := eq_true p232
   replace q232 := eq_true q232
   try go_wp2_with (first | ((with_reducible refine gate_dst (N := 16) rfl ?_); refine box_event ?hg (N := 16) ?hd (cs := #[.int .i64 0, .int .i64 0, .int .i64 0, .int .i64 0, .int .i64 0]) (t := 58) ?hr ?_; (case hd => rfl); (case hg => rfl); (case hr => first | (go_simp; done) | (go_simp; rfl)); intro gb233 hg w30 hbox hb; replace HO_4 := ak (Kd.R_below (rk HO_4) hb); replace HO_6 := ak (Kd.V_below (Kd.V_elderB (by (with_reducible repeat (first | apply Kd.V_alloc | apply Kd.V_drewN | apply Kd.V_drew)); exact HO_6.out) gb233 (Nat.le_of_eq hg.symm)) hb); have BK233 := ak (hbox); have GW233 := ak ((by rw [hg]; exact (by first | exact HK.out.1 | exact (show Kept w _ (fun k_ => P4_ k_) from by repeat (first | (with_reducible first | exact HK.out | apply Kept.alloc | apply Kept.drewN | apply Kept.drew | refine Kept.setCell ?_ (.inr GW221.out) _ | refine Kept.setCell ?_ (.inr GW222.out) _) | exact HK.out)).1) : w.heap.size ≤ gb233)); replace HK := ak (Kept.below (S := (fun k_ => P4_ k_)) (by repeat (first | (with_reducible first | exact HK.out | apply Kept.alloc | apply Kept.drewN | apply Kept.drew | refine Kept.setCell ?_ (.inr GW221.out) _ | refine Kept.setCell ?_ (.inr GW222.out) _) | exact HK.out)) hb); have GE233 := ak ((by rw [hg]; exact (below_size (bl2 HB GE221 GE222)) : w0.heap.size ≤ gb233)); replace HB := ak (below_step (bl2 HB GE221 GE222) hb); have NB221_233 := ak ((by rw [hg]; exact Nat.ne_of_lt (blk_lt (bk BK221)) : gb221 ≠ gb233)); have NB233_221 := ak ((by rw [hg]; exact Nat.ne_of_gt (blk_lt (bk BK221)) : gb233 ≠ gb221)); replace BK221 := ak (blk_below (bk BK221) hb); have NB222_233 := ak ((by rw [hg]; exact Nat.ne_of_lt (blk_lt (bk BK222)) : gb222 ≠ gb233)); have NB233_222 := ak ((by rw [hg]; exact Nat.ne_of_gt (blk_lt (bk BK222)) : gb233 ≠ gb222)); replace BK222 := ak (blk_below (bk BK222) hb); clear hb hbox hg; have hnb31 := NB233_221.out; have hnc31 := NB221_233.out; have hnb32 := NB233_222.out; have hnc32 := NB222_233.out; have hcz33_0 := bc w30 BK233 0 (.int .i64 0) rfl; have hcz33_1 := bc w30 BK233 1 (.int .i64 0) rfl; have hcz33_2 := bc w30 BK233 2 (.int .i64 0) rfl; have hcz33_3 := bc w30 BK233 3 (.int .i64 0) rfl; have hcz33_4 := bc w30 BK233 4 (.int .i64 0) rfl; have hfz33_0 := fz BK233 0; have hfz33_1 := fz BK233 1; have hfz33_2 := fz BK233 2; have hfz33_3 := fz BK233 3; have hfz33_4 := fz BK233 4))
   have n0_ : Aside0 (Kd.R Kd.bool 4 (((((w30.setCell ⟨gb233, 0, none⟩ (.int .i64 ((rd_T58 l0_1 x15_1).f0))).setCell ⟨gb233, 1, none⟩ (.int .i64 ((rd_T58 l0_1 x15_1).f1))).setCell ⟨gb233, 2, none⟩ (.int .i64 ((rd_T58 l0_1 x15_1).f2))).setCell ⟨gb233, 3, none⟩ (.int .i64 ((rd_T58 l0_1 x15_1).f3))).setCell ⟨gb233, 4, none⟩ (.int .i64 ((rd_T58 l0_1 x15_1).f4))) w0.heap.size (fun k_ => (P4_ k_ ∨ w.heap.size ≤ k_)) u9000_ x4_1) := ⟨by (with_reducible repeat (first | apply Kd.R_alloc | apply Kd.R_drewN | apply Kd.R_drew)); exact Kd.R_mono (Kd.R_far (p := ⟨gb233, 4, none⟩) (Kd.R_far (p := ⟨gb233, 3, none⟩) (Kd.R_far (p := ⟨gb233, 2, none⟩) (Kd.R_far (p := ⟨gb233, 1, none⟩) (Kd.R_far (p := ⟨gb233, 0, none⟩) (Kd.R_types HO_4.out BK233.out (by decide)) (fun _ hk => hk.2) (.int .i64 ((rd_T58 l0_1 x15_1).f0))) (fun _ hk => hk.2) (.int .i64 ((rd_T58 l0_1 x15_1).f1))) (fun _ hk => hk.2) (.int .i64 ((rd_T58 l0_1 x15_1).f2))) (fun _ hk => hk.2) (.int .i64 ((rd_T58 l0_1 x15_1).f3))) (fun _ hk => hk.2) (.int .i64 ((rd_T58 l0_1 x15_1).f4))) (fun _ hk => hk.1)⟩
   have n1_ : Aside0 (Kd.V k103 103 (((((w30.setCell ⟨gb233, 0, none⟩ (.int .i64 ((rd_T58 l0_1 x15_1).f0))).setCell ⟨gb233, 1, none⟩ (.int .i64 ((rd_T58 l0_1 x15_1).f1))).setCell ⟨gb233, 2, none⟩ (.int .i64 ((rd_T58 l0_1 x15_1).f2))).setCell ⟨gb233, 3, none⟩ (.int .i64 ((rd_T58 l0_1 x15_1).f3))).setCell ⟨gb233, 4, none⟩ (.int .i64 ((rd_T58 l0_1 x15_1).f4))) w0.heap.size (fun k_ => ((P4_ k_ ∨ P6_ k_) ∨ w.heap.size ≤ k_) ∧ some k_ ≠ (u9000_ : Value).ownBlock ∧ k_ ≠ gb221 ∧ k_ ≠ gb222 ∧ k_ ≠ gb233) u6 x6_1) := ⟨by (with_reducible repeat (first | apply Kd.V_alloc | apply Kd.V_drewN | apply Kd.V_drew)); exact Kd.V_mono (Kd.V_far (p := ⟨gb233, 4, none⟩) (Kd.V_far (p := ⟨gb233, 3, none⟩) (Kd.V_far (p := ⟨gb233, 2, none⟩) (Kd.V_far (p := ⟨gb233, 1, none⟩) (Kd.V_far (p := ⟨gb233, 0, none⟩) (Kd.V_mono HO_6.out (fun k_ hk => (⟨hk, hk.2⟩ : _ ∧ k_ ≠ gb233))) (fun _ hk => hk.2) (.int .i64 ((rd_T58 l0_1 x15_1).f0))) (fun _ hk => hk.2) (.int .i64 ((rd_T58 l0_1 x15_1).f1))) (fun _ hk => hk.2) (.int .i64 ((rd_T58 l0_1 x15_1).f2))) (fun _ hk => hk.2) (.int .i64 ((rd_T58 l0_1 x15_1).f3))) (fun _ hk => hk.2) (.int .i64 ((rd_T58 l0_1 x15_1).f4))) (fun _ hk => ⟨hk.1.1.1, ⟨hk.1.1.2.1, ⟨hk.1.1.2.2.1, ⟨hk.1.1.2.2.2, hk.1.2⟩⟩⟩⟩)⟩
   have n2_ : Aside0 ((((((w30.setCell ⟨gb233, 0, none⟩ (.int .i64 ((rd_T58 l0_1 x15_1).f0))).setCell ⟨gb233, 1, none⟩ (.int .i64 ((rd_T58 l0_1 x15_1).f1))).setCell ⟨gb233, 2, none⟩ (.int .i64 ((rd_T58 l0_1 x15_1).f2))).setCell ⟨gb233, 3, none⟩ (.int .i64 ((rd_T58 l0_1 x15_1).f3))).setCell ⟨gb233, 4, none⟩ (.int .i64 ((rd_T58 l0_1 x15_1).f4))).heap[gb221]? = some (.cells #[.int .i64 a0_0, .slice (some ad232) l0_1.length c0_1] 25 (0, 0))) := ⟨by (with_reducible repeat (first | refine blk_drewN ?_ _ | refine blk_drew ?_ | refine blk_alloc ?_ _)); refine blk_far ?_ NB221_233.out _; refine blk_far ?_ NB221_233.out _; refine blk_far ?_ NB221_233.out _; refine blk_far ?_ NB221_233.out _; refine blk_far ?_ NB221_233.out _; (with_reducible repeat (first | refine blk_drewN ?_ _ | refine blk_drew ?_ | refine blk_alloc ?_ _)); exact BK221.out⟩
   have n3_ : Aside0 ((((((w30.setCell ⟨gb233, 0, none⟩ (.int .i64 ((rd_T58 l0_1 x15_1).f0))).setCell ⟨gb233, 1, none⟩ (.int .i64 ((rd_T58 l0_1 x15_1).f1))).setCell ⟨gb233, 2, none⟩ (.int .i64 ((rd_T58 l0_1 x15_1).f2))).setCell ⟨gb233, 3, none⟩ (.int .i64 ((rd_T58 l0_1 x15_1).f3))).setCell ⟨gb233, 4, none⟩ (.int .i64 ((rd_T58 l0_1 x15_1).f4))).heap[gb222]? = some (.cells #[.slice A5_0 l5_0.length c5_0, .int .i64 a5_1] 103 (0, 0))) := ⟨by (with_reducible repeat (first | refine blk_drewN ?_ _ | refine blk_drew ?_ | refine blk_alloc ?_ _)); refine blk_far ?_ NB222_233.out _; refine blk_far ?_ NB222_233.out _; refine blk_far ?_ NB222_233.out _; refine blk_far ?_ NB222_233.out _; refine blk_far ?_ NB222_233.out _; (with_reducible repeat (first | refine blk_drewN ?_ _ | refine blk_drew ?_ | refine blk_alloc ?_ _)); exact BK222.out⟩
   have n4_ : Aside0 ((((((w30.setCell ⟨gb233, 0, none⟩ (.int .i64 ((rd_T58 l0_1 x15_1).f0))).setCell ⟨gb233, 1, none⟩ (.int .i64 ((rd_T58 l0_1 x15_1).f1))).setCell ⟨gb233, 2, none⟩ (.int .i64 ((rd_T58 l0_1 x15_1).f2))).setCell ⟨gb233, 3, none⟩ (.int .i64 ((rd_T58 l0_1 x15_1).f3))).setCell ⟨gb233, 4, none⟩ (.int .i64 ((rd_T58 l0_1 x15_1).f4))).heap[gb233]? = some (.cells #[.int .i64 ((rd_T58 l0_1 x15_1).f0), .int .i64 ((rd_T58 l0_1 x15_1).f1), .int .i64 ((rd_T58 l0_1 x15_1).f2), .int .i64 ((rd_T58 l0_1 x15_1).f3), .int .i64 ((rd_T58 l0_1 x15_1).f4)] 58 (0, 0))) := ⟨by (with_reducible repeat (first | refine blk_drewN ?_ _ | refine blk_drew ?_ | refine blk_alloc ?_ _)); refine blk_put (cs := #[.int .i64 ((rd_T58 l0_1 x15_1).f0), .int .i64 ((rd_T58 l0_1 x15_1).f1), .int .i64 ((rd_T58 l0_1 x15_1).f2), .int .i64 ((rd_T58 l0_1 x15_1).f3), .int .i64 0]) ?_ 4 _ rfl; refine blk_put (cs := #[.int .i64 ((rd_T58 l0_1 x15_1).f0), .int .i64 ((rd_T58 l0_1 x15_1).f1), .int .i64 ((rd_T58 l0_1 x15_1).f2), .int .i64 0, .int .i64 0]) ?_ 3 _ rfl; refine blk_put (cs := #[.int .i64 ((rd_T58 l0_1 x15_1).f0), .int .i64 ((rd_T58 l0_1 x15_1).f1), .int .i64 0, .int .i64 0, .int .i64 0]) ?_ 2 _ rfl; refine blk_put (cs := #[.int .i64 ((rd_T58 l0_1 x15_1).f0), .int .i64 0, .int .i64 0, .int .i64 0, .int .i64 0]) ?_ 1 _ rfl; refine blk_put (cs := #[.int .i64 0, .int .i64 0, .int .i64 0, .int .i64 0, .int .i64 0]) ?_ 0 _ rfl; (with_reducible repeat (first | refine blk_drewN ?_ _ | refine blk_drew ?_ | refine blk_alloc ?_ _)); exact BK233.out⟩
   have n5_ : Aside0 (Kept w (((((w30.setCell ⟨gb233, 0, none⟩ (.int .i64 ((rd_T58 l0_1 x15_1).f0))).setCell ⟨gb233, 1, none⟩ (.int .i64 ((rd_T58 l0_1 x15_1).f1))).setCell ⟨gb233, 2, none⟩ (.int .i64 ((rd_T58 l0_1 x15_1).f2))).setCell ⟨gb233, 3, none⟩ (.int .i64 ((rd_T58 l0_1 x15_1).f3))).setCell ⟨gb233, 4, none⟩ (.int .i64 ((rd_T58 l0_1 x15_1).f4))) (fun k_ => P4_ k_)) := ⟨by repeat (first | (with_reducible first | exact HK.out | apply Kept.alloc | apply Kept.drewN | apply Kept.drew | refine Kept.setCell ?_ (.inr GW221.out) _ | refine Kept.setCell ?_ (.inr GW222.out) _ | refine Kept.setCell ?_ (.inr GW233.out) _) | exact HK.out)⟩
   have n6_ : Aside0 (Below w0.heap.size w0 (((((w30.setCell ⟨gb233, 0, none⟩ (.int .i64 ((rd_T58 l0_1 x15_1).f0))).setCell ⟨gb233, 1, none⟩ (.int .i64 ((rd_T58 l0_1 x15_1).f1))).setCell ⟨gb233, 2, none⟩ (.int .i64 ((rd_T58 l0_1 x15_1).f2))).setCell ⟨gb233, 3, none⟩ (.int .i64 ((rd_T58 l0_1 x15_1).f3))).setCell ⟨gb233, 4, none⟩ (.int .i64 ((rd_T58 l0_1 x15_1).f4)))) := ⟨bl3 HB GE221 GE222 GE233⟩
   (try clear HO_4)
   (try clear HO_6)
   (try clear BK221)
   (try clear BK222)
   (try clear BK233)
   (try clear HK)
   (try clear HB)
   generalize (((((w30.setCell ⟨gb233, 0, none⟩ (.int .i64 ((rd_T58 l0_1 x15_1).f0))).setCell ⟨gb233, 1, none⟩ (.int .i64 ((rd_T58 l0_1 x15_1).f1))).setCell ⟨gb233, 2, none⟩ (.int .i64 ((rd_T58 l0_1 x15_1).f2))).setCell ⟨gb233, 3, none⟩ (.int .i64 ((rd_T58 l0_1 x15_1).f3))).setCell ⟨gb233, 4, none⟩ (.int .i64 ((rd_T58 l0_1 x15_1).f4))) = w34 at n0_ n1_ n2_ n3_ n4_ n5_ n6_ ⊢
   have HO_4 := n0_
   have HO_6 := n1_
   have BK221 := n2_
   have BK222 := n3_
   have BK233 := n4_
   have HK := n5_
   have HB := n6_
   clear n0_ n1_ n2_ n3_ n4_ n5_ n6_
   replace HO_4 := ak (Kd.R_drew HO_4.out)
   replace HO_6 := ak (Kd.V_drew HO_6.out)
   replace BK221 := ak (blk_drew BK221.out)
   replace BK222 := ak (blk_drew BK222.out)
   replace BK233 := ak (blk_drew BK233.out)
   replace HK := ak (Kept.drew HK.out)
   replace HB := ak (below_drew1 HB.out)
   obtain ⟨Ao36, co36, eo36⟩ := Kd.R_slice HO_4.out
   (first | subst eo36 | (injection eo36 with f1_ f2_ f3_; have f4_ := f1_.symm; have f5_ := f3_.symm; clear f1_ f2_ f3_; subst f4_; subst f5_))
   have p234 : 0 ≤ (((rd_T58 l0_1 x15_1).f1) : Int) := oT (by first | (with_reducible assumption) | assumption)
   have q234 : ((rd_T58 l0_1 x15_1).f1) < (x4_1.length : Int) := oT (by first | (with_reducible assumption) | assumption)
   obtain ⟨ad234, e234, hx234_0⟩ := Kd.at_bool (Kd.R_reads' HO_4.out).2.2 ((rd_T58 l0_1 x15_1).f1) p234 q234
   (try rw [← Nbq26.out] at hx234_0)
   cases e234
   replace p234 := eq_true p234
   replace q234 := eq_true q234
   refine start_ (n := 31) (S := fun w' => w'.cell? ⟨gb233, 0, none⟩ = some (.int .i64 ((rd_T58 l0_1 x15_1).f0)) ∧ w'.cell? ⟨gb233, 1, none⟩ = some (.int .i64 ((rd_T58 l0_1 x15_1).f1)) ∧ w'.cell? ⟨gb233, 2, none⟩ = some (.int .i64 ((rd_T58 l0_1 x15_1).f2)) ∧ w'.cell? ⟨gb233, 3, none⟩ = some (.int .i64 ((rd_T58 l0_1 x15_1).f3)) ∧ w'.cell? ⟨gb233, 4, none⟩ = some (.int .i64 ((rd_T58 l0_1 x15_1).f4)) ∧ w'.cell? (ad234.add (((rd_T58 l0_1 x15_1).f1)).toNat) = some (.bool true)) (ds := []) (ms 31 0) (by kernel_rfl) rfl (by kernel_rfl) ⟨(blk_cell BK233.out 0).trans rfl, (blk_cell BK233.out 1).trans rfl, (blk_cell BK233.out 2).trans rfl, (blk_cell BK233.out 3).trans rfl, (blk_cell BK233.out 4).trans rfl, hx234_0⟩ (fun hHeld => ?_); refine with_tabW spec_l14Go.tab7 spec_l14Go.bits7 (fun HT_ HW_ => ?_)
   generalize w34.drew = w35 at HO_4 HO_6 BK221 BK222 BK233 HK HB hx234_0 hHeld ⊢
   refine pu 0 42 ?_ (ms 31 1) rfl rfl HT_ (by kernel_rfl) (fun _ _ _ h => h) (by rfl) ?_ ?_ ?_ ?_
   rotate_left
   ·intro w'
    go_simp
    with_reducible rfl
   rotate_left
   ·simp only [SX]
    rfl
   refine pu 2 44 ?_ (ms 31 5) rfl rfl HT_ (by kernel_rfl) (fun _ _ _ h => h) (by rfl) ?_ ?_ ?_ ?_
   rotate_left
   ·intro w'
    go_simp
    with_reducible rfl
   rotate_left
   ·simp only [SX]
    rfl
   refine tk 1 43 ?_ (ms 31 7) rfl rfl HT_ HW_ (by kernel_rfl) (fun _ _ _ h => h) (by rfl) ?_ hHeld ?_ ?_ ?_
   rotate_left
   ·rintro w' ⟨s0, s1, s2, s3, s4, s5⟩
    go_simp
    with_reducible rfl
   rotate_left
   ·simp only [SX]
    rfl
   refine pu 3 45 ?_ (ms 31 15) rfl rfl HT_ (by kernel_rfl) (fun _ _ _ h => h) (by rfl) ?_ ?_ ?_ ?_
   rotate_left
   ·intro w'
    go_simp
    with_reducible rfl
   rotate_left
   ·simp only [SX]
    rfl
   refine pu 4 46 ?_ (ms 31 31) rfl rfl HT_ (by kernel_rfl) (fun _ _ _ h => h) (by rfl) ?_ ?_ ?_ ?_
   rotate_left
   ·intro w'
    go_simp
    with_reducible rfl
   rotate_left
   ·simp only [SX]
    rfl
   refine pu 5 47 ?_ (ms 31 63) rfl rfl HT_ (by kernel_rfl) (fun _ _ _ h => h) (by rfl) ?_ ?_ ?_ ?_
   rotate_left
   ·intro w'
    go_simp
    with_reducible rfl
   rotate_left
   ·simp only [SX]
    rfl
   refine pu 6 48 ?_ (ms 31 127) rfl rfl HT_ (by kernel_rfl) (fun _ _ _ h => h) (by rfl) ?_ ?_ ?_ ?_
   rotate_left
   ·intro w'
    go_simp
    with_reducible rfl
   rotate_left
   ·simp only [SX]
    rfl
   refine tk 7 49 ?_ (ms 31 255) rfl rfl HT_ HW_ (by kernel_rfl) (fun _ _ _ h => h) (by rfl) ?_ hHeld ?_ ?_ ?_
   rotate_left
   ·rintro w' ⟨s0, s1, s2, s3, s4, s5⟩
    go_simp
    with_reducible rfl
   rotate_left
   ·simp only [SX]
    rfl
   refine pu 8 50 ?_ (ms 31 511) rfl rfl HT_ (by kernel_rfl) (fun _ _ _ h => h) (by rfl) ?_ ?_ ?_ ?_
   rotate_left
   ·intro w'
    go_simp
    with_reducible rfl
   rotate_left
   ·simp only [SX]
    rfl
   refine tk 9 51 ?_ (ms 31 1023) rfl rfl HT_ HW_ (by kernel_rfl) (fun _ _ _ h => h) (by rfl) ?_ hHeld ?_ ?_ ?_
   rotate_left
   ·rintro w' ⟨s0, s1, s2, s3, s4, s5⟩
    go_simp
    with_reducible rfl
   rotate_left
   ·simp only [SX]
    rfl
   refine pu 10 52 ?_ (ms 31 2047) rfl rfl HT_ (by kernel_rfl) (fun _ _ _ h => h) (by rfl) ?_ ?_ ?_ ?_
   rotate_left
   ·intro w'
    go_simp
    with_reducible rfl
   rotate_left
   ·simp only [SX]
    rfl
   refine pu 11 53 ?_ (ms 31 4095) rfl rfl HT_ (by kernel_rfl) (fun _ _ _ h => h) (by rfl) ?_ ?_ ?_ ?_
   rotate_left
   ·intro w'
    go_simp
    with_reducible rfl
   rotate_left
   ·simp only [SX]
    rfl
   refine pure_ (i := 12) (N := some 54) (v := undef) (a' := ?_) (ms 31 8191) rfl rfl (any_of HT_.out (by kernel_rfl)) (fun _ _ _ h => h) (Or.inr ⟨by rfl, rfl⟩) ?_ ?_
   rotate_left
   ·simp only [SX]
    rfl
   refine pure_ (i := 13) (N := some 55) (v := undef) (a' := ?_) (ms 31 16383) rfl rfl (any_of HT_.out (by kernel_rfl)) (fun _ _ _ h => h) (Or.inr ⟨by rfl, rfl⟩) ?_ ?_
   rotate_left
   ·simp only [SX]
    rfl
   refine pure_ (i := 14) (N := some 56) (v := undef) (a' := ?_) (ms 31 32767) rfl rfl (any_of HT_.out (by kernel_rfl)) (fun _ _ _ h => h) (Or.inr ⟨by rfl, rfl⟩) ?_ ?_
   rotate_left
   ·simp only [SX]
    rfl
   refine pure_ (i := 15) (N := some 57) (v := undef) (a' := ?_) (ms 31 65535) rfl rfl (any_of HT_.out (by kernel_rfl)) (fun _ _ _ h => h) (Or.inr ⟨by rfl, rfl⟩) ?_ ?_
   rotate_left
   ·simp only [SX]
    rfl
   refine pure_ (i := 16) (N := some 58) (v := undef) (a' := ?_) (ms 31 131071) rfl rfl (any_of HT_.out (by kernel_rfl)) (fun _ _ _ h => h) (Or.inr ⟨by rfl, rfl⟩) ?_ ?_
   rotate_left
   ·simp only [SX]
    rfl
   refine pure_ (i := 17) (N := some 59) (v := undef) (a' := ?_) (ms 31 262143) rfl rfl (any_of HT_.out (by kernel_rfl)) (fun _ _ _ h => h) (Or.inr ⟨by rfl, rfl⟩) ?_ ?_
   rotate_left
   ·simp only [SX]
    rfl
   refine pure_ (i := 18) (N := some 60) (v := undef) (a' := ?_) (ms 31 524287) rfl rfl (any_of HT_.out (by kernel_rfl)) (fun _ _ _ h => h) (Or.inr ⟨by rfl, rfl⟩) ?_ ?_
   rotate_left
   ·simp only [SX]
    rfl
   refine pure_ (i := 19) (N := some 61) (v := undef) (a' := ?_) (ms 31 1048575) rfl rfl (any_of HT_.out (by kernel_rfl)) (fun _ _ _ h => h) (Or.inr ⟨by rfl, rfl⟩) ?_ ?_
   rotate_left
   ·simp only [SX]
    rfl
   refine pure_ (i := 20) (N := some 62) (v := undef) (a' := ?_) (ms 31 2097151) rfl rfl (any_of HT_.out (by kernel_rfl)) (fun _ _ _ h => h) (Or.inr ⟨by rfl, rfl⟩) ?_ ?_
   rotate_left
   ·simp only [SX]
    rfl
   refine pure_ (i := 21) (N := some 63) (v := undef) (a' := ?_) (ms 31 4194303) rfl rfl (any_of HT_.out (by kernel_rfl)) (fun _ _ _ h => h) (Or.inr ⟨by rfl, rfl⟩) ?_ ?_
   rotate_left
   ·simp only [SX]
    rfl
   refine pure_ (i := 22) (N := some 64) (v := undef) (a' := ?_) (ms 31 8388607) rfl rfl (any_of HT_.out (by kernel_rfl)) (fun _ _ _ h => h) (Or.inr ⟨by rfl, rfl⟩) ?_ ?_
   rotate_left
   ·simp only [SX]
    rfl
   refine pure_ (i := 23) (N := some 65) (v := undef) (a' := ?_) (ms 31 16777215) rfl rfl (any_of HT_.out (by kernel_rfl)) (fun _ _ _ h => h) (Or.inr ⟨by rfl, rfl⟩) ?_ ?_
   rotate_left
   ·simp only [SX]
    rfl
   refine pure_ (i := 24) (N := some 66) (v := undef) (a' := ?_) (ms 31 33554431) rfl rfl (any_of HT_.out (by kernel_rfl)) (fun _ _ _ h => h) (Or.inr ⟨by rfl, rfl⟩) ?_ ?_
   rotate_left
   ·simp only [SX]
    rfl
   refine pure_ (i := 25) (N := some 67) (v := undef) (a' := ?_) (ms 31 67108863) rfl rfl (any_of HT_.out (by kernel_rfl)) (fun _ _ _ h => h) (Or.inr ⟨by rfl, rfl⟩) ?_ ?_
   rotate_left
   ·simp only [SX]
    rfl
   refine pure_ (i := 26) (N := some 68) (v := undef) (a' := ?_) (ms 31 134217727) rfl rfl (any_of HT_.out (by kernel_rfl)) (fun _ _ _ h => h) (Or.inr ⟨by rfl, rfl⟩) ?_ ?_
   rotate_left
   ·simp only [SX]
    rfl
   refine pure_ (i := 27) (N := some 69) (v := undef) (a' := ?_) (ms 31 268435455) rfl rfl (any_of HT_.out (by kernel_rfl)) (fun _ _ _ h => h) (Or.inr ⟨by rfl, rfl⟩) ?_ ?_
   rotate_left
   ·simp only [SX]
    rfl
   refine pure_ (i := 28) (N := some 70) (v := undef) (a' := ?_) (ms 31 536870911) rfl rfl (any_of HT_.out (by kernel_rfl)) (fun _ _ _ h => h) (Or.inr ⟨by rfl, rfl⟩) ?_ ?_
   rotate_left
   ·simp only [SX]
    rfl
   refine pure_ (i := 29) (N := some 71) (v := undef) (a' := ?_) (ms 31 1073741823) rfl rfl (any_of HT_.out (by kernel_rfl)) (fun _ _ _ h => h) (Or.inr ⟨by rfl, rfl⟩) ?_ ?_
   rotate_left
   ·simp only [SX]
    rfl
   refine pu 30 72 ?_ (ms 31 2147483647) rfl rfl HT_ (by kernel_rfl) (fun _ _ _ h => h) (by rfl) ?_ ?_ ?_ ?_
   rotate_left
   ·intro w'
    go_simp
    with_reducible rfl
   rotate_left
   ·simp only [SX]
    rfl
   refine done_ (done_of HT_.out (by kernel_rfl)) ?_
   try go_wp2
   go_roundg k1
   case measure => have := HK1.out; omega
   case rel => exact ⟨(x4_1), (x6_1), (wrap64 (x15_1 + 1)), (by first | rfl | (simp; done) | (simp [*]; done)), H', ⟨by have := HK1.out; omega⟩, ⟨rk HO_4⟩, ⟨by (with_reducible repeat (first | apply Kd.V_alloc | apply Kd.V_drewN | apply Kd.V_drew)); exact Kd.V_mono HO_6.out (fun _ hk => ⟨hk.1, ⟨hk.2.1, ⟨hk.2.2.1, hk.2.2.2.1⟩⟩⟩)⟩, ⟨bk BK221⟩, ⟨bk BK222⟩, ⟨by repeat (first | (with_reducible first | exact HK.out | apply Kept.alloc | apply Kept.drewN | apply Kept.drew | refine Kept.setCell ?_ (.inr GW221.out) _ | refine Kept.setCell ?_ (.inr GW222.out) _ | refine Kept.setCell ?_ (.inr GW233.out) _) | exact HK.out)⟩, ⟨bl3 HB GE221 GE222 GE233⟩⟩
  replace c27 := Bool.eq_false_iff.mpr c27
  subst c27
  rw [if_neg (show ¬ (false = true) by decide)] at H
  by_cases c37 : (x6_1.length : Int) = a2
  rotate_left
  ·rw [if_neg c37] at H
   have c37b0 : ((x6_1.length : Int) == a2) = false := beq_eq_false_iff_ne.mpr c37
   have c37b1 : ((x6_1.length : Int) != a2) = true := bne_iff_ne.mpr c37
   obtain ⟨y254, hy254⟩ : ∃ y_ : List Bool, y_ = (x4_1.set (((rd_T58 l0_1 x15_1).f1) : Int).toNat true) := ⟨_, rfl⟩
   replace H : ((some (([] : List Int) : List Int)).bind fun y255 => (if y255.length + l5_0.length < 17592186044416 then ((some (y255 ++ l5_0 : List Int)).bind fun y258 => ((some (([x15_1] : List Int) : List Int)).bind fun y261 => (if y258.length + y261.length < 17592186044416 then ((spec_l14Go.f k1 a0_0 l0_1 a1 a2 ((rd_T58 l0_1 x15_1).f1) y254 (y258 ++ y261) (wrap64 (a5_1 + ((rd_T58 l0_1 x15_1).f2))) x6_1).bind fun bt267 => (spec_l14Go.l0 k1 a1 a2 a3 (bt267.2.set (((rd_T58 l0_1 x15_1).f1) : Int).toNat false) bt267.1 (wrap64 (x15_1 + 1)) a0_0 l0_1 l5_0 a5_1)) else (none)))) else (none))) = some (r1, r2) := by first | (rw [hy254]; with_reducible exact H) | (have H2_ := (Option.bind_some _ _).symm.trans H; rw [hy254]; with_reducible exact H2_) | (have H2_ := (Option.bind_some _ _).symm.trans H; with_reducible exact H2_) | with_reducible exact H | (rw [hy254]; exact H) | exact H
   have Ny254 := ak hy254
   clear hy254
   obtain ⟨y255, hy255⟩ : ∃ y_ : List Int, y_ = (([] : List Int)) := ⟨_, rfl⟩
   replace H : (if y255.length + l5_0.length < 17592186044416 then ((some (y255 ++ l5_0 : List Int)).bind fun y258 => ((some (([x15_1] : List Int) : List Int)).bind fun y261 => (if y258.length + y261.length < 17592186044416 then ((spec_l14Go.f k1 a0_0 l0_1 a1 a2 ((rd_T58 l0_1 x15_1).f1) y254 (y258 ++ y261) (wrap64 (a5_1 + ((rd_T58 l0_1 x15_1).f2))) x6_1).bind fun bt267 => (spec_l14Go.l0 k1 a1 a2 a3 (bt267.2.set (((rd_T58 l0_1 x15_1).f1) : Int).toNat false) bt267.1 (wrap64 (x15_1 + 1)) a0_0 l0_1 l5_0 a5_1)) else (none)))) else (none)) = some (r1, r2) := by first | (rw [hy255]; with_reducible exact H) | (have H2_ := (Option.bind_some _ _).symm.trans H; rw [hy255]; with_reducible exact H2_) | (have H2_ := (Option.bind_some _ _).symm.trans H; with_reducible exact H2_) | with_reducible exact H | (rw [hy255]; exact H) | exact H
   have Ny255 := ak hy255
   clear hy255
   by_cases c85 : y255.length + l5_0.length < 17592186044416
   rotate_left
   ·rw [if_neg c85] at H
    exact absurd H (by simp)
   rw [if_pos c85] at H
   have LMc85 := ak c85
   clear c85
   obtain ⟨y258, hy258⟩ : ∃ y_ : List Int, y_ = (y255 ++ l5_0) := ⟨_, rfl⟩
   replace H : ((some (([x15_1] : List Int) : List Int)).bind fun y261 => (if y258.length + y261.length < 17592186044416 then ((spec_l14Go.f k1 a0_0 l0_1 a1 a2 ((rd_T58 l0_1 x15_1).f1) y254 (y258 ++ y261) (wrap64 (a5_1 + ((rd_T58 l0_1 x15_1).f2))) x6_1).bind fun bt267 => (spec_l14Go.l0 k1 a1 a2 a3 (bt267.2.set (((rd_T58 l0_1 x15_1).f1) : Int).toNat false) bt267.1 (wrap64 (x15_1 + 1)) a0_0 l0_1 l5_0 a5_1)) else (none))) = some (r1, r2) := by first | (rw [hy258]; with_reducible exact H) | (have H2_ := (Option.bind_some _ _).symm.trans H; rw [hy258]; with_reducible exact H2_) | (have H2_ := (Option.bind_some _ _).symm.trans H; with_reducible exact H2_) | with_reducible exact H | (rw [hy258]; exact H) | exact H
   have Ny258 := ak hy258
   clear hy258
   obtain ⟨y261, hy261⟩ : ∃ y_ : List Int, y_ = (([x15_1] : List Int)) := ⟨_, rfl⟩
   replace H : (if y258.length + y261.length < 17592186044416 then ((spec_l14Go.f k1 a0_0 l0_1 a1 a2 ((rd_T58 l0_1 x15_1).f1) y254 (y258 ++ y261) (wrap64 (a5_1 + ((rd_T58 l0_1 x15_1).f2))) x6_1).bind fun bt267 => (spec_l14Go.l0 k1 a1 a2 a3 (bt267.2.set (((rd_T58 l0_1 x15_1).f1) : Int).toNat false) bt267.1 (wrap64 (x15_1 + 1)) a0_0 l0_1 l5_0 a5_1)) else (none)) = some (r1, r2) := by first | (rw [hy261]; with_reducible exact H) | (have H2_ := (Option.bind_some _ _).symm.trans H; rw [hy261]; with_reducible exact H2_) | (have H2_ := (Option.bind_some _ _).symm.trans H; with_reducible exact H2_) | with_reducible exact H | (rw [hy261]; exact H) | exact H
   have Ny261 := ak hy261
   clear hy261
   by_cases c86 : y258.length + y261.length < 17592186044416
   rotate_left
   ·rw [if_neg c86] at H
    exact absurd H (by simp)
   rw [if_pos c86] at H
   have LMc86 := ak c86
   clear c86
   obtain ⟨y264, hy264⟩ : ∃ y_ : List Int, y_ = (y258 ++ y261) := ⟨_, rfl⟩
   replace H : ((spec_l14Go.f k1 a0_0 l0_1 a1 a2 ((rd_T58 l0_1 x15_1).f1) y254 y264 (wrap64 (a5_1 + ((rd_T58 l0_1 x15_1).f2))) x6_1).bind fun bt267 => (spec_l14Go.l0 k1 a1 a2 a3 (bt267.2.set (((rd_T58 l0_1 x15_1).f1) : Int).toNat false) bt267.1 (wrap64 (x15_1 + 1)) a0_0 l0_1 l5_0 a5_1)) = some (r1, r2) := by first | (rw [hy264]; with_reducible exact H) | (have H2_ := (Option.bind_some _ _).symm.trans H; rw [hy264]; with_reducible exact H2_) | (have H2_ := (Option.bind_some _ _).symm.trans H; with_reducible exact H2_) | with_reducible exact H | (rw [hy264]; exact H) | exact H
   have Ny264 := ak hy264
   clear hy264
   replace H := Option.bind_eq_some_iff.mp H
   obtain ⟨⟨t267, t270⟩, A870, H⟩ := H
   have A87 := ak A870
   clear A870
   obtain ⟨y271, hy271⟩ : ∃ y_ : List Bool, y_ = (t270.set (((rd_T58 l0_1 x15_1).f1) : Int).toNat false) := ⟨_, rfl⟩
   replace H : (spec_l14Go.l0 k1 a1 a2 a3 y271 t267 (wrap64 (x15_1 + 1)) a0_0 l0_1 l5_0 a5_1) = some (r1, r2) := by first | (rw [hy271]; with_reducible exact H) | (have H2_ := (Option.bind_some _ _).symm.trans H; rw [hy271]; with_reducible exact H2_) | (have H2_ := (Option.bind_some _ _).symm.trans H; with_reducible exact H2_) | with_reducible exact H | (rw [hy271]; exact H) | exact H
   have Ny271 := ak hy271
   clear hy271
   have H' := ak H
   clear H
   have hnb89 := NB221_222.out
   have hnc89 := NB222_221.out
   have hcz90_0 := bc wr BK221 0 (.int .i64 a0_0) rfl
   have hcz90_1 := bc wr BK221 1 (.slice A0_1 l0_1.length c0_1) rfl
   have hfz90_0 := fz BK221 0
   have hfz90_1 := fz BK221 1
   have p232 : 0 ≤ (x15_1 : Int) := oT (by first | (with_reducible assumption) | assumption)
   have q232 : x15_1 < (l0_1.length : Int) := oT (by first | (with_reducible assumption) | assumption)
   obtain ⟨ad232, e232, hx232_0, hx232_1, hx232_2, hx232_3, hx232_4⟩ := at_T58 (Kd.C_kept_now HR0_1.out HK.out) x15_1 p232 q232
   cases e232
   replace p232 := eq_true p232
   replace q232 := eq_true q232
   try go_wp2_with (first | ((with_reducible refine gate_dst (N := 16) rfl ?_); refine box_event ?hg (N := 16) ?hd (cs := #[.int .i64 0, .int .i64 0, .int .i64 0, .int .i64 0, .int .i64 0]) (t := 58) ?hr ?_; (case hd => rfl); (case hg => rfl); (case hr => first | (go_simp; done) | (go_simp; rfl)); intro gb233 hg w91 hbox hb; replace HO_4 := ak (Kd.R_below (rk HO_4) hb); replace HO_6 := ak (Kd.V_below (Kd.V_elderB (by (with_reducible repeat (first | apply Kd.V_alloc | apply Kd.V_drewN | apply Kd.V_drew)); exact HO_6.out) gb233 (Nat.le_of_eq hg.symm)) hb); have BK233 := ak (hbox); have GW233 := ak ((by rw [hg]; exact (by first | exact HK.out.1 | exact (show Kept w _ (fun k_ => P4_ k_) from by repeat (first | (with_reducible first | exact HK.out | apply Kept.alloc | apply Kept.drewN | apply Kept.drew | refine Kept.setCell ?_ (.inr GW221.out) _ | refine Kept.setCell ?_ (.inr GW222.out) _) | exact HK.out)).1) : w.heap.size ≤ gb233)); replace HK := ak (Kept.below (S := (fun k_ => P4_ k_)) (by repeat (first | (with_reducible first | exact HK.out | apply Kept.alloc | apply Kept.drewN | apply Kept.drew | refine Kept.setCell ?_ (.inr GW221.out) _ | refine Kept.setCell ?_ (.inr GW222.out) _) | exact HK.out)) hb); have GE233 := ak ((by rw [hg]; exact (below_size (bl2 HB GE221 GE222)) : w0.heap.size ≤ gb233)); replace HB := ak (below_step (bl2 HB GE221 GE222) hb); have NB221_233 := ak ((by rw [hg]; exact Nat.ne_of_lt (blk_lt (bk BK221)) : gb221 ≠ gb233)); have NB233_221 := ak ((by rw [hg]; exact Nat.ne_of_gt (blk_lt (bk BK221)) : gb233 ≠ gb221)); replace BK221 := ak (blk_below (bk BK221) hb); have NB222_233 := ak ((by rw [hg]; exact Nat.ne_of_lt (blk_lt (bk BK222)) : gb222 ≠ gb233)); have NB233_222 := ak ((by rw [hg]; exact Nat.ne_of_gt (blk_lt (bk BK222)) : gb233 ≠ gb222)); replace BK222 := ak (blk_below (bk BK222) hb); clear hb hbox hg; have hnb92 := NB233_221.out; have hnc92 := NB221_233.out; have hnb93 := NB233_222.out; have hnc93 := NB222_233.out; have hcz94_0 := bc w91 BK233 0 (.int .i64 0) rfl; have hcz94_1 := bc w91 BK233 1 (.int .i64 0) rfl; have hcz94_2 := bc w91 BK233 2 (.int .i64 0) rfl; have hcz94_3 := bc w91 BK233 3 (.int .i64 0) rfl; have hcz94_4 := bc w91 BK233 4 (.int .i64 0) rfl; have hfz94_0 := fz BK233 0; have hfz94_1 := fz BK233 1; have hfz94_2 := fz BK233 2; have hfz94_3 := fz BK233 3; have hfz94_4 := fz BK233 4))
   have n0_ : Aside0 (Kd.R Kd.bool 4 (((((w91.setCell ⟨gb233, 0, none⟩ (.int .i64 ((rd_T58 l0_1 x15_1).f0))).setCell ⟨gb233, 1, none⟩ (.int .i64 ((rd_T58 l0_1 x15_1).f1))).setCell ⟨gb233, 2, none⟩ (.int .i64 ((rd_T58 l0_1 x15_1).f2))).setCell ⟨gb233, 3, none⟩ (.int .i64 ((rd_T58 l0_1 x15_1).f3))).setCell ⟨gb233, 4, none⟩ (.int .i64 ((rd_T58 l0_1 x15_1).f4))) w0.heap.size (fun k_ => (P4_ k_ ∨ w.heap.size ≤ k_)) u9000_ x4_1) := ⟨by (with_reducible repeat (first | apply Kd.R_alloc | apply Kd.R_drewN | apply Kd.R_drew)); exact Kd.R_mono (Kd.R_far (p := ⟨gb233, 4, none⟩) (Kd.R_far (p := ⟨gb233, 3, none⟩) (Kd.R_far (p := ⟨gb233, 2, none⟩) (Kd.R_far (p := ⟨gb233, 1, none⟩) (Kd.R_far (p := ⟨gb233, 0, none⟩) (Kd.R_types HO_4.out BK233.out (by decide)) (fun _ hk => hk.2) (.int .i64 ((rd_T58 l0_1 x15_1).f0))) (fun _ hk => hk.2) (.int .i64 ((rd_T58 l0_1 x15_1).f1))) (fun _ hk => hk.2) (.int .i64 ((rd_T58 l0_1 x15_1).f2))) (fun _ hk => hk.2) (.int .i64 ((rd_T58 l0_1 x15_1).f3))) (fun _ hk => hk.2) (.int .i64 ((rd_T58 l0_1 x15_1).f4))) (fun _ hk => hk.1)⟩
   have n1_ : Aside0 (Kd.V k103 103 (((((w91.setCell ⟨gb233, 0, none⟩ (.int .i64 ((rd_T58 l0_1 x15_1).f0))).setCell ⟨gb233, 1, none⟩ (.int .i64 ((rd_T58 l0_1 x15_1).f1))).setCell ⟨gb233, 2, none⟩ (.int .i64 ((rd_T58 l0_1 x15_1).f2))).setCell ⟨gb233, 3, none⟩ (.int .i64 ((rd_T58 l0_1 x15_1).f3))).setCell ⟨gb233, 4, none⟩ (.int .i64 ((rd_T58 l0_1 x15_1).f4))) w0.heap.size (fun k_ => ((P4_ k_ ∨ P6_ k_) ∨ w.heap.size ≤ k_) ∧ some k_ ≠ (u9000_ : Value).ownBlock ∧ k_ ≠ gb221 ∧ k_ ≠ gb222 ∧ k_ ≠ gb233) u6 x6_1) := ⟨by (with_reducible repeat (first | apply Kd.V_alloc | apply Kd.V_drewN | apply Kd.V_drew)); exact Kd.V_mono (Kd.V_far (p := ⟨gb233, 4, none⟩) (Kd.V_far (p := ⟨gb233, 3, none⟩) (Kd.V_far (p := ⟨gb233, 2, none⟩) (Kd.V_far (p := ⟨gb233, 1, none⟩) (Kd.V_far (p := ⟨gb233, 0, none⟩) (Kd.V_mono HO_6.out (fun k_ hk => (⟨hk, hk.2⟩ : _ ∧ k_ ≠ gb233))) (fun _ hk => hk.2) (.int .i64 ((rd_T58 l0_1 x15_1).f0))) (fun _ hk => hk.2) (.int .i64 ((rd_T58 l0_1 x15_1).f1))) (fun _ hk => hk.2) (.int .i64 ((rd_T58 l0_1 x15_1).f2))) (fun _ hk => hk.2) (.int .i64 ((rd_T58 l0_1 x15_1).f3))) (fun _ hk => hk.2) (.int .i64 ((rd_T58 l0_1 x15_1).f4))) (fun _ hk => ⟨hk.1.1.1, ⟨hk.1.1.2.1, ⟨hk.1.1.2.2.1, ⟨hk.1.1.2.2.2, hk.1.2⟩⟩⟩⟩)⟩
   have n2_ : Aside0 ((((((w91.setCell ⟨gb233, 0, none⟩ (.int .i64 ((rd_T58 l0_1 x15_1).f0))).setCell ⟨gb233, 1, none⟩ (.int .i64 ((rd_T58 l0_1 x15_1).f1))).setCell ⟨gb233, 2, none⟩ (.int .i64 ((rd_T58 l0_1 x15_1).f2))).setCell ⟨gb233, 3, none⟩ (.int .i64 ((rd_T58 l0_1 x15_1).f3))).setCell ⟨gb233, 4, none⟩ (.int .i64 ((rd_T58 l0_1 x15_1).f4))).heap[gb221]? = some (.cells #[.int .i64 a0_0, .slice (some ad232) l0_1.length c0_1] 25 (0, 0))) := ⟨by (with_reducible repeat (first | refine blk_drewN ?_ _ | refine blk_drew ?_ | refine blk_alloc ?_ _)); refine blk_far ?_ NB221_233.out _; refine blk_far ?_ NB221_233.out _; refine blk_far ?_ NB221_233.out _; refine blk_far ?_ NB221_233.out _; refine blk_far ?_ NB221_233.out _; (with_reducible repeat (first | refine blk_drewN ?_ _ | refine blk_drew ?_ | refine blk_alloc ?_ _)); exact BK221.out⟩
   have n3_ : Aside0 ((((((w91.setCell ⟨gb233, 0, none⟩ (.int .i64 ((rd_T58 l0_1 x15_1).f0))).setCell ⟨gb233, 1, none⟩ (.int .i64 ((rd_T58 l0_1 x15_1).f1))).setCell ⟨gb233, 2, none⟩ (.int .i64 ((rd_T58 l0_1 x15_1).f2))).setCell ⟨gb233, 3, none⟩ (.int .i64 ((rd_T58 l0_1 x15_1).f3))).setCell ⟨gb233, 4, none⟩ (.int .i64 ((rd_T58 l0_1 x15_1).f4))).heap[gb222]? = some (.cells #[.slice A5_0 l5_0.length c5_0, .int .i64 a5_1] 103 (0, 0))) := ⟨by (with_reducible repeat (first | refine blk_drewN ?_ _ | refine blk_drew ?_ | refine blk_alloc ?_ _)); refine blk_far ?_ NB222_233.out _; refine blk_far ?_ NB222_233.out _; refine blk_far ?_ NB222_233.out _; refine blk_far ?_ NB222_233.out _; refine blk_far ?_ NB222_233.out _; (with_reducible repeat (first | refine blk_drewN ?_ _ | refine blk_drew ?_ | refine blk_alloc ?_ _)); exact BK222.out⟩
   have n4_ : Aside0 ((((((w91.setCell ⟨gb233, 0, none⟩ (.int .i64 ((rd_T58 l0_1 x15_1).f0))).setCell ⟨gb233, 1, none⟩ (.int .i64 ((rd_T58 l0_1 x15_1).f1))).setCell ⟨gb233, 2, none⟩ (.int .i64 ((rd_T58 l0_1 x15_1).f2))).setCell ⟨gb233, 3, none⟩ (.int .i64 ((rd_T58 l0_1 x15_1).f3))).setCell ⟨gb233, 4, none⟩ (.int .i64 ((rd_T58 l0_1 x15_1).f4))).heap[gb233]? = some (.cells #[.int .i64 ((rd_T58 l0_1 x15_1).f0), .int .i64 ((rd_T58 l0_1 x15_1).f1), .int .i64 ((rd_T58 l0_1 x15_1).f2), .int .i64 ((rd_T58 l0_1 x15_1).f3), .int .i64 ((rd_T58 l0_1 x15_1).f4)] 58 (0, 0))) := ⟨by (with_reducible repeat (first | refine blk_drewN ?_ _ | refine blk_drew ?_ | refine blk_alloc ?_ _)); refine blk_put (cs := #[.int .i64 ((rd_T58 l0_1 x15_1).f0), .int .i64 ((rd_T58 l0_1 x15_1).f1), .int .i64 ((rd_T58 l0_1 x15_1).f2), .int .i64 ((rd_T58 l0_1 x15_1).f3), .int .i64 0]) ?_ 4 _ rfl; refine blk_put (cs := #[.int .i64 ((rd_T58 l0_1 x15_1).f0), .int .i64 ((rd_T58 l0_1 x15_1).f1), .int .i64 ((rd_T58 l0_1 x15_1).f2), .int .i64 0, .int .i64 0]) ?_ 3 _ rfl; refine blk_put (cs := #[.int .i64 ((rd_T58 l0_1 x15_1).f0), .int .i64 ((rd_T58 l0_1 x15_1).f1), .int .i64 0, .int .i64 0, .int .i64 0]) ?_ 2 _ rfl; refine blk_put (cs := #[.int .i64 ((rd_T58 l0_1 x15_1).f0), .int .i64 0, .int .i64 0, .int .i64 0, .int .i64 0]) ?_ 1 _ rfl; refine blk_put (cs := #[.int .i64 0, .int .i64 0, .int .i64 0, .int .i64 0, .int .i64 0]) ?_ 0 _ rfl; (with_reducible repeat (first | refine blk_drewN ?_ _ | refine blk_drew ?_ | refine blk_alloc ?_ _)); exact BK233.out⟩
   have n5_ : Aside0 (Kept w (((((w91.setCell ⟨gb233, 0, none⟩ (.int .i64 ((rd_T58 l0_1 x15_1).f0))).setCell ⟨gb233, 1, none⟩ (.int .i64 ((rd_T58 l0_1 x15_1).f1))).setCell ⟨gb233, 2, none⟩ (.int .i64 ((rd_T58 l0_1 x15_1).f2))).setCell ⟨gb233, 3, none⟩ (.int .i64 ((rd_T58 l0_1 x15_1).f3))).setCell ⟨gb233, 4, none⟩ (.int .i64 ((rd_T58 l0_1 x15_1).f4))) (fun k_ => P4_ k_)) := ⟨by repeat (first | (with_reducible first | exact HK.out | apply Kept.alloc | apply Kept.drewN | apply Kept.drew | refine Kept.setCell ?_ (.inr GW221.out) _ | refine Kept.setCell ?_ (.inr GW222.out) _ | refine Kept.setCell ?_ (.inr GW233.out) _) | exact HK.out)⟩
   have n6_ : Aside0 (Below w0.heap.size w0 (((((w91.setCell ⟨gb233, 0, none⟩ (.int .i64 ((rd_T58 l0_1 x15_1).f0))).setCell ⟨gb233, 1, none⟩ (.int .i64 ((rd_T58 l0_1 x15_1).f1))).setCell ⟨gb233, 2, none⟩ (.int .i64 ((rd_T58 l0_1 x15_1).f2))).setCell ⟨gb233, 3, none⟩ (.int .i64 ((rd_T58 l0_1 x15_1).f3))).setCell ⟨gb233, 4, none⟩ (.int .i64 ((rd_T58 l0_1 x15_1).f4)))) := ⟨bl3 HB GE221 GE222 GE233⟩
   (try clear HO_4)
   (try clear HO_6)
   (try clear BK221)
   (try clear BK222)
   (try clear BK233)
   (try clear HK)
   (try clear HB)
   generalize (((((w91.setCell ⟨gb233, 0, none⟩ (.int .i64 ((rd_T58 l0_1 x15_1).f0))).setCell ⟨gb233, 1, none⟩ (.int .i64 ((rd_T58 l0_1 x15_1).f1))).setCell ⟨gb233, 2, none⟩ (.int .i64 ((rd_T58 l0_1 x15_1).f2))).setCell ⟨gb233, 3, none⟩ (.int .i64 ((rd_T58 l0_1 x15_1).f3))).setCell ⟨gb233, 4, none⟩ (.int .i64 ((rd_T58 l0_1 x15_1).f4))) = w95 at n0_ n1_ n2_ n3_ n4_ n5_ n6_ ⊢
   have HO_4 := n0_
   have HO_6 := n1_
   have BK221 := n2_
   have BK222 := n3_
   have BK233 := n4_
   have HK := n5_
   have HB := n6_
   clear n0_ n1_ n2_ n3_ n4_ n5_ n6_
   replace HO_4 := ak (Kd.R_drew HO_4.out)
   replace HO_6 := ak (Kd.V_drew HO_6.out)
   replace BK221 := ak (blk_drew BK221.out)
   replace BK222 := ak (blk_drew BK222.out)
   replace BK233 := ak (blk_drew BK233.out)
   replace HK := ak (Kept.drew HK.out)
   replace HB := ak (below_drew1 HB.out)
   obtain ⟨Ao97, co97, eo97⟩ := Kd.R_slice HO_4.out
   (first | subst eo97 | (injection eo97 with f1_ f2_ f3_; have f4_ := f1_.symm; have f5_ := f3_.symm; clear f1_ f2_ f3_; subst f4_; subst f5_))
   have p234 : 0 ≤ (((rd_T58 l0_1 x15_1).f1) : Int) := oT (by first | (with_reducible assumption) | assumption)
   have q234 : ((rd_T58 l0_1 x15_1).f1) < (x4_1.length : Int) := oT (by first | (with_reducible assumption) | assumption)
   obtain ⟨ad234, e234, hx234_0⟩ := Kd.at_bool (Kd.R_reads' HO_4.out).2.2 ((rd_T58 l0_1 x15_1).f1) p234 q234
   (try rw [← Nbq26.out] at hx234_0)
   cases e234
   replace p234 := eq_true p234
   replace q234 := eq_true q234
   obtain ⟨Ao98, co98, eo98⟩ := Kd.V_slice HO_6.out
   (first | subst eo98 | (injection eo98 with f1_ f2_ f3_; have f4_ := f1_.symm; have f5_ := f3_.symm; clear f1_ f2_ f3_; subst f4_; subst f5_))
   refine start_ (n := 31) (S := fun w' => w'.cell? ⟨gb233, 0, none⟩ = some (.int .i64 ((rd_T58 l0_1 x15_1).f0)) ∧ w'.cell? ⟨gb233, 1, none⟩ = some (.int .i64 ((rd_T58 l0_1 x15_1).f1)) ∧ w'.cell? ⟨gb233, 2, none⟩ = some (.int .i64 ((rd_T58 l0_1 x15_1).f2)) ∧ w'.cell? ⟨gb233, 3, none⟩ = some (.int .i64 ((rd_T58 l0_1 x15_1).f3)) ∧ w'.cell? ⟨gb233, 4, none⟩ = some (.int .i64 ((rd_T58 l0_1 x15_1).f4)) ∧ w'.cell? (ad234.add (((rd_T58 l0_1 x15_1).f1)).toNat) = some (.bool false)) (ds := []) (ms 31 0) (by kernel_rfl) rfl (by kernel_rfl) ⟨(blk_cell BK233.out 0).trans rfl, (blk_cell BK233.out 1).trans rfl, (blk_cell BK233.out 2).trans rfl, (blk_cell BK233.out 3).trans rfl, (blk_cell BK233.out 4).trans rfl, hx234_0⟩ (fun hHeld => ?_); refine with_tabW spec_l14Go.tab7 spec_l14Go.bits7 (fun HT_ HW_ => ?_)
   generalize w95.drew = w96 at HO_4 HO_6 BK221 BK222 BK233 HK HB hx234_0 hHeld ⊢
   refine pu 0 42 ?_ (ms 31 1) rfl rfl HT_ (by kernel_rfl) (fun _ _ _ h => h) (by rfl) ?_ ?_ ?_ ?_
   rotate_left
   ·intro w'
    go_simp
    with_reducible rfl
   rotate_left
   ·simp only [SX]
    rfl
   refine pu 2 44 ?_ (ms 31 5) rfl rfl HT_ (by kernel_rfl) (fun _ _ _ h => h) (by rfl) ?_ ?_ ?_ ?_
   rotate_left
   ·intro w'
    go_simp
    with_reducible rfl
   rotate_left
   ·simp only [SX]
    rfl
   refine tk 1 43 ?_ (ms 31 7) rfl rfl HT_ HW_ (by kernel_rfl) (fun _ _ _ h => h) (by rfl) ?_ hHeld ?_ ?_ ?_
   rotate_left
   ·rintro w' ⟨s0, s1, s2, s3, s4, s5⟩
    go_simp
    with_reducible rfl
   rotate_left
   ·simp only [SX]
    rfl
   refine pu 3 45 ?_ (ms 31 15) rfl rfl HT_ (by kernel_rfl) (fun _ _ _ h => h) (by rfl) ?_ ?_ ?_ ?_
   rotate_left
   ·intro w'
    go_simp
    with_reducible rfl
   rotate_left
   ·simp only [SX]
    rfl
   refine pu 4 46 ?_ (ms 31 31) rfl rfl HT_ (by kernel_rfl) (fun _ _ _ h => h) (by rfl) ?_ ?_ ?_ ?_
   rotate_left
   ·intro w'
    go_simp
    with_reducible rfl
   rotate_left
   ·simp only [SX]
    rfl
   refine pu 5 47 ?_ (ms 31 63) rfl rfl HT_ (by kernel_rfl) (fun _ _ _ h => h) (by rfl) ?_ ?_ ?_ ?_
   rotate_left
   ·intro w'
    go_simp
    with_reducible rfl
   rotate_left
   ·simp only [SX]
    rfl
   refine pu 6 48 ?_ (ms 31 127) rfl rfl HT_ (by kernel_rfl) (fun _ _ _ h => h) (by rfl) ?_ ?_ ?_ ?_
   rotate_left
   ·intro w'
    go_simp
    with_reducible rfl
   rotate_left
   ·simp only [SX]
    rfl
   refine tk 7 49 ?_ (ms 31 255) rfl rfl HT_ HW_ (by kernel_rfl) (fun _ _ _ h => h) (by rfl) ?_ hHeld ?_ ?_ ?_
   rotate_left
   ·rintro w' ⟨s0, s1, s2, s3, s4, s5⟩
    go_simp
    with_reducible rfl
   rotate_left
   ·simp only [SX]
    rfl
   refine pu 8 50 ?_ (ms 31 511) rfl rfl HT_ (by kernel_rfl) (fun _ _ _ h => h) (by rfl) ?_ ?_ ?_ ?_
   rotate_left
   ·intro w'
    go_simp
    with_reducible rfl
   rotate_left
   ·simp only [SX]
    rfl
   refine tk 9 51 ?_ (ms 31 1023) rfl rfl HT_ HW_ (by kernel_rfl) (fun _ _ _ h => h) (by rfl) ?_ hHeld ?_ ?_ ?_
   rotate_left
   ·rintro w' ⟨s0, s1, s2, s3, s4, s5⟩
    go_simp
    with_reducible rfl
   rotate_left
   ·simp only [SX]
    rfl
   refine pu 10 52 ?_ (ms 31 2047) rfl rfl HT_ (by kernel_rfl) (fun _ _ _ h => h) (by rfl) ?_ ?_ ?_ ?_
   rotate_left
   ·intro w'
    go_simp
    with_reducible rfl
   rotate_left
   ·simp only [SX]
    rfl
   refine pu 11 53 ?_ (ms 31 4095) rfl rfl HT_ (by kernel_rfl) (fun _ _ _ h => h) (by rfl) ?_ ?_ ?_ ?_
   rotate_left
   ·intro w'
    go_simp
    with_reducible rfl
   rotate_left
   ·simp only [SX]
    rfl
   refine pu 12 54 ?_ (ms 31 8191) rfl rfl HT_ (by kernel_rfl) (fun _ _ _ h => h) (by rfl) ?_ ?_ ?_ ?_
   rotate_left
   ·intro w'
    go_simp
    with_reducible rfl
   rotate_left
   ·simp only [SX]
    rfl
   refine pu 13 55 ?_ (ms 31 16383) rfl rfl HT_ (by kernel_rfl) (fun _ _ _ h => h) (by rfl) ?_ ?_ ?_ ?_
   rotate_left
   ·intro w'
    go_simp
    with_reducible rfl
   rotate_left
   ·simp only [SX]
    rfl
   refine pu 14 56 ?_ (ms 31 32767) rfl rfl HT_ (by kernel_rfl) (fun _ _ _ h => h) (by rfl) ?_ ?_ ?_ ?_
   rotate_left
   ·intro w'
    go_simp
    with_reducible rfl
   rotate_left
   ·simp only [SX]
    rfl
   refine pu 15 57 ?_ (ms 31 65535) rfl rfl HT_ (by kernel_rfl) (fun _ _ _ h => h) (by rfl) ?_ ?_ ?_ ?_
   rotate_left
   ·intro w'
    go_simp
    with_reducible rfl
   rotate_left
   ·simp only [SX]
    rfl
   refine pu 16 58 ?_ (ms 31 131071) rfl rfl HT_ (by kernel_rfl) (fun _ _ _ h => h) (by rfl) ?_ ?_ ?_ ?_
   rotate_left
   ·intro w'
    go_simp
    with_reducible rfl
   rotate_left
   ·simp only [SX]
    rfl
   refine pure_ (i := 17) (N := some 59) (v := undef) (a' := ?_) (ms 31 262143) rfl rfl (any_of HT_.out (by kernel_rfl)) (fun _ _ _ h => h) (Or.inr ⟨by rfl, rfl⟩) ?_ ?_
   rotate_left
   ·simp only [SX]
    rfl
   refine pure_ (i := 18) (N := some 60) (v := undef) (a' := ?_) (ms 31 524287) rfl rfl (any_of HT_.out (by kernel_rfl)) (fun _ _ _ h => h) (Or.inr ⟨by rfl, rfl⟩) ?_ ?_
   rotate_left
   ·simp only [SX]
    rfl
   refine pure_ (i := 19) (N := some 61) (v := undef) (a' := ?_) (ms 31 1048575) rfl rfl (any_of HT_.out (by kernel_rfl)) (fun _ _ _ h => h) (Or.inr ⟨by rfl, rfl⟩) ?_ ?_
   rotate_left
   ·simp only [SX]
    rfl
   refine pure_ (i := 20) (N := some 62) (v := undef) (a' := ?_) (ms 31 2097151) rfl rfl (any_of HT_.out (by kernel_rfl)) (fun _ _ _ h => h) (Or.inr ⟨by rfl, rfl⟩) ?_ ?_
   rotate_left
   ·simp only [SX]
    rfl
   refine pure_ (i := 21) (N := some 63) (v := undef) (a' := ?_) (ms 31 4194303) rfl rfl (any_of HT_.out (by kernel_rfl)) (fun _ _ _ h => h) (Or.inr ⟨by rfl, rfl⟩) ?_ ?_
   rotate_left
   ·simp only [SX]
    rfl
   refine pure_ (i := 22) (N := some 64) (v := undef) (a' := ?_) (ms 31 8388607) rfl rfl (any_of HT_.out (by kernel_rfl)) (fun _ _ _ h => h) (Or.inr ⟨by rfl, rfl⟩) ?_ ?_
   rotate_left
   ·simp only [SX]
    rfl
   refine pure_ (i := 23) (N := some 65) (v := undef) (a' := ?_) (ms 31 16777215) rfl rfl (any_of HT_.out (by kernel_rfl)) (fun _ _ _ h => h) (Or.inr ⟨by rfl, rfl⟩) ?_ ?_
   rotate_left
   ·simp only [SX]
    rfl
   refine pure_ (i := 24) (N := some 66) (v := undef) (a' := ?_) (ms 31 33554431) rfl rfl (any_of HT_.out (by kernel_rfl)) (fun _ _ _ h => h) (Or.inr ⟨by rfl, rfl⟩) ?_ ?_
   rotate_left
   ·simp only [SX]
    rfl
   refine pure_ (i := 25) (N := some 67) (v := undef) (a' := ?_) (ms 31 67108863) rfl rfl (any_of HT_.out (by kernel_rfl)) (fun _ _ _ h => h) (Or.inr ⟨by rfl, rfl⟩) ?_ ?_
   rotate_left
   ·simp only [SX]
    rfl
   refine pure_ (i := 26) (N := some 68) (v := undef) (a' := ?_) (ms 31 134217727) rfl rfl (any_of HT_.out (by kernel_rfl)) (fun _ _ _ h => h) (Or.inr ⟨by rfl, rfl⟩) ?_ ?_
   rotate_left
   ·simp only [SX]
    rfl
   refine pure_ (i := 27) (N := some 69) (v := undef) (a' := ?_) (ms 31 268435455) rfl rfl (any_of HT_.out (by kernel_rfl)) (fun _ _ _ h => h) (Or.inr ⟨by rfl, rfl⟩) ?_ ?_
   rotate_left
   ·simp only [SX]
    rfl
   refine pure_ (i := 28) (N := some 70) (v := undef) (a' := ?_) (ms 31 536870911) rfl rfl (any_of HT_.out (by kernel_rfl)) (fun _ _ _ h => h) (Or.inr ⟨by rfl, rfl⟩) ?_ ?_
   rotate_left
   ·simp only [SX]
    rfl
   refine pu 29 71 ?_ (ms 31 1073741823) rfl rfl HT_ (by kernel_rfl) (fun _ _ _ h => h) (by rfl) ?_ ?_ ?_ ?_
   rotate_left
   ·intro w'
    go_simp
    with_reducible rfl
   rotate_left
   ·simp only [SX]
    rfl
   refine pu 30 72 ?_ (ms 31 2147483647) rfl rfl HT_ (by kernel_rfl) (fun _ _ _ h => h) (by rfl) ?_ ?_ ?_ ?_
   rotate_left
   ·intro w'
    go_simp
    with_reducible rfl
   rotate_left
   ·simp only [SX]
    rfl
   refine done_ (done_of HT_.out (by kernel_rfl)) ?_
   have hcz99_0 := bc w96 BK233 0 (.int .i64 ((rd_T58 l0_1 x15_1).f0)) rfl
   have hcz99_1 := bc w96 BK233 1 (.int .i64 ((rd_T58 l0_1 x15_1).f1)) rfl
   have hcz99_2 := bc w96 BK233 2 (.int .i64 ((rd_T58 l0_1 x15_1).f2)) rfl
   have hcz99_3 := bc w96 BK233 3 (.int .i64 ((rd_T58 l0_1 x15_1).f3)) rfl
   have hcz99_4 := bc w96 BK233 4 (.int .i64 ((rd_T58 l0_1 x15_1).f4)) rfl
   have hfz99_0 := fz BK233 0
   have hfz99_1 := fz BK233 1
   have hfz99_2 := fz BK233 2
   have hfz99_3 := fz BK233 3
   have hfz99_4 := fz BK233 4
   have p84 : 0 ≤ (((rd_T58 l0_1 x15_1).f1) : Int) := oT (by first | (with_reducible assumption) | assumption)
   have q84 : (((rd_T58 l0_1 x15_1).f1) : Int) < ((x4_1.length : Int) : Int) := oT (by first | (with_reducible assumption) | assumption)
   obtain ⟨go84, co84, eo84, gb84, gl84, cl84, HG84⟩ := Kd.R_form HO_4.out (by omega)
   (first | cases eo84 | (injection eo84 with ea_ en_ ec_; (first | subst ea_ | (injection ea_ with ea_; subst ea_)); subst ec_; clear en_))
   have GB84 := ak gb84
   have GG84 := ak HG84
   clear gb84 gl84 HG84
   have HMgo84 := ak (show (P4_ go84 ∨ w.heap.size ≤ go84) from (HO_4.out.1 _ rfl))
   (first | simp only [add_plain] at hx234_0 | skip)
   obtain ⟨hx84_0, hf84_0⟩ := Kd.R_celln false HO_4.out (((rd_T58 l0_1 x15_1).f1) : Int) p84 q84
   replace p84 := eq_true p84
   replace q84 := eq_true q84
   obtain ⟨hy100_, hz100_⟩ := Kd.R_celln false HO_4.out (((rd_T58 l0_1 x15_1).f1) : Int) (oT (by first | (with_reducible assumption) | assumption)) (oT (by first | (with_reducible assumption) | assumption))
   have HP100 := Kd.R_putg HO_4.out (((rd_T58 l0_1 x15_1).f1) : Int) true
   try go_wp2_with (first | ((with_reducible refine gate_store (t := 4) (p := 76) rfl ?_); refine store_event (t := 4) (p := 76) (v := ?vo_w101) (w1 := (w96.setCell ⟨go84, (((rd_T58 l0_1 x15_1).f1) : Int).toNat, none⟩ (.bool true))) ?hg ?ho ?hn ?hr ?_; (case ho => rfl); (case hg => rfl); (case hn => rfl); (case hr => first | (go_simp; done) | (go_simp; rfl)); intro w101 hw; have hg : w96.grownBy w101 (some go84) := (by rw [hw]; exact HP100.2); have hp_ : Kd.R Kd.bool 4 w101 w0.heap.size (fun k_ => (P4_ k_ ∨ w.heap.size ≤ k_)) (.slice (some ⟨go84, 0, none⟩) x4_1.length co97) y254 := (by rw [hw, Ny254.out]; exact HP100.1); clear HP100; replace HO_6 := ak (Kd.V_afterv (v := (.slice (some ⟨go84, 0, none⟩) x4_1.length co97)) (v1 := (.slice (some ⟨go84, 0, none⟩) x4_1.length co97)) (ok := (fun k_ => ((P4_ k_ ∨ P6_ k_) ∨ w.heap.size ≤ k_) ∧ k_ ≠ gb221 ∧ k_ ≠ gb222 ∧ k_ ≠ gb233)) (by (with_reducible repeat (first | apply Kd.V_alloc | apply Kd.V_drewN | apply Kd.V_drew)); exact Kd.V_mono HO_6.out (fun _ hk => ⟨⟨hk.1, ⟨hk.2.2.1, ⟨hk.2.2.2.1, hk.2.2.2.2⟩⟩⟩, hk.2.1⟩)) hg (.inl rfl)); replace BK221 := ak (blk_grown (bk BK221) hg (Kd.R_ne HO_4.out BK221.out (by decide))); replace BK222 := ak (blk_grown (bk BK222) hg (Kd.R_ne HO_4.out BK222.out (by decide))); replace BK233 := ak (blk_grown (bk BK233) hg (Kd.R_ne HO_4.out BK233.out (by decide))); replace HB := ak ((by rw [hw]; exact below_set (HB.out) GB84.out : Below w0.heap.size w0 w101)); replace HK := ak (Kept.of_grown (S := (fun k_ => P4_ k_)) hg (by repeat (first | (with_reducible first | exact HK.out | apply Kept.alloc | apply Kept.drewN | apply Kept.drew | refine Kept.setCell ?_ (.inr GW221.out) _ | refine Kept.setCell ?_ (.inr GW222.out) _ | refine Kept.setCell ?_ (.inr GW233.out) _) | exact HK.out)) (fun k_ e_ => (HO_4.out.1 k_ e_))); replace HO_4 := ak (hp_); clear hg hw hp_))
   replace HO_4 := ak (Kd.R_drew HO_4.out)
   replace HO_6 := ak (Kd.V_drew HO_6.out)
   replace BK221 := ak (blk_drew BK221.out)
   replace BK222 := ak (blk_drew BK222.out)
   replace BK233 := ak (blk_drew BK233.out)
   replace HK := ak (Kept.drew HK.out)
   replace HB := ak (below_drew1 HB.out)
   refine start_ (n := 22) (S := fun w' => w'.cell? ⟨gb221, 0, none⟩ = some (.int .i64 a0_0) ∧ w'.cell? ⟨gb221, 1, none⟩ = some (.slice (some ad232) l0_1.length c0_1) ∧ w'.cell? ⟨gb233, 0, none⟩ = some (.int .i64 ((rd_T58 l0_1 x15_1).f0)) ∧ w'.cell? ⟨gb233, 1, none⟩ = some (.int .i64 ((rd_T58 l0_1 x15_1).f1)) ∧ w'.cell? ⟨gb233, 2, none⟩ = some (.int .i64 ((rd_T58 l0_1 x15_1).f2)) ∧ w'.cell? ⟨gb233, 3, none⟩ = some (.int .i64 ((rd_T58 l0_1 x15_1).f3)) ∧ w'.cell? ⟨gb233, 4, none⟩ = some (.int .i64 ((rd_T58 l0_1 x15_1).f4)) ∧ w'.cell? ⟨gb222, 0, none⟩ = some (.slice A5_0 l5_0.length c5_0) ∧ w'.cell? ⟨gb222, 1, none⟩ = some (.int .i64 a5_1)) (ds := []) (ms 22 0) (by kernel_rfl) rfl (by kernel_rfl) ⟨(blk_cell BK221.out 0).trans rfl, (blk_cell BK221.out 1).trans rfl, (blk_cell BK233.out 0).trans rfl, (blk_cell BK233.out 1).trans rfl, (blk_cell BK233.out 2).trans rfl, (blk_cell BK233.out 3).trans rfl, (blk_cell BK233.out 4).trans rfl, (blk_cell BK222.out 0).trans rfl, (blk_cell BK222.out 1).trans rfl⟩ (fun hHeld => ?_); refine with_tabW spec_l14Go.tab9 spec_l14Go.bits9 (fun HT_ HW_ => ?_)
   generalize w101.drew = w102 at HO_4 HO_6 BK221 BK222 BK233 HK HB hHeld ⊢
   refine pu 1 78 ?_ (ms 22 2) rfl rfl HT_ (by kernel_rfl) (fun _ _ _ h => h) (by rfl) ?_ ?_ ?_ ?_
   rotate_left
   ·intro w'
    go_simp
    with_reducible rfl
   rotate_left
   ·simp only [SX]
    rfl
   refine pu 2 79 ?_ (ms 22 6) rfl rfl HT_ (by kernel_rfl) (fun _ _ _ h => h) (by rfl) ?_ ?_ ?_ ?_
   rotate_left
   ·intro w'
    go_simp
    with_reducible rfl
   rotate_left
   ·simp only [SX]
    rfl
   refine pu 3 80 ?_ (ms 22 14) rfl rfl HT_ (by kernel_rfl) (fun _ _ _ h => h) (by rfl) ?_ ?_ ?_ ?_
   rotate_left
   ·intro w'
    go_simp
    with_reducible rfl
   rotate_left
   ·simp only [SX]
    rfl
   refine pu 5 82 ?_ (ms 22 46) rfl rfl HT_ (by kernel_rfl) (fun _ _ _ h => h) (by rfl) ?_ ?_ ?_ ?_
   rotate_left
   ·intro w'
    go_simp
    with_reducible rfl
   rotate_left
   ·simp only [SX]
    rfl
   refine pu 7 84 ?_ (ms 22 174) rfl rfl HT_ (by kernel_rfl) (fun _ _ _ h => h) (by rfl) ?_ ?_ ?_ ?_
   rotate_left
   ·intro w'
    go_simp
    with_reducible rfl
   rotate_left
   ·simp only [SX]
    rfl
   refine pu 10 87 ?_ (ms 22 1198) rfl rfl HT_ (by kernel_rfl) (fun _ _ _ h => h) (by rfl) ?_ ?_ ?_ ?_
   rotate_left
   ·intro w'
    go_simp
    with_reducible rfl
   rotate_left
   ·simp only [SX]
    rfl
   refine pu 13 90 ?_ (ms 22 9390) rfl rfl HT_ (by kernel_rfl) (fun _ _ _ h => h) (by rfl) ?_ ?_ ?_ ?_
   rotate_left
   ·intro w'
    go_simp
    with_reducible rfl
   rotate_left
   ·simp only [SX]
    rfl
   refine pu 15 92 ?_ (ms 22 42158) rfl rfl HT_ (by kernel_rfl) (fun _ _ _ h => h) (by rfl) ?_ ?_ ?_ ?_
   rotate_left
   ·intro w'
    go_simp
    with_reducible rfl
   rotate_left
   ·simp only [SX]
    rfl
   refine pu 19 96 ?_ (ms 22 566446) rfl rfl HT_ (by kernel_rfl) (fun _ _ _ h => h) (by rfl) ?_ ?_ ?_ ?_
   rotate_left
   ·intro w'
    go_simp
    with_reducible rfl
   rotate_left
   ·simp only [SX]
    rfl
   refine tk 0 77 ?_ (ms 22 566447) rfl rfl HT_ HW_ (by kernel_rfl) (fun _ _ _ h => h) (by rfl) ?_ hHeld ?_ ?_ ?_
   rotate_left
   ·rintro w' ⟨s0, s1, s2, s3, s4, s5, s6, s7, s8⟩
    go_simp
    with_reducible rfl
   rotate_left
   ·simp only [SX]
    rfl
   refine tk 4 81 ?_ (ms 22 566463) rfl rfl HT_ HW_ (by kernel_rfl) (fun _ _ _ h => h) (by rfl) ?_ hHeld ?_ ?_ ?_
   rotate_left
   ·rintro w' ⟨s0, s1, s2, s3, s4, s5, s6, s7, s8⟩
    go_simp
    with_reducible rfl
   rotate_left
   ·simp only [SX]
    rfl
   refine tk 8 85 ?_ (ms 22 566719) rfl rfl HT_ HW_ (by kernel_rfl) (fun _ _ _ h => h) (by rfl) ?_ hHeld ?_ ?_ ?_
   rotate_left
   ·rintro w' ⟨s0, s1, s2, s3, s4, s5, s6, s7, s8⟩
    go_simp
    with_reducible rfl
   rotate_left
   ·simp only [SX]
    rfl
   refine tk 14 91 ?_ (ms 22 583103) rfl rfl HT_ HW_ (by kernel_rfl) (fun _ _ _ h => h) (by rfl) ?_ hHeld ?_ ?_ ?_
   rotate_left
   ·rintro w' ⟨s0, s1, s2, s3, s4, s5, s6, s7, s8⟩
    go_simp
    with_reducible rfl
   rotate_left
   ·simp only [SX]
    rfl
   refine tk 16 93 ?_ (ms 22 648639) rfl rfl HT_ HW_ (by kernel_rfl) (fun _ _ _ h => h) (by rfl) ?_ hHeld ?_ ?_ ?_
   rotate_left
   ·rintro w' ⟨s0, s1, s2, s3, s4, s5, s6, s7, s8⟩
    go_simp
    with_reducible rfl
   rotate_left
   ·simp only [SX]
    rfl
   refine pu 17 94 ?_ (ms 22 779711) rfl rfl HT_ (by kernel_rfl) (fun _ _ _ h => h) (by rfl) ?_ ?_ ?_ ?_
   rotate_left
   ·intro w'
    go_simp
    with_reducible rfl
   rotate_left
   ·simp only [SX]
    rfl
   refine join_ (σ := Value × Value × Value) 4 (ms 22 782335) (fun s_ => [(83, s_.1), (86, s_.2.1), (88, s_.2.2)]) (fun s_ w' => (w'.cell? ⟨gb221, 0, none⟩ = some (.int .i64 a0_0) ∧ w'.cell? ⟨gb221, 1, none⟩ = some (.slice (some ad232) l0_1.length c0_1) ∧ w'.cell? ⟨gb233, 0, none⟩ = some (.int .i64 ((rd_T58 l0_1 x15_1).f0)) ∧ w'.cell? ⟨gb233, 1, none⟩ = some (.int .i64 ((rd_T58 l0_1 x15_1).f1)) ∧ w'.cell? ⟨gb233, 2, none⟩ = some (.int .i64 ((rd_T58 l0_1 x15_1).f2)) ∧ w'.cell? ⟨gb233, 3, none⟩ = some (.int .i64 ((rd_T58 l0_1 x15_1).f3)) ∧ w'.cell? ⟨gb233, 4, none⟩ = some (.int .i64 ((rd_T58 l0_1 x15_1).f4)) ∧ w'.cell? ⟨gb222, 0, none⟩ = some (.slice A5_0 l5_0.length c5_0) ∧ w'.cell? ⟨gb222, 1, none⟩ = some (.int .i64 a5_1)) ∧ (Kd.R (Kd.int .i64) 3 w' w0.heap.size (fun k_ => (P4_ k_ ∨ w.heap.size ≤ k_) ∧ some k_ ≠ (s_.2.2 : Value).ownBlock) s_.2.1 y258) ∧ (Kd.R (Kd.int .i64) 3 w' w0.heap.size (fun k_ => (P4_ k_ ∨ w.heap.size ≤ k_) ∧ some k_ ≠ (s_.2.1 : Value).ownBlock) s_.2.2 y261) ∧ (Kd.R Kd.bool 4 w' w0.heap.size (fun k_ => (P4_ k_ ∨ w.heap.size ≤ k_)) (.slice (some ⟨go84, 0, none⟩) x4_1.length co97) y254) ∧ (Kd.V k103 103 w' w0.heap.size (fun k_ => ((P4_ k_ ∨ P6_ k_) ∨ w.heap.size ≤ k_) ∧ some k_ ≠ (s_.2.1 : Value).ownBlock ∧ some k_ ≠ (s_.2.2 : Value).ownBlock ∧ some k_ ≠ (.slice (some ⟨go84, 0, none⟩) x4_1.length co97 : Value).ownBlock ∧ k_ ≠ gb221 ∧ k_ ≠ gb222 ∧ k_ ≠ gb233) (.slice Ao98 x6_1.length co98) x6_1) ∧ (w'.heap[gb221]? = some (.cells #[.int .i64 a0_0, .slice (some ad232) l0_1.length c0_1] 25 (0, 0))) ∧ (w'.heap[gb222]? = some (.cells #[.slice A5_0 l5_0.length c5_0, .int .i64 a5_1] 103 (0, 0))) ∧ (w'.heap[gb233]? = some (.cells #[.int .i64 ((rd_T58 l0_1 x15_1).f0), .int .i64 ((rd_T58 l0_1 x15_1).f1), .int .i64 ((rd_T58 l0_1 x15_1).f2), .int .i64 ((rd_T58 l0_1 x15_1).f3), .int .i64 ((rd_T58 l0_1 x15_1).f4)] 58 (0, 0))) ∧ (Kept w w' (fun k_ => P4_ k_)) ∧ (Below w0.heap.size w0 w')) ?_ ?_
   rotate_left
   ·intro hCont
    refine two_ (i := 6) (j := 11) (Ni := some 83) (Nj := some 88) (ms 22 779775) (ms 22 781759) rfl rfl rfl rfl (two_of HT_.out (by kernel_rfl)) (by decide) (by decide) (fun K hK => ?_) (fun K hK => ?_)
    rotate_left
    ·skip
     refine Kd.R_lit_step (Kd.int .i64) _ 3 ?hg (N := 88) ?hd (xs := ([x15_1] : List Int)) (inner := [.int .i64 x15_1]) (ok := fun _ => True) (okp := fun _ => True) ?hr ?hp (fun _ hk => hk) trivial (Below.refl _ _) (Nat.le_refl _) (by simp) ?_; (case hd => rfl); (case hg => rfl); (case hr => first | (go_simp; done) | (go_simp; rfl)); (case hp => exact (Reps.one (show Kd.M (Kd.int .i64) _ _ _ x15_1 [.int .i64 x15_1] from rfl) (Reps.none _ _)))
     intro v262 w103 ho104 hb hg_ hnew_
     clear hg_ hnew_
     (first | rw [← Ny261.out] at ho104 | (simp only [Int.reduceToNat] at ho104; rw [← Ny261.out] at ho104))
     replace HO_4 := ak (Kd.R_below (rk HO_4) hb)
     replace HO_6 := ak (Kd.V_elder' (by (with_reducible repeat (first | apply Kd.V_alloc | apply Kd.V_drewN | apply Kd.V_drew)); exact HO_6.out) (Kd.R_base ho104) hb)
     have HO263 := ak (Kd.R_lower (Kd.R_newM (M := fun k_ => (P4_ k_ ∨ w.heap.size ≤ k_)) ho104 (by first | exact HK.out.1 | exact (show Kept w _ (fun k_ => P4_ k_) from by repeat (first | (with_reducible first | exact HK.out | apply Kept.alloc | apply Kept.drewN | apply Kept.drew | refine Kept.setCell ?_ (.inr GW221.out) _ | refine Kept.setCell ?_ (.inr GW222.out) _ | refine Kept.setCell ?_ (.inr GW233.out) _) | exact HK.out)).1) (fun k_ h_ => .inr h_)) (below_size (bl3 HB GE221 GE222 GE233)))
     replace BK221 := ak (blk_below (bk BK221) hb)
     replace BK222 := ak (blk_below (bk BK222) hb)
     replace BK233 := ak (blk_below (bk BK233) hb)
     replace HK := ak (Kept.below (S := (fun k_ => P4_ k_)) (by repeat (first | (with_reducible first | exact HK.out | apply Kept.alloc | apply Kept.drewN | apply Kept.drew | refine Kept.setCell ?_ (.inr GW221.out) _ | refine Kept.setCell ?_ (.inr GW222.out) _ | refine Kept.setCell ?_ (.inr GW233.out) _) | exact HK.out)) hb)
     replace HB := ak (below_step (bl3 HB GE221 GE222 GE233) hb)
     clear hb ho104
     refine hK.out _ _ ⟨(blk_cell BK221.out 0).trans rfl, (blk_cell BK221.out 1).trans rfl, (blk_cell BK233.out 0).trans rfl, (blk_cell BK233.out 1).trans rfl, (blk_cell BK233.out 2).trans rfl, (blk_cell BK233.out 3).trans rfl, (blk_cell BK233.out 4).trans rfl, (blk_cell BK222.out 0).trans rfl, (blk_cell BK222.out 1).trans rfl⟩ (fun hHeld => ?_)
     clear hK K
     refine norm_ (a' := ?_) ?_ ?_
     rotate_left
     ·show Act.put _ (some 88) _ = _
      simp only [SX]
      rfl
     refine one_ (i := 6) (N := some 83) (ms 22 781823) rfl rfl (one_of HT_.out (by kernel_rfl)) (by decide) (fun K hK => ?_)
     refine Kd.R_lit_step (Kd.int .i64) _ 3 ?hg (N := 83) ?hd (xs := ([] : List Int)) (inner := []) (ok := fun _ => True) (okp := fun _ => True) ?hr ?hp (fun _ hk => hk) trivial (Below.refl _ _) (Nat.le_refl _) (by simp) ?_; (case hd => rfl); (case hg => rfl); (case hr => first | (go_simp; done) | (go_simp; rfl)); (case hp => exact (Reps.none _ _))
     intro v256 w105 ho106 hb hg_ hnew_
     clear hg_ hnew_
     (first | rw [← Ny255.out] at ho106 | (simp only [Int.reduceToNat] at ho106; rw [← Ny255.out] at ho106))
     replace HO_4 := ak (Kd.R_below (rk HO_4) hb)
     replace HO_6 := ak (Kd.V_elder' (by (with_reducible repeat (first | apply Kd.V_alloc | apply Kd.V_drewN | apply Kd.V_drew)); exact HO_6.out) (Kd.R_base ho106) hb)
     have HO257 := ak (Kd.R_lower (Kd.R_new' (Kd.R_newM (M := fun k_ => (P4_ k_ ∨ w.heap.size ≤ k_)) ho106 (by first | exact HK.out.1 | exact (show Kept w _ (fun k_ => P4_ k_) from by repeat (first | (with_reducible first | exact HK.out | apply Kept.alloc | apply Kept.drewN | apply Kept.drew | refine Kept.setCell ?_ (.inr GW221.out) _ | refine Kept.setCell ?_ (.inr GW222.out) _ | refine Kept.setCell ?_ (.inr GW233.out) _) | exact HK.out)).1) (fun k_ h_ => .inr h_)) (Kd.R_lt (rk HO263))) (below_size (bl3 HB GE221 GE222 GE233)))
     replace HO263 := ak (Kd.R_elder' (rk HO263) (Kd.R_base ho106) hb)
     replace BK221 := ak (blk_below (bk BK221) hb)
     replace BK222 := ak (blk_below (bk BK222) hb)
     replace BK233 := ak (blk_below (bk BK233) hb)
     replace HK := ak (Kept.below (S := (fun k_ => P4_ k_)) (by repeat (first | (with_reducible first | exact HK.out | apply Kept.alloc | apply Kept.drewN | apply Kept.drew | refine Kept.setCell ?_ (.inr GW221.out) _ | refine Kept.setCell ?_ (.inr GW222.out) _ | refine Kept.setCell ?_ (.inr GW233.out) _) | exact HK.out)) hb)
     replace HB := ak (below_step (bl3 HB GE221 GE222 GE233) hb)
     clear hb ho106
     refine hK.out _ _ ⟨(blk_cell BK221.out 0).trans rfl, (blk_cell BK221.out 1).trans rfl, (blk_cell BK233.out 0).trans rfl, (blk_cell BK233.out 1).trans rfl, (blk_cell BK233.out 2).trans rfl, (blk_cell BK233.out 3).trans rfl, (blk_cell BK233.out 4).trans rfl, (blk_cell BK222.out 0).trans rfl, (blk_cell BK222.out 1).trans rfl⟩ (fun hHeld => ?_)
     clear hK K
     refine norm_ (a' := ?_) ?_ ?_
     rotate_left
     ·show Act.put _ (some 83) _ = _
      simp only [SX]
      rfl
     refine one_ (i := 9) (N := some 86) (ms 22 782335) rfl rfl (one_of HT_.out (by kernel_rfl)) (by decide) (fun K hK => ?_)
     refine Kd.R_append_rows_step (Kd.int .i64) (w0 := w0) w0.heap.size (by rfl) (.tmp 83) (.tmp 85) 33 3 (.int .i64 0) 8 rfl Try.underlying33 info3 rfl (by decide) (by omega) v256 y255 l5_0 _ _ _ (fun k_ => (P4_ k_ ∨ w.heap.size ≤ k_) ∧ some k_ ≠ (v262 : Value).ownBlock) (fun _ => False) rfl rfl ?aO ?aR (fun _ _ h => h) (fun _ h => h.elim) ?aF ?aB ?aS ?aL ?_
     (case aR => exact Kd.C_kept_now HR5_0.out (by repeat (first | (with_reducible first | exact HK.out | apply Kept.alloc | apply Kept.drewN | apply Kept.drew | refine Kept.setCell ?_ (.inr GW221.out) _ | refine Kept.setCell ?_ (.inr GW222.out) _ | refine Kept.setCell ?_ (.inr GW233.out) _) | exact HK.out)))
     (case aB => exact (bl3 HB GE221 GE222 GE233))
     (case aF => exact (fun k_ hk => ⟨(.inr (Nat.le_trans (by first | exact HK.out.1 | exact (show Kept w _ (fun k_ => P4_ k_) from by repeat (first | (with_reducible first | exact HK.out | apply Kept.alloc | apply Kept.drewN | apply Kept.drew | refine Kept.setCell ?_ (.inr GW221.out) _ | refine Kept.setCell ?_ (.inr GW222.out) _ | refine Kept.setCell ?_ (.inr GW233.out) _) | exact HK.out)).1) hk)), Kd.fresh' (Kd.R_lt (rk HO263)) k_ hk⟩))
     (case aO => exact (by (with_reducible repeat (first | apply Kd.R_alloc | apply Kd.R_drewN | apply Kd.R_drew)); exact Kd.R_mono HO257.out (fun _ hk => ⟨hk.1.1, hk.2⟩)))
     (case aS => exact (below_size (bl3 HB GE221 GE222 GE233)))
     (case aL => have := LMc85.out; omega)
     intro v259 w107 ho hb hg hat
     rw [← Ny258.out] at ho
     have n0_ := ak (Kd.R_over' (rk HO_4) (Kd.R_typed (rk HO257)) (by decide) hg)
     have n1_ := ak (Kd.V_afterv (ok := (fun k_ => ((P4_ k_ ∨ P6_ k_) ∨ w.heap.size ≤ k_) ∧ some k_ ≠ (.slice (some ⟨go84, 0, none⟩) x4_1.length co97 : Value).ownBlock ∧ some k_ ≠ (v262 : Value).ownBlock ∧ k_ ≠ gb221 ∧ k_ ≠ gb222 ∧ k_ ≠ gb233)) (by (with_reducible repeat (first | apply Kd.V_alloc | apply Kd.V_drewN | apply Kd.V_drew)); exact Kd.V_mono HO_6.out (fun _ hk => ⟨⟨hk.1.1.1.1, ⟨hk.1.1.2, ⟨hk.1.2, ⟨hk.1.1.1.2.1, ⟨hk.1.1.1.2.2.1, hk.1.1.1.2.2.2⟩⟩⟩⟩⟩, hk.2⟩)) hg hat)
     have n2_ := ak (blk_grown (bk BK221) hg (Kd.R_ne HO257.out BK221.out (by decide)))
     have n3_ := ak (blk_grown (bk BK222) hg (Kd.R_ne HO257.out BK222.out (by decide)))
     have n4_ := ak (blk_grown (bk BK233) hg (Kd.R_ne HO257.out BK233.out (by decide)))
     have n5_ := ak (Kd.R_after (ok := (fun k_ => (P4_ k_ ∨ w.heap.size ≤ k_))) (by (with_reducible repeat (first | apply Kd.R_alloc | apply Kd.R_drewN | apply Kd.R_drew)); exact Kd.R_mono HO263.out (fun _ hk => ⟨hk.1.1, hk.2⟩)) hg hat)
     have n6_ := ak (hb)
     have n7_ := ak (Kept.of_grown (S := (fun k_ => P4_ k_)) hg (by repeat (first | (with_reducible first | exact HK.out | apply Kept.alloc | apply Kept.drewN | apply Kept.drew | refine Kept.setCell ?_ (.inr GW221.out) _ | refine Kept.setCell ?_ (.inr GW222.out) _ | refine Kept.setCell ?_ (.inr GW233.out) _) | exact HK.out)) (fun k_ e_ => (HO257.out.1 k_ e_).1.1))
     have n8_ := ak (ho)
     clear HO_4
     clear HO_6
     clear BK221
     clear BK222
     clear BK233
     clear HO263
     clear HB
     clear HK
     clear HO257
     have HO_4 := n0_
     have HO_6 := n1_
     have BK221 := n2_
     have BK222 := n3_
     have BK233 := n4_
     have HO263 := n5_
     have HB := n6_
     have HK := n7_
     have HO260 := n8_
     clear n0_ n1_ n2_ n3_ n4_ n5_ n6_ n7_ n8_
     clear ho hb hg hat
     refine hK.out _ _ ⟨(blk_cell BK221.out 0).trans rfl, (blk_cell BK221.out 1).trans rfl, (blk_cell BK233.out 0).trans rfl, (blk_cell BK233.out 1).trans rfl, (blk_cell BK233.out 2).trans rfl, (blk_cell BK233.out 3).trans rfl, (blk_cell BK233.out 4).trans rfl, (blk_cell BK222.out 0).trans rfl, (blk_cell BK222.out 1).trans rfl⟩ (fun hHeld => ?_)
     clear hK K
     refine norm_ (a' := ?_) ?_ ?_
     rotate_left
     ·show Act.put _ (some 86) _ = _
      simp only [SX]
      rfl
     exact norm_ (by simp only [putAll, Act.put, List.setIfInBounds_toArray, List.set_cons_zero, List.set_cons_succ]) (hCont (v256, v259, v262) _ ⟨hHeld, (rk HO260), (rk HO263), (rk HO_4), (by (with_reducible repeat (first | apply Kd.V_alloc | apply Kd.V_drewN | apply Kd.V_drew)); exact Kd.V_mono HO_6.out (fun _ hk => ⟨hk.1.1, ⟨hk.2, ⟨hk.1.2.2.1, ⟨hk.1.2.1, ⟨hk.1.2.2.2.1, ⟨hk.1.2.2.2.2.1, hk.1.2.2.2.2.2⟩⟩⟩⟩⟩⟩)), (bk BK221), (bk BK222), (bk BK233), (by repeat (first | (with_reducible first | exact HK.out | apply Kept.alloc | apply Kept.drewN | apply Kept.drew | refine Kept.setCell ?_ (.inr GW221.out) _ | refine Kept.setCell ?_ (.inr GW222.out) _ | refine Kept.setCell ?_ (.inr GW233.out) _) | exact HK.out)), (bl3 HB GE221 GE222 GE233)⟩)
    skip
    refine Kd.R_lit_step (Kd.int .i64) _ 3 ?hg (N := 83) ?hd (xs := ([] : List Int)) (inner := []) (ok := fun _ => True) (okp := fun _ => True) ?hr ?hp (fun _ hk => hk) trivial (Below.refl _ _) (Nat.le_refl _) (by simp) ?_; (case hd => rfl); (case hg => rfl); (case hr => first | (go_simp; done) | (go_simp; rfl)); (case hp => exact (Reps.none _ _))
    intro v256 w103 ho104 hb hg_ hnew_
    clear hg_ hnew_
    (first | rw [← Ny255.out] at ho104 | (simp only [Int.reduceToNat] at ho104; rw [← Ny255.out] at ho104))
    replace HO_4 := ak (Kd.R_below (rk HO_4) hb)
    replace HO_6 := ak (Kd.V_elder' (by (with_reducible repeat (first | apply Kd.V_alloc | apply Kd.V_drewN | apply Kd.V_drew)); exact HO_6.out) (Kd.R_base ho104) hb)
    have HO257 := ak (Kd.R_lower (Kd.R_newM (M := fun k_ => (P4_ k_ ∨ w.heap.size ≤ k_)) ho104 (by first | exact HK.out.1 | exact (show Kept w _ (fun k_ => P4_ k_) from by repeat (first | (with_reducible first | exact HK.out | apply Kept.alloc | apply Kept.drewN | apply Kept.drew | refine Kept.setCell ?_ (.inr GW221.out) _ | refine Kept.setCell ?_ (.inr GW222.out) _ | refine Kept.setCell ?_ (.inr GW233.out) _) | exact HK.out)).1) (fun k_ h_ => .inr h_)) (below_size (bl3 HB GE221 GE222 GE233)))
    replace BK221 := ak (blk_below (bk BK221) hb)
    replace BK222 := ak (blk_below (bk BK222) hb)
    replace BK233 := ak (blk_below (bk BK233) hb)
    replace HK := ak (Kept.below (S := (fun k_ => P4_ k_)) (by repeat (first | (with_reducible first | exact HK.out | apply Kept.alloc | apply Kept.drewN | apply Kept.drew | refine Kept.setCell ?_ (.inr GW221.out) _ | refine Kept.setCell ?_ (.inr GW222.out) _ | refine Kept.setCell ?_ (.inr GW233.out) _) | exact HK.out)) hb)
    replace HB := ak (below_step (bl3 HB GE221 GE222 GE233) hb)
    clear hb ho104
    refine hK.out _ _ ⟨(blk_cell BK221.out 0).trans rfl, (blk_cell BK221.out 1).trans rfl, (blk_cell BK233.out 0).trans rfl, (blk_cell BK233.out 1).trans rfl, (blk_cell BK233.out 2).trans rfl, (blk_cell BK233.out 3).trans rfl, (blk_cell BK233.out 4).trans rfl, (blk_cell BK222.out 0).trans rfl, (blk_cell BK222.out 1).trans rfl⟩ (fun hHeld => ?_)
    clear hK K
    refine norm_ (a' := ?_) ?_ ?_
    rotate_left
    ·show Act.put _ (some 83) _ = _
     simp only [SX]
     rfl
    refine two_ (i := 9) (j := 11) (Ni := some 86) (Nj := some 88) (ms 22 780287) (ms 22 781823) rfl rfl rfl rfl (two_of HT_.out (by kernel_rfl)) (by decide) (by decide) (fun K hK => ?_) (fun K hK => ?_)
    ·skip
     refine Kd.R_append_rows_step (Kd.int .i64) (w0 := w0) w0.heap.size (by rfl) (.tmp 83) (.tmp 85) 33 3 (.int .i64 0) 8 rfl Try.underlying33 info3 rfl (by decide) (by omega) v256 y255 l5_0 _ _ _ (fun k_ => (P4_ k_ ∨ w.heap.size ≤ k_)) (fun _ => False) rfl rfl ?aO ?aR (fun _ _ h => h) (fun _ h => h.elim) ?aF ?aB ?aS ?aL ?_
     (case aR => exact Kd.C_kept_now HR5_0.out (by repeat (first | (with_reducible first | exact HK.out | apply Kept.alloc | apply Kept.drewN | apply Kept.drew | refine Kept.setCell ?_ (.inr GW221.out) _ | refine Kept.setCell ?_ (.inr GW222.out) _ | refine Kept.setCell ?_ (.inr GW233.out) _) | exact HK.out)))
     (case aB => exact (bl3 HB GE221 GE222 GE233))
     (case aF => exact (fun k_ hk => (.inr (Nat.le_trans (by first | exact HK.out.1 | exact (show Kept w _ (fun k_ => P4_ k_) from by repeat (first | (with_reducible first | exact HK.out | apply Kept.alloc | apply Kept.drewN | apply Kept.drew | refine Kept.setCell ?_ (.inr GW221.out) _ | refine Kept.setCell ?_ (.inr GW222.out) _ | refine Kept.setCell ?_ (.inr GW233.out) _) | exact HK.out)).1) hk))))
     (case aO => exact (by (with_reducible repeat (first | apply Kd.R_alloc | apply Kd.R_drewN | apply Kd.R_drew)); exact Kd.R_mono HO257.out (fun _ hk => hk.1)))
     (case aS => exact (below_size (bl3 HB GE221 GE222 GE233)))
     (case aL => have := LMc85.out; omega)
     intro v259 w105 ho hb hg hat
     rw [← Ny258.out] at ho
     have n0_ := ak (Kd.R_over' (rk HO_4) (Kd.R_typed (rk HO257)) (by decide) hg)
     have n1_ := ak (Kd.V_afterv (ok := (fun k_ => ((P4_ k_ ∨ P6_ k_) ∨ w.heap.size ≤ k_) ∧ some k_ ≠ (.slice (some ⟨go84, 0, none⟩) x4_1.length co97 : Value).ownBlock ∧ k_ ≠ gb221 ∧ k_ ≠ gb222 ∧ k_ ≠ gb233)) (by (with_reducible repeat (first | apply Kd.V_alloc | apply Kd.V_drewN | apply Kd.V_drew)); exact Kd.V_mono HO_6.out (fun _ hk => ⟨⟨hk.1.1.1, ⟨hk.1.2, ⟨hk.1.1.2.1, ⟨hk.1.1.2.2.1, hk.1.1.2.2.2⟩⟩⟩⟩, hk.2⟩)) hg hat)
     have n2_ := ak (blk_grown (bk BK221) hg (Kd.R_ne HO257.out BK221.out (by decide)))
     have n3_ := ak (blk_grown (bk BK222) hg (Kd.R_ne HO257.out BK222.out (by decide)))
     have n4_ := ak (blk_grown (bk BK233) hg (Kd.R_ne HO257.out BK233.out (by decide)))
     have n5_ := ak (hb)
     have n6_ := ak (Kept.of_grown (S := (fun k_ => P4_ k_)) hg (by repeat (first | (with_reducible first | exact HK.out | apply Kept.alloc | apply Kept.drewN | apply Kept.drew | refine Kept.setCell ?_ (.inr GW221.out) _ | refine Kept.setCell ?_ (.inr GW222.out) _ | refine Kept.setCell ?_ (.inr GW233.out) _) | exact HK.out)) (fun k_ e_ => (HO257.out.1 k_ e_).1))
     have n7_ := ak (ho)
     clear HO_4
     clear HO_6
     clear BK221
     clear BK222
     clear BK233
     clear HB
     clear HK
     clear HO257
     have HO_4 := n0_
     have HO_6 := n1_
     have BK221 := n2_
     have BK222 := n3_
     have BK233 := n4_
     have HB := n5_
     have HK := n6_
     have HO260 := n7_
     clear n0_ n1_ n2_ n3_ n4_ n5_ n6_ n7_
     clear ho hb hg hat
     refine hK.out _ _ ⟨(blk_cell BK221.out 0).trans rfl, (blk_cell BK221.out 1).trans rfl, (blk_cell BK233.out 0).trans rfl, (blk_cell BK233.out 1).trans rfl, (blk_cell BK233.out 2).trans rfl, (blk_cell BK233.out 3).trans rfl, (blk_cell BK233.out 4).trans rfl, (blk_cell BK222.out 0).trans rfl, (blk_cell BK222.out 1).trans rfl⟩ (fun hHeld => ?_)
     clear hK K
     refine norm_ (a' := ?_) ?_ ?_
     rotate_left
     ·show Act.put _ (some 86) _ = _
      simp only [SX]
      rfl
     refine one_ (i := 11) (N := some 88) (ms 22 782335) rfl rfl (one_of HT_.out (by kernel_rfl)) (by decide) (fun K hK => ?_)
     refine Kd.R_lit_step (Kd.int .i64) _ 3 ?hg (N := 88) ?hd (xs := ([x15_1] : List Int)) (inner := [.int .i64 x15_1]) (ok := fun _ => True) (okp := fun _ => True) ?hr ?hp (fun _ hk => hk) trivial (Below.refl _ _) (Nat.le_refl _) (by simp) ?_; (case hd => rfl); (case hg => rfl); (case hr => first | (go_simp; done) | (go_simp; rfl)); (case hp => exact (Reps.one (show Kd.M (Kd.int .i64) _ _ _ x15_1 [.int .i64 x15_1] from rfl) (Reps.none _ _)))
     intro v262 w106 ho107 hb hg_ hnew_
     clear hg_ hnew_
     (first | rw [← Ny261.out] at ho107 | (simp only [Int.reduceToNat] at ho107; rw [← Ny261.out] at ho107))
     replace HO_4 := ak (Kd.R_below (rk HO_4) hb)
     replace HO_6 := ak (Kd.V_elder' (by (with_reducible repeat (first | apply Kd.V_alloc | apply Kd.V_drewN | apply Kd.V_drew)); exact HO_6.out) (Kd.R_base ho107) hb)
     have HO263 := ak (Kd.R_lower (Kd.R_new' (Kd.R_newM (M := fun k_ => (P4_ k_ ∨ w.heap.size ≤ k_)) ho107 (by first | exact HK.out.1 | exact (show Kept w _ (fun k_ => P4_ k_) from by repeat (first | (with_reducible first | exact HK.out | apply Kept.alloc | apply Kept.drewN | apply Kept.drew | refine Kept.setCell ?_ (.inr GW221.out) _ | refine Kept.setCell ?_ (.inr GW222.out) _ | refine Kept.setCell ?_ (.inr GW233.out) _) | exact HK.out)).1) (fun k_ h_ => .inr h_)) (Kd.R_lt (rk HO260))) (below_size (bl3 HB GE221 GE222 GE233)))
     replace HO260 := ak (Kd.R_elder' (rk HO260) (Kd.R_base ho107) hb)
     replace BK221 := ak (blk_below (bk BK221) hb)
     replace BK222 := ak (blk_below (bk BK222) hb)
     replace BK233 := ak (blk_below (bk BK233) hb)
     replace HK := ak (Kept.below (S := (fun k_ => P4_ k_)) (by repeat (first | (with_reducible first | exact HK.out | apply Kept.alloc | apply Kept.drewN | apply Kept.drew | refine Kept.setCell ?_ (.inr GW221.out) _ | refine Kept.setCell ?_ (.inr GW222.out) _ | refine Kept.setCell ?_ (.inr GW233.out) _) | exact HK.out)) hb)
     replace HB := ak (below_step (bl3 HB GE221 GE222 GE233) hb)
     clear hb ho107
     refine hK.out _ _ ⟨(blk_cell BK221.out 0).trans rfl, (blk_cell BK221.out 1).trans rfl, (blk_cell BK233.out 0).trans rfl, (blk_cell BK233.out 1).trans rfl, (blk_cell BK233.out 2).trans rfl, (blk_cell BK233.out 3).trans rfl, (blk_cell BK233.out 4).trans rfl, (blk_cell BK222.out 0).trans rfl, (blk_cell BK222.out 1).trans rfl⟩ (fun hHeld => ?_)
     clear hK K
     refine norm_ (a' := ?_) ?_ ?_
     rotate_left
     ·show Act.put _ (some 88) _ = _
      simp only [SX]
      rfl
     exact norm_ (by simp only [putAll, Act.put, List.setIfInBounds_toArray, List.set_cons_zero, List.set_cons_succ]) (hCont (v256, v259, v262) _ ⟨hHeld, (rk HO260), (by (with_reducible repeat (first | apply Kd.R_alloc | apply Kd.R_drewN | apply Kd.R_drew)); exact Kd.R_mono HO263.out (fun _ hk => ⟨hk.1.1, hk.2⟩)), (rk HO_4), (by (with_reducible repeat (first | apply Kd.V_alloc | apply Kd.V_drewN | apply Kd.V_drew)); exact Kd.V_mono HO_6.out (fun _ hk => ⟨hk.1.1.1, ⟨hk.1.2, ⟨hk.2, ⟨hk.1.1.2.1, ⟨hk.1.1.2.2.1, ⟨hk.1.1.2.2.2.1, hk.1.1.2.2.2.2⟩⟩⟩⟩⟩⟩)), (bk BK221), (bk BK222), (bk BK233), (by repeat (first | (with_reducible first | exact HK.out | apply Kept.alloc | apply Kept.drewN | apply Kept.drew | refine Kept.setCell ?_ (.inr GW221.out) _ | refine Kept.setCell ?_ (.inr GW222.out) _ | refine Kept.setCell ?_ (.inr GW233.out) _) | exact HK.out)), (bl3 HB GE221 GE222 GE233)⟩)
    skip
    refine Kd.R_lit_step (Kd.int .i64) _ 3 ?hg (N := 88) ?hd (xs := ([x15_1] : List Int)) (inner := [.int .i64 x15_1]) (ok := fun _ => True) (okp := fun _ => True) ?hr ?hp (fun _ hk => hk) trivial (Below.refl _ _) (Nat.le_refl _) (by simp) ?_; (case hd => rfl); (case hg => rfl); (case hr => first | (go_simp; done) | (go_simp; rfl)); (case hp => exact (Reps.one (show Kd.M (Kd.int .i64) _ _ _ x15_1 [.int .i64 x15_1] from rfl) (Reps.none _ _)))
    intro v262 w105 ho106 hb hg_ hnew_
    clear hg_ hnew_
    (first | rw [← Ny261.out] at ho106 | (simp only [Int.reduceToNat] at ho106; rw [← Ny261.out] at ho106))
    replace HO_4 := ak (Kd.R_below (rk HO_4) hb)
    replace HO_6 := ak (Kd.V_elder' (by (with_reducible repeat (first | apply Kd.V_alloc | apply Kd.V_drewN | apply Kd.V_drew)); exact HO_6.out) (Kd.R_base ho106) hb)
    have HO263 := ak (Kd.R_lower (Kd.R_new' (Kd.R_newM (M := fun k_ => (P4_ k_ ∨ w.heap.size ≤ k_)) ho106 (by first | exact HK.out.1 | exact (show Kept w _ (fun k_ => P4_ k_) from by repeat (first | (with_reducible first | exact HK.out | apply Kept.alloc | apply Kept.drewN | apply Kept.drew | refine Kept.setCell ?_ (.inr GW221.out) _ | refine Kept.setCell ?_ (.inr GW222.out) _ | refine Kept.setCell ?_ (.inr GW233.out) _) | exact HK.out)).1) (fun k_ h_ => .inr h_)) (Kd.R_lt (rk HO257))) (below_size (bl3 HB GE221 GE222 GE233)))
    replace HO257 := ak (Kd.R_elder' (rk HO257) (Kd.R_base ho106) hb)
    replace BK221 := ak (blk_below (bk BK221) hb)
    replace BK222 := ak (blk_below (bk BK222) hb)
    replace BK233 := ak (blk_below (bk BK233) hb)
    replace HK := ak (Kept.below (S := (fun k_ => P4_ k_)) (by repeat (first | (with_reducible first | exact HK.out | apply Kept.alloc | apply Kept.drewN | apply Kept.drew | refine Kept.setCell ?_ (.inr GW221.out) _ | refine Kept.setCell ?_ (.inr GW222.out) _ | refine Kept.setCell ?_ (.inr GW233.out) _) | exact HK.out)) hb)
    replace HB := ak (below_step (bl3 HB GE221 GE222 GE233) hb)
    clear hb ho106
    refine hK.out _ _ ⟨(blk_cell BK221.out 0).trans rfl, (blk_cell BK221.out 1).trans rfl, (blk_cell BK233.out 0).trans rfl, (blk_cell BK233.out 1).trans rfl, (blk_cell BK233.out 2).trans rfl, (blk_cell BK233.out 3).trans rfl, (blk_cell BK233.out 4).trans rfl, (blk_cell BK222.out 0).trans rfl, (blk_cell BK222.out 1).trans rfl⟩ (fun hHeld => ?_)
    clear hK K
    refine norm_ (a' := ?_) ?_ ?_
    rotate_left
    ·show Act.put _ (some 88) _ = _
     simp only [SX]
     rfl
    refine one_ (i := 9) (N := some 86) (ms 22 782335) rfl rfl (one_of HT_.out (by kernel_rfl)) (by decide) (fun K hK => ?_)
    refine Kd.R_append_rows_step (Kd.int .i64) (w0 := w0) w0.heap.size (by rfl) (.tmp 83) (.tmp 85) 33 3 (.int .i64 0) 8 rfl Try.underlying33 info3 rfl (by decide) (by omega) v256 y255 l5_0 _ _ _ (fun k_ => (P4_ k_ ∨ w.heap.size ≤ k_) ∧ some k_ ≠ (v262 : Value).ownBlock) (fun _ => False) rfl rfl ?aO ?aR (fun _ _ h => h) (fun _ h => h.elim) ?aF ?aB ?aS ?aL ?_
    (case aR => exact Kd.C_kept_now HR5_0.out (by repeat (first | (with_reducible first | exact HK.out | apply Kept.alloc | apply Kept.drewN | apply Kept.drew | refine Kept.setCell ?_ (.inr GW221.out) _ | refine Kept.setCell ?_ (.inr GW222.out) _ | refine Kept.setCell ?_ (.inr GW233.out) _) | exact HK.out)))
    (case aB => exact (bl3 HB GE221 GE222 GE233))
    (case aF => exact (fun k_ hk => ⟨(.inr (Nat.le_trans (by first | exact HK.out.1 | exact (show Kept w _ (fun k_ => P4_ k_) from by repeat (first | (with_reducible first | exact HK.out | apply Kept.alloc | apply Kept.drewN | apply Kept.drew | refine Kept.setCell ?_ (.inr GW221.out) _ | refine Kept.setCell ?_ (.inr GW222.out) _ | refine Kept.setCell ?_ (.inr GW233.out) _) | exact HK.out)).1) hk)), Kd.fresh' (Kd.R_lt (rk HO263)) k_ hk⟩))
    (case aO => exact (by (with_reducible repeat (first | apply Kd.R_alloc | apply Kd.R_drewN | apply Kd.R_drew)); exact Kd.R_mono HO257.out (fun _ hk => ⟨hk.1.1, hk.2⟩)))
    (case aS => exact (below_size (bl3 HB GE221 GE222 GE233)))
    (case aL => have := LMc85.out; omega)
    intro v259 w107 ho hb hg hat
    rw [← Ny258.out] at ho
    have n0_ := ak (Kd.R_over' (rk HO_4) (Kd.R_typed (rk HO257)) (by decide) hg)
    have n1_ := ak (Kd.V_afterv (ok := (fun k_ => ((P4_ k_ ∨ P6_ k_) ∨ w.heap.size ≤ k_) ∧ some k_ ≠ (.slice (some ⟨go84, 0, none⟩) x4_1.length co97 : Value).ownBlock ∧ some k_ ≠ (v262 : Value).ownBlock ∧ k_ ≠ gb221 ∧ k_ ≠ gb222 ∧ k_ ≠ gb233)) (by (with_reducible repeat (first | apply Kd.V_alloc | apply Kd.V_drewN | apply Kd.V_drew)); exact Kd.V_mono HO_6.out (fun _ hk => ⟨⟨hk.1.1.1.1, ⟨hk.1.1.2, ⟨hk.2, ⟨hk.1.1.1.2.1, ⟨hk.1.1.1.2.2.1, hk.1.1.1.2.2.2⟩⟩⟩⟩⟩, hk.1.2⟩)) hg hat)
    have n2_ := ak (blk_grown (bk BK221) hg (Kd.R_ne HO257.out BK221.out (by decide)))
    have n3_ := ak (blk_grown (bk BK222) hg (Kd.R_ne HO257.out BK222.out (by decide)))
    have n4_ := ak (blk_grown (bk BK233) hg (Kd.R_ne HO257.out BK233.out (by decide)))
    have n5_ := ak (Kd.R_after (ok := (fun k_ => (P4_ k_ ∨ w.heap.size ≤ k_))) (by (with_reducible repeat (first | apply Kd.R_alloc | apply Kd.R_drewN | apply Kd.R_drew)); exact Kd.R_mono HO263.out (fun _ hk => ⟨hk.1.1, hk.2⟩)) hg hat)
    have n6_ := ak (hb)
    have n7_ := ak (Kept.of_grown (S := (fun k_ => P4_ k_)) hg (by repeat (first | (with_reducible first | exact HK.out | apply Kept.alloc | apply Kept.drewN | apply Kept.drew | refine Kept.setCell ?_ (.inr GW221.out) _ | refine Kept.setCell ?_ (.inr GW222.out) _ | refine Kept.setCell ?_ (.inr GW233.out) _) | exact HK.out)) (fun k_ e_ => (HO257.out.1 k_ e_).1.1))
    have n8_ := ak (ho)
    clear HO_4
    clear HO_6
    clear BK221
    clear BK222
    clear BK233
    clear HO263
    clear HB
    clear HK
    clear HO257
    have HO_4 := n0_
    have HO_6 := n1_
    have BK221 := n2_
    have BK222 := n3_
    have BK233 := n4_
    have HO263 := n5_
    have HB := n6_
    have HK := n7_
    have HO260 := n8_
    clear n0_ n1_ n2_ n3_ n4_ n5_ n6_ n7_ n8_
    clear ho hb hg hat
    refine hK.out _ _ ⟨(blk_cell BK221.out 0).trans rfl, (blk_cell BK221.out 1).trans rfl, (blk_cell BK233.out 0).trans rfl, (blk_cell BK233.out 1).trans rfl, (blk_cell BK233.out 2).trans rfl, (blk_cell BK233.out 3).trans rfl, (blk_cell BK233.out 4).trans rfl, (blk_cell BK222.out 0).trans rfl, (blk_cell BK222.out 1).trans rfl⟩ (fun hHeld => ?_)
    clear hK K
    refine norm_ (a' := ?_) ?_ ?_
    rotate_left
    ·show Act.put _ (some 86) _ = _
     simp only [SX]
     rfl
    exact norm_ (by simp only [putAll, Act.put, List.setIfInBounds_toArray, List.set_cons_zero, List.set_cons_succ]) (hCont (v256, v259, v262) _ ⟨hHeld, (rk HO260), (rk HO263), (rk HO_4), (by (with_reducible repeat (first | apply Kd.V_alloc | apply Kd.V_drewN | apply Kd.V_drew)); exact Kd.V_mono HO_6.out (fun _ hk => ⟨hk.1.1, ⟨hk.2, ⟨hk.1.2.2.1, ⟨hk.1.2.1, ⟨hk.1.2.2.2.1, ⟨hk.1.2.2.2.2.1, hk.1.2.2.2.2.2⟩⟩⟩⟩⟩⟩)), (bk BK221), (bk BK222), (bk BK233), (by repeat (first | (with_reducible first | exact HK.out | apply Kept.alloc | apply Kept.drewN | apply Kept.drew | refine Kept.setCell ?_ (.inr GW221.out) _ | refine Kept.setCell ?_ (.inr GW222.out) _ | refine Kept.setCell ?_ (.inr GW233.out) _) | exact HK.out)), (bl3 HB GE221 GE222 GE233)⟩)
   rintro ⟨v256, v259, v262⟩ w108 ⟨hS_, h0_, h1_, h2_, h3_, h4_, h5_, h6_, h7_, h8_⟩
   have HO260 : Aside0 (Kd.R (Kd.int .i64) 3 w108 w0.heap.size (fun k_ => (P4_ k_ ∨ w.heap.size ≤ k_) ∧ some k_ ≠ (v262 : Value).ownBlock) v259 y258) := ⟨h0_⟩
   have HO263 : Aside0 (Kd.R (Kd.int .i64) 3 w108 w0.heap.size (fun k_ => (P4_ k_ ∨ w.heap.size ≤ k_) ∧ some k_ ≠ (v259 : Value).ownBlock) v262 y261) := ⟨h1_⟩
   replace HO_4 : Aside0 (Kd.R Kd.bool 4 w108 w0.heap.size (fun k_ => (P4_ k_ ∨ w.heap.size ≤ k_)) (.slice (some ⟨go84, 0, none⟩) x4_1.length co97) y254) := ⟨h2_⟩
   replace HO_6 : Aside0 (Kd.V k103 103 w108 w0.heap.size (fun k_ => ((P4_ k_ ∨ P6_ k_) ∨ w.heap.size ≤ k_) ∧ some k_ ≠ (v259 : Value).ownBlock ∧ some k_ ≠ (v262 : Value).ownBlock ∧ some k_ ≠ (.slice (some ⟨go84, 0, none⟩) x4_1.length co97 : Value).ownBlock ∧ k_ ≠ gb221 ∧ k_ ≠ gb222 ∧ k_ ≠ gb233) (.slice Ao98 x6_1.length co98) x6_1) := ⟨h3_⟩
   replace BK221 : Aside0 (w108.heap[gb221]? = some (.cells #[.int .i64 a0_0, .slice (some ad232) l0_1.length c0_1] 25 (0, 0))) := ⟨h4_⟩
   replace BK222 : Aside0 (w108.heap[gb222]? = some (.cells #[.slice A5_0 l5_0.length c5_0, .int .i64 a5_1] 103 (0, 0))) := ⟨h5_⟩
   replace BK233 : Aside0 (w108.heap[gb233]? = some (.cells #[.int .i64 ((rd_T58 l0_1 x15_1).f0), .int .i64 ((rd_T58 l0_1 x15_1).f1), .int .i64 ((rd_T58 l0_1 x15_1).f2), .int .i64 ((rd_T58 l0_1 x15_1).f3), .int .i64 ((rd_T58 l0_1 x15_1).f4)] 58 (0, 0))) := ⟨h6_⟩
   replace HK : Aside0 (Kept w w108 (fun k_ => P4_ k_)) := ⟨h7_⟩
   replace HB : Aside0 (Below w0.heap.size w0 w108) := ⟨h8_⟩
   clear h0_ h1_ h2_ h3_ h4_ h5_ h6_ h7_ h8_
   have hHeld : w108.cell? ⟨gb221, 0, none⟩ = some (.int .i64 a0_0) ∧ w108.cell? ⟨gb221, 1, none⟩ = some (.slice (some ad232) l0_1.length c0_1) ∧ w108.cell? ⟨gb233, 0, none⟩ = some (.int .i64 ((rd_T58 l0_1 x15_1).f0)) ∧ w108.cell? ⟨gb233, 1, none⟩ = some (.int .i64 ((rd_T58 l0_1 x15_1).f1)) ∧ w108.cell? ⟨gb233, 2, none⟩ = some (.int .i64 ((rd_T58 l0_1 x15_1).f2)) ∧ w108.cell? ⟨gb233, 3, none⟩ = some (.int .i64 ((rd_T58 l0_1 x15_1).f3)) ∧ w108.cell? ⟨gb233, 4, none⟩ = some (.int .i64 ((rd_T58 l0_1 x15_1).f4)) ∧ w108.cell? ⟨gb222, 0, none⟩ = some (.slice A5_0 l5_0.length c5_0) ∧ w108.cell? ⟨gb222, 1, none⟩ = some (.int .i64 a5_1) := hS_
   obtain ⟨Ao110, co110, eo110⟩ := Kd.R_slice HO263.out
   (first | subst eo110 | (injection eo110 with f1_ f2_ f3_; have f4_ := f1_.symm; have f5_ := f3_.symm; clear f1_ f2_ f3_; subst f4_; subst f5_))
   refine norm_ (a' := ?_) ?_ ?_
   rotate_left
   ·simp only [putAll, Act.put, List.setIfInBounds_toArray, List.set_cons_zero, List.set_cons_succ]
    rfl
   refine one_ (i := 12) (N := some 89) (ms 22 786431) rfl rfl (one_of HT_.out (by kernel_rfl)) (by decide) (fun K hK => ?_)
   refine Kd.R_append_rows_step (Kd.int .i64) (w0 := w0) w0.heap.size (by rfl) (.tmp 86) (.tmp 88) 33 3 (.int .i64 0) 8 rfl Try.underlying33 info3 rfl (by decide) (by omega) v259 y258 y261 _ _ _ (fun k_ => (P4_ k_ ∨ w.heap.size ≤ k_) ∧ some k_ ≠ (.slice Ao110 y261.length co110 : Value).ownBlock) (fun _ => False) rfl rfl ?aO ?aR (fun _ _ h => h) (fun _ h => h.elim) ?aF ?aB ?aS ?aL ?_
   (case aR => repeat (first | exact (Kd.R_reads' HO263.out).2.2 | (with_reducible refine Kd.C_alloc ?_ _) | (with_reducible refine Kd.C_drewN ?_ _) | (with_reducible refine Kd.C_drew ?_)))
   (case aB => exact (bl3 HB GE221 GE222 GE233))
   (case aF => exact (fun k_ hk => ⟨(.inr (Nat.le_trans (by first | exact HK.out.1 | exact (show Kept w _ (fun k_ => P4_ k_) from by repeat (first | (with_reducible first | exact HK.out | apply Kept.alloc | apply Kept.drewN | apply Kept.drew | refine Kept.setCell ?_ (.inr GW221.out) _ | refine Kept.setCell ?_ (.inr GW222.out) _ | refine Kept.setCell ?_ (.inr GW233.out) _) | exact HK.out)).1) hk)), Kd.fresh' (Kd.R_lt (rk HO263)) k_ hk⟩))
   (case aO => exact (rk HO260))
   (case aS => exact (below_size (bl3 HB GE221 GE222 GE233)))
   (case aL => have := LMc86.out; omega)
   intro v265 w109 ho hb hg hat
   rw [← Ny264.out] at ho
   have n0_ := ak (Kd.R_over' (rk HO_4) (Kd.R_typed (rk HO260)) (by decide) hg)
   have n1_ := ak (Kd.V_afterv (ok := (fun k_ => ((P4_ k_ ∨ P6_ k_) ∨ w.heap.size ≤ k_) ∧ some k_ ≠ (.slice (some ⟨go84, 0, none⟩) x4_1.length co97 : Value).ownBlock ∧ some k_ ≠ (.slice Ao110 y261.length co110 : Value).ownBlock ∧ k_ ≠ gb221 ∧ k_ ≠ gb222 ∧ k_ ≠ gb233)) (by (with_reducible repeat (first | apply Kd.V_alloc | apply Kd.V_drewN | apply Kd.V_drew)); exact Kd.V_mono HO_6.out (fun _ hk => ⟨⟨hk.1, ⟨hk.2.2.2.1, ⟨hk.2.2.1, ⟨hk.2.2.2.2.1, ⟨hk.2.2.2.2.2.1, hk.2.2.2.2.2.2⟩⟩⟩⟩⟩, hk.2.1⟩)) hg hat)
   have n2_ := ak (blk_grown (bk BK221) hg (Kd.R_ne HO260.out BK221.out (by decide)))
   have n3_ := ak (blk_grown (bk BK222) hg (Kd.R_ne HO260.out BK222.out (by decide)))
   have n4_ := ak (blk_grown (bk BK233) hg (Kd.R_ne HO260.out BK233.out (by decide)))
   have n5_ := ak (Kd.R_after (ok := (fun k_ => (P4_ k_ ∨ w.heap.size ≤ k_))) (rk HO263) hg hat)
   have n6_ := ak (hb)
   have n7_ := ak (Kept.of_grown (S := (fun k_ => P4_ k_)) hg (by repeat (first | (with_reducible first | exact HK.out | apply Kept.alloc | apply Kept.drewN | apply Kept.drew | refine Kept.setCell ?_ (.inr GW221.out) _ | refine Kept.setCell ?_ (.inr GW222.out) _ | refine Kept.setCell ?_ (.inr GW233.out) _) | exact HK.out)) (fun k_ e_ => (HO260.out.1 k_ e_).1))
   have n8_ := ak (ho)
   clear HO_4
   clear HO_6
   clear BK221
   clear BK222
   clear BK233
   clear HO263
   clear HB
   clear HK
   clear HO260
   have HO_4 := n0_
   have HO_6 := n1_
   have BK221 := n2_
   have BK222 := n3_
   have BK233 := n4_
   have HO263 := n5_
   have HB := n6_
   have HK := n7_
   have HO266 := n8_
   clear n0_ n1_ n2_ n3_ n4_ n5_ n6_ n7_ n8_
   clear ho hb hg hat
   obtain ⟨Ao111, co111, eo111⟩ := Kd.R_slice HO266.out
   (first | subst eo111 | (injection eo111 with f1_ f2_ f3_; have f4_ := f1_.symm; have f5_ := f3_.symm; clear f1_ f2_ f3_; subst f4_; subst f5_))
   refine hK.out _ _ ⟨(blk_cell BK221.out 0).trans rfl, (blk_cell BK221.out 1).trans rfl, (blk_cell BK233.out 0).trans rfl, (blk_cell BK233.out 1).trans rfl, (blk_cell BK233.out 2).trans rfl, (blk_cell BK233.out 3).trans rfl, (blk_cell BK233.out 4).trans rfl, (blk_cell BK222.out 0).trans rfl, (blk_cell BK222.out 1).trans rfl⟩ (fun hHeld => ?_)
   clear hK K
   refine norm_ (a' := ?_) ?_ ?_
   rotate_left
   ·show Act.put _ (some 89) _ = _
    simp only [SX]
    rfl
   refine pu 18 95 ?_ (ms 22 1048575) rfl rfl HT_ (by kernel_rfl) (fun _ _ _ h => h) (by rfl) ?_ ?_ ?_ ?_
   rotate_left
   ·intro w'
    go_simp
    with_reducible rfl
   rotate_left
   ·simp only [SX]
    rfl
   refine one_ (i := 20) (N := some 97) (ms 22 2097151) rfl rfl (one_of HT_.out (by kernel_rfl)) (by decide) (fun K hK => ?_)
   refine goes_ Try.func90 (by kernel_rfl) rfl #[.agg #[.int .i64 a0_0, .slice (some ad232) l0_1.length c0_1], .int .i64 a1, .int .i64 a2, .int .i64 ((rd_T58 l0_1 x15_1).f1), .slice (some ⟨go84, 0, none⟩) x4_1.length co97, .agg #[.slice Ao111 y264.length co111, .int .i64 (wrap64 (a5_1 + ((rd_T58 l0_1 x15_1).f2)))], .slice Ao98 x6_1.length co98] (by rfl) rfl rfl (by (try simp only [List.map_toArray, List.map_cons, List.map_nil]); first | done | rfl | (simp only [List.length_drop, List.length_take]; rfl)) ?_
   with_reducible refine (ih k1 (by have := HK1.out; omega) a0_0 _ _ l0_1 a1 a2 ((rd_T58 l0_1 x15_1).f1) (fun k_ => some k_ = (.slice (some ⟨go84, 0, none⟩) x4_1.length co97 : Value).ownBlock) (.slice (some ⟨go84, 0, none⟩) x4_1.length co97) y254 _ _ y264 (wrap64 (a5_1 + ((rd_T58 l0_1 x15_1).f2))) (fun k_ => ((((P4_ k_ ∨ P6_ k_) ∨ w.heap.size ≤ k_) ∧ (some k_ ≠ (.slice (some ⟨go84, 0, none⟩) x4_1.length co97 : Value).ownBlock ∧ (some k_ ≠ (.slice Ao110 y261.length co110 : Value).ownBlock ∧ (k_ ≠ gb221 ∧ (k_ ≠ gb222 ∧ k_ ≠ gb233))))) ∧ some k_ ≠ (.slice Ao111 y264.length co111 : Value).ownBlock)) _ _ x6_1 t267 t270 w0 _ ?side1 ?side2 ?side3 ?side4 ?side5 ?side6 ?side7 A87.out).mono ?_
   (case side1 => repeat (first | (with_reducible first | exact HB.out | apply below_alloc | apply pw_below_drewN | apply below_drew1 | refine below_set ?_ GE221.out | refine below_set ?_ GE222.out | refine below_set ?_ GE233.out) | exact HB.out))
   (case side2 => exact Kd.C_kept_call HR0_1.out (by repeat (first | (with_reducible first | exact HK.out | apply Kept.alloc | apply Kept.drewN | apply Kept.drew | refine Kept.setCell ?_ (.inr GW221.out) _ | refine Kept.setCell ?_ (.inr GW222.out) _ | refine Kept.setCell ?_ (.inr GW233.out) _) | exact HK.out)) (fun k_ hs_ => (fun e_ => (HO_4.out.1 k_ e_.symm)) hs_))
   (case side3 => exact HC0_1.out)
   (case side4 => exact Kd.R_tight rfl HO_4.out)
   (case side5 => exact Kd.C_kept_own ((Kd.R_apart' HO266.out (Kd.R_typed HO_4.out) (by decide))) (fun k_ hk_ hs_ => (hk_.2) hs_))
   (case side6 => exact (Kd.R_reads' HO266.out).2.1)
   (case side7 => exact Kd.V_mono (HO_6.out) (fun k_ hk_ => ⟨hk_, hk_.1.2.1⟩))
   rintro e w112 ⟨v268, rfl, ho0, hy0, hb, hkp⟩
   refine ⟨_, rfl, ?_⟩
   replace HO_6 := ak (Kd.V_mono (ok' := fun k_ => ((P4_ k_ ∨ P6_ k_) ∨ w.heap.size ≤ k_) ∧ some k_ ≠ (.slice (some ⟨go84, 0, none⟩) x4_1.length co97 : Value).ownBlock ∧ some k_ ≠ (.slice Ao110 y261.length co110 : Value).ownBlock ∧ some k_ ≠ (.slice Ao111 y264.length co111 : Value).ownBlock ∧ k_ ≠ gb221 ∧ k_ ≠ gb222 ∧ k_ ≠ gb233) (Kd.V_keptB (HO_6.out) hkp (fun k_ hk_ hs_ => (hk_.1.2.1) hs_)) (fun k_ hk_ => ⟨hk_.1.1.1, hk_.1.1.2.1, hk_.1.1.2.2.1, hk_.1.2, hk_.1.1.2.2.2.1, hk_.1.1.2.2.2.2.1, hk_.1.1.2.2.2.2.2⟩))
   have HO269 := ak (Kd.V_mono (ok' := fun k_ => ((P4_ k_ ∨ P6_ k_) ∨ w.heap.size ≤ k_) ∧ some k_ ≠ (.slice Ao110 y261.length co110 : Value).ownBlock ∧ some k_ ≠ (.slice Ao111 y264.length co111 : Value).ownBlock ∧ some k_ ≠ (.slice (some ⟨go84, 0, none⟩) x4_1.length co97 : Value).ownBlock ∧ k_ ≠ gb221 ∧ k_ ≠ gb222 ∧ k_ ≠ gb233) ho0 (fun k_ hk_ => ⟨Or.elim hk_.1 (fun hs_ => Or.elim hs_ (fun hs_ => (Or.imp_left (fun h_ => (.inl h_)) ((HO_4.out.1 k_ (hs_).symm)))) (fun hs_ => hs_.1.1)) (fun hn_ => (.inr (Nat.le_trans (by first | exact HK.out.1 | exact (show Kept w _ (fun k_ => P4_ k_) from by repeat (first | (with_reducible first | exact HK.out | apply Kept.alloc | apply Kept.drewN | apply Kept.drew | refine Kept.setCell ?_ (.inr GW221.out) _ | refine Kept.setCell ?_ (.inr GW222.out) _ | refine Kept.setCell ?_ (.inr GW233.out) _) | exact HK.out)).1) hn_))), Or.elim hk_.1 (fun hs_ => Or.elim hs_ (fun hs_ => fun e_ => ((((Kd.R_apart' HO263.out (Kd.R_typed HO_4.out) (by decide))).1 k_ e_.symm).2) hs_) (fun hs_ => hs_.1.2.2.1)) (fun hn_ => (Kd.fresh' (Kd.R_lt (rk HO263)) k_ hn_)), Or.elim hk_.1 (fun hs_ => Or.elim hs_ (fun hs_ => fun e_ => ((((Kd.R_apart' HO266.out (Kd.R_typed HO_4.out) (by decide))).1 k_ e_.symm).2) hs_) (fun hs_ => hs_.2)) (fun hn_ => (Kd.fresh' (Kd.R_lt (rk HO266)) k_ hn_)), hk_.2, Or.elim hk_.1 (fun hs_ => Or.elim hs_ (fun hs_ => fun e_ => (Kd.R_ne HO_4.out BK221.out (by decide)) (by rw [← e_]; exact hs_)) (fun hs_ => hs_.1.2.2.2.1)) (fun hn_ => (Kd.freshB (bk BK221) k_ hn_)), Or.elim hk_.1 (fun hs_ => Or.elim hs_ (fun hs_ => fun e_ => (Kd.R_ne HO_4.out BK222.out (by decide)) (by rw [← e_]; exact hs_)) (fun hs_ => hs_.1.2.2.2.2.1)) (fun hn_ => (Kd.freshB (bk BK222) k_ hn_)), Or.elim hk_.1 (fun hs_ => Or.elim hs_ (fun hs_ => fun e_ => (Kd.R_ne HO_4.out BK233.out (by decide)) (by rw [← e_]; exact hs_)) (fun hs_ => hs_.1.2.2.2.2.2)) (fun hn_ => (Kd.freshB (bk BK233) k_ hn_))⟩))
   replace BK221 := ak (blk_kept (bk BK221) hkp (fun hs_ => (fun e_ => (Kd.R_ne HO_4.out BK221.out (by decide)) e_) hs_))
   replace BK222 := ak (blk_kept (bk BK222) hkp (fun hs_ => (fun e_ => (Kd.R_ne HO_4.out BK222.out (by decide)) e_) hs_))
   replace BK233 := ak (blk_kept (bk BK233) hkp (fun hs_ => (fun e_ => (Kd.R_ne HO_4.out BK233.out (by decide)) e_) hs_))
   replace HO263 := ak (Kd.R_mono (ok' := fun k_ => (P4_ k_ ∨ w.heap.size ≤ k_) ∧ some k_ ≠ (.slice Ao111 y264.length co111 : Value).ownBlock) (Kd.R_keptB ((Kd.R_apart' HO263.out (Kd.R_typed HO_4.out) (by decide))) hkp (fun k_ hk_ hs_ => (hk_.2) hs_)) (fun k_ hk_ => ⟨hk_.1.1.1, hk_.1.1.2⟩))
   replace HO266 := ak (Kd.R_mono (ok' := fun k_ => (P4_ k_ ∨ w.heap.size ≤ k_) ∧ some k_ ≠ (.slice Ao110 y261.length co110 : Value).ownBlock) (Kd.R_keptB ((Kd.R_apart' HO266.out (Kd.R_typed HO_4.out) (by decide))) hkp (fun k_ hk_ hs_ => (hk_.2) hs_)) (fun k_ hk_ => ⟨hk_.1.1.1, hk_.1.1.2⟩))
   replace HK := ak (Kept.then_ (S := (fun k_ => P4_ k_)) (by repeat (first | (with_reducible first | exact HK.out | apply Kept.alloc | apply Kept.drewN | apply Kept.drew | refine Kept.setCell ?_ (.inr GW221.out) _ | refine Kept.setCell ?_ (.inr GW222.out) _ | refine Kept.setCell ?_ (.inr GW233.out) _) | exact HK.out)) hkp (fun k_ hs_ => (fun e_ => (HO_4.out.1 k_ e_.symm)) hs_))
   replace HO_4 := ak (Kd.R_reok rfl hy0 (fun k_ e_ => HO_4.out.1 k_ e_))
   replace HB := ak (hb)
   (try clear hb)
   (try clear hkp)
   (try clear ho0)
   (try clear hy0)
   refine hK.out _ _ ⟨(blk_cell BK221.out 0).trans rfl, (blk_cell BK221.out 1).trans rfl, (blk_cell BK233.out 0).trans rfl, (blk_cell BK233.out 1).trans rfl, (blk_cell BK233.out 2).trans rfl, (blk_cell BK233.out 3).trans rfl, (blk_cell BK233.out 4).trans rfl, (blk_cell BK222.out 0).trans rfl, (blk_cell BK222.out 1).trans rfl⟩ (fun hHeld => ?_)
   clear hK K
   refine norm_ (a' := ?_) ?_ ?_
   rotate_left
   ·show Act.put _ (some 97) _ = _
    simp only [SX]
    rfl
   refine pu 21 6 ?_ (ms 22 4194303) rfl rfl HT_ (by kernel_rfl) (fun _ _ _ h => h) (by rfl) ?_ ?_ ?_ ?_
   rotate_left
   ·intro w'
    go_simp
    with_reducible rfl
   rotate_left
   ·simp only [SX]
    rfl
   refine done_ (done_of HT_.out (by kernel_rfl)) ?_
   have hcz113_0 := bc w112 BK233 0 (.int .i64 ((rd_T58 l0_1 x15_1).f0)) rfl
   have hcz113_1 := bc w112 BK233 1 (.int .i64 ((rd_T58 l0_1 x15_1).f1)) rfl
   have hcz113_2 := bc w112 BK233 2 (.int .i64 ((rd_T58 l0_1 x15_1).f2)) rfl
   have hcz113_3 := bc w112 BK233 3 (.int .i64 ((rd_T58 l0_1 x15_1).f3)) rfl
   have hcz113_4 := bc w112 BK233 4 (.int .i64 ((rd_T58 l0_1 x15_1).f4)) rfl
   have hfz113_0 := fz BK233 0
   have hfz113_1 := fz BK233 1
   have hfz113_2 := fz BK233 2
   have hfz113_3 := fz BK233 3
   have hfz113_4 := fz BK233 4
   have p88 : 0 ≤ (((rd_T58 l0_1 x15_1).f1) : Int) := oT (by first | (with_reducible assumption) | assumption)
   have q88 : (((rd_T58 l0_1 x15_1).f1) : Int) < ((x4_1.length : Int) : Int) := oT (by first | (with_reducible assumption) | assumption)
   obtain ⟨hx88_0, hf88_0⟩ := Kd.R_celln false HO_4.out (((rd_T58 l0_1 x15_1).f1) : Int) p88 q88
   replace p88 := eq_true p88
   replace q88 := eq_true q88
   obtain ⟨hy114_, hz114_⟩ := Kd.R_celln false HO_4.out (((rd_T58 l0_1 x15_1).f1) : Int) (oT (by first | (with_reducible assumption) | assumption)) (oT (by first | (with_reducible assumption) | assumption))
   have HP114 := Kd.R_putg HO_4.out (((rd_T58 l0_1 x15_1).f1) : Int) false
   try go_wp2_with (first | ((with_reducible refine gate_store (t := 4) (p := 101) rfl ?_); refine store_event (t := 4) (p := 101) (v := ?vo_w115) (w1 := (w112.setCell ⟨go84, (((rd_T58 l0_1 x15_1).f1) : Int).toNat, none⟩ (.bool false))) ?hg ?ho ?hn ?hr ?_; (case ho => rfl); (case hg => rfl); (case hn => rfl); (case hr => first | (go_simp; done) | (go_simp; rfl)); intro w115 hw; have hg : w112.grownBy w115 (some go84) := (by rw [hw]; exact HP114.2); have hp_ : Kd.R Kd.bool 4 w115 w0.heap.size (fun k_ => (P4_ k_ ∨ w.heap.size ≤ k_)) (.slice (some ⟨go84, 0, none⟩) x4_1.length co97) y271 := (by rw [hw, Ny271.out]; exact HP114.1); clear HP114; replace HO_6 := ak (Kd.V_afterv (v := (.slice (some ⟨go84, 0, none⟩) x4_1.length co97)) (v1 := (.slice (some ⟨go84, 0, none⟩) x4_1.length co97)) (ok := (fun k_ => ((P4_ k_ ∨ P6_ k_) ∨ w.heap.size ≤ k_) ∧ some k_ ≠ (.slice Ao110 y261.length co110 : Value).ownBlock ∧ some k_ ≠ (.slice Ao111 y264.length co111 : Value).ownBlock ∧ k_ ≠ gb221 ∧ k_ ≠ gb222 ∧ k_ ≠ gb233)) (by (with_reducible repeat (first | apply Kd.V_alloc | apply Kd.V_drewN | apply Kd.V_drew)); exact Kd.V_mono HO_6.out (fun _ hk => ⟨⟨hk.1, ⟨hk.2.2.1, ⟨hk.2.2.2.1, ⟨hk.2.2.2.2.1, ⟨hk.2.2.2.2.2.1, hk.2.2.2.2.2.2⟩⟩⟩⟩⟩, hk.2.1⟩)) hg (.inl rfl)); replace BK221 := ak (blk_grown (bk BK221) hg (Kd.R_ne HO_4.out BK221.out (by decide))); replace BK222 := ak (blk_grown (bk BK222) hg (Kd.R_ne HO_4.out BK222.out (by decide))); replace BK233 := ak (blk_grown (bk BK233) hg (Kd.R_ne HO_4.out BK233.out (by decide))); replace HO263 := ak (Kd.R_over' (v := (.slice (some ⟨go84, 0, none⟩) x4_1.length co97)) (rk HO263) (Kd.R_typed HO_4.out) (by decide) hg); replace HO266 := ak (Kd.R_over' (v := (.slice (some ⟨go84, 0, none⟩) x4_1.length co97)) (rk HO266) (Kd.R_typed HO_4.out) (by decide) hg); replace HO269 := ak (Kd.V_afterv (v := (.slice (some ⟨go84, 0, none⟩) x4_1.length co97)) (v1 := (.slice (some ⟨go84, 0, none⟩) x4_1.length co97)) (ok := (fun k_ => ((P4_ k_ ∨ P6_ k_) ∨ w.heap.size ≤ k_) ∧ some k_ ≠ (.slice Ao110 y261.length co110 : Value).ownBlock ∧ some k_ ≠ (.slice Ao111 y264.length co111 : Value).ownBlock ∧ k_ ≠ gb221 ∧ k_ ≠ gb222 ∧ k_ ≠ gb233)) (by (with_reducible repeat (first | apply Kd.V_alloc | apply Kd.V_drewN | apply Kd.V_drew)); exact Kd.V_mono HO269.out (fun _ hk => ⟨⟨hk.1, ⟨hk.2.1, ⟨hk.2.2.1, ⟨hk.2.2.2.2.1, ⟨hk.2.2.2.2.2.1, hk.2.2.2.2.2.2⟩⟩⟩⟩⟩, hk.2.2.2.1⟩)) hg (.inl rfl)); replace HB := ak ((by rw [hw]; exact below_set (HB.out) GB84.out : Below w0.heap.size w0 w115)); replace HK := ak (Kept.of_grown (S := (fun k_ => P4_ k_)) hg (by repeat (first | (with_reducible first | exact HK.out | apply Kept.alloc | apply Kept.drewN | apply Kept.drew | refine Kept.setCell ?_ (.inr GW221.out) _ | refine Kept.setCell ?_ (.inr GW222.out) _ | refine Kept.setCell ?_ (.inr GW233.out) _) | exact HK.out)) (fun k_ e_ => (HO_4.out.1 k_ e_))); replace HO_4 := ak (hp_); clear hg hw hp_))
   go_roundg k1
   case measure => have := HK1.out; omega
   case rel => exact ⟨(y271), (t267), (wrap64 (x15_1 + 1)), (by first | rfl | (simp; done) | (simp [*]; done)), H', ⟨by have := HK1.out; omega⟩, ⟨rk HO_4⟩, ⟨by (with_reducible repeat (first | apply Kd.V_alloc | apply Kd.V_drewN | apply Kd.V_drew)); exact Kd.V_mono HO269.out (fun _ hk => ⟨hk.1.1, ⟨hk.2, ⟨hk.1.2.2.2.1, hk.1.2.2.2.2.1⟩⟩⟩)⟩, ⟨bk BK221⟩, ⟨bk BK222⟩, ⟨by repeat (first | (with_reducible first | exact HK.out | apply Kept.alloc | apply Kept.drewN | apply Kept.drew | refine Kept.setCell ?_ (.inr GW221.out) _ | refine Kept.setCell ?_ (.inr GW222.out) _ | refine Kept.setCell ?_ (.inr GW233.out) _) | exact HK.out)⟩, ⟨bl3 HB GE221 GE222 GE233⟩⟩
  rw [if_pos c37] at H
  have c37b0 : ((x6_1.length : Int) == a2) = true := beq_iff_eq.mpr c37
  have c37b1 : ((x6_1.length : Int) != a2) = false := bne_eq_false_iff_eq.mpr c37
  clear c37
  obtain ⟨ji38, hji38⟩ : ∃ j_ : Int, (wrap64 (a2 - 1)) = j_ := ⟨_, rfl⟩
  replace H : (if 0 ≤ (ji38) then (if (ji38) < (x6_1.length : Int) then (if (wrap64 (a5_1 + ((rd_T58 l0_1 x15_1).f2))) > ((rd_T103 x6_1 (ji38)).f1) then (spec_l14Go.l0 k1 a1 a2 a3 x4_1 x6_1 (wrap64 (x15_1 + 1)) a0_0 l0_1 l5_0 a5_1) else ((some (([] : List Int) : List Int)).bind fun y237 => (if y237.length + l5_0.length < 17592186044416 then ((some (y237 ++ l5_0 : List Int)).bind fun y240 => ((some (([x15_1] : List Int) : List Int)).bind fun y243 => (if y240.length + y243.length < 17592186044416 then ((spec_l14Go.f k1 a0_0 l0_1 a1 a2 ((rd_T58 l0_1 x15_1).f1) (x4_1.set (((rd_T58 l0_1 x15_1).f1) : Int).toNat true) (y240 ++ y243) (wrap64 (a5_1 + ((rd_T58 l0_1 x15_1).f2))) x6_1).bind fun bt249 => (spec_l14Go.l0 k1 a1 a2 a3 (bt249.2.set (((rd_T58 l0_1 x15_1).f1) : Int).toNat false) bt249.1 (wrap64 (x15_1 + 1)) a0_0 l0_1 l5_0 a5_1)) else (none)))) else (none)))) else (none)) else (none)) = some (r1, r2) := by first | (rw [hji38] at H; exact H) | (simp only [hji38] at H ⊢; exact H)
  have hji38w : (IntKind.i64.wrap (a2 - 1)) = ji38 := (i64_w _).trans hji38
  by_cases c39 : 0 ≤ (ji38)
  rotate_left
  ·rw [if_neg c39] at H
   exact absurd H (by simp)
  rw [if_pos c39] at H
  have c39b0 : decide (0 ≤ (ji38)) = true := decide_eq_true c39
  clear c39
  by_cases c40 : (ji38) < (x6_1.length : Int)
  rotate_left
  ·rw [if_neg c40] at H
   exact absurd H (by simp)
  rw [if_pos c40] at H
  have c40b0 : decide ((ji38) < (x6_1.length : Int)) = true := decide_eq_true c40
  clear c40
  by_cases c41 : (wrap64 (a5_1 + ((rd_T58 l0_1 x15_1).f2))) > ((rd_T103 x6_1 (ji38)).f1)
  ·rw [if_pos c41] at H
   have c41b0 : decide (((rd_T103 x6_1 (ji38)).f1) < (wrap64 (a5_1 + ((rd_T58 l0_1 x15_1).f2)))) = true := decide_eq_true c41
   clear c41
   have H' := ak H
   clear H
   have hnb42 := NB221_222.out
   have hnc42 := NB222_221.out
   have hcz43_0 := bc wr BK221 0 (.int .i64 a0_0) rfl
   have hcz43_1 := bc wr BK221 1 (.slice A0_1 l0_1.length c0_1) rfl
   have hfz43_0 := fz BK221 0
   have hfz43_1 := fz BK221 1
   have p232 : 0 ≤ (x15_1 : Int) := oT (by first | (with_reducible assumption) | assumption)
   have q232 : x15_1 < (l0_1.length : Int) := oT (by first | (with_reducible assumption) | assumption)
   obtain ⟨ad232, e232, hx232_0, hx232_1, hx232_2, hx232_3, hx232_4⟩ := at_T58 (Kd.C_kept_now HR0_1.out HK.out) x15_1 p232 q232
   cases e232
   replace p232 := eq_true p232
   replace q232 := eq_true q232
   try go_wp2_with (first | ((with_reducible refine gate_dst (N := 16) rfl ?_); refine box_event ?hg (N := 16) ?hd (cs := #[.int .i64 0, .int .i64 0, .int .i64 0, .int .i64 0, .int .i64 0]) (t := 58) ?hr ?_; (case hd => rfl); (case hg => rfl); (case hr => first | (go_simp; done) | (go_simp; rfl)); intro gb233 hg w44 hbox hb; replace HO_4 := ak (Kd.R_below (rk HO_4) hb); replace HO_6 := ak (Kd.V_below (Kd.V_elderB (by (with_reducible repeat (first | apply Kd.V_alloc | apply Kd.V_drewN | apply Kd.V_drew)); exact HO_6.out) gb233 (Nat.le_of_eq hg.symm)) hb); have BK233 := ak (hbox); have GW233 := ak ((by rw [hg]; exact (by first | exact HK.out.1 | exact (show Kept w _ (fun k_ => P4_ k_) from by repeat (first | (with_reducible first | exact HK.out | apply Kept.alloc | apply Kept.drewN | apply Kept.drew | refine Kept.setCell ?_ (.inr GW221.out) _ | refine Kept.setCell ?_ (.inr GW222.out) _) | exact HK.out)).1) : w.heap.size ≤ gb233)); replace HK := ak (Kept.below (S := (fun k_ => P4_ k_)) (by repeat (first | (with_reducible first | exact HK.out | apply Kept.alloc | apply Kept.drewN | apply Kept.drew | refine Kept.setCell ?_ (.inr GW221.out) _ | refine Kept.setCell ?_ (.inr GW222.out) _) | exact HK.out)) hb); have GE233 := ak ((by rw [hg]; exact (below_size (bl2 HB GE221 GE222)) : w0.heap.size ≤ gb233)); replace HB := ak (below_step (bl2 HB GE221 GE222) hb); have NB221_233 := ak ((by rw [hg]; exact Nat.ne_of_lt (blk_lt (bk BK221)) : gb221 ≠ gb233)); have NB233_221 := ak ((by rw [hg]; exact Nat.ne_of_gt (blk_lt (bk BK221)) : gb233 ≠ gb221)); replace BK221 := ak (blk_below (bk BK221) hb); have NB222_233 := ak ((by rw [hg]; exact Nat.ne_of_lt (blk_lt (bk BK222)) : gb222 ≠ gb233)); have NB233_222 := ak ((by rw [hg]; exact Nat.ne_of_gt (blk_lt (bk BK222)) : gb233 ≠ gb222)); replace BK222 := ak (blk_below (bk BK222) hb); clear hb hbox hg; have hnb45 := NB233_221.out; have hnc45 := NB221_233.out; have hnb46 := NB233_222.out; have hnc46 := NB222_233.out; have hcz47_0 := bc w44 BK233 0 (.int .i64 0) rfl; have hcz47_1 := bc w44 BK233 1 (.int .i64 0) rfl; have hcz47_2 := bc w44 BK233 2 (.int .i64 0) rfl; have hcz47_3 := bc w44 BK233 3 (.int .i64 0) rfl; have hcz47_4 := bc w44 BK233 4 (.int .i64 0) rfl; have hfz47_0 := fz BK233 0; have hfz47_1 := fz BK233 1; have hfz47_2 := fz BK233 2; have hfz47_3 := fz BK233 3; have hfz47_4 := fz BK233 4))
   have n0_ : Aside0 (Kd.R Kd.bool 4 (((((w44.setCell ⟨gb233, 0, none⟩ (.int .i64 ((rd_T58 l0_1 x15_1).f0))).setCell ⟨gb233, 1, none⟩ (.int .i64 ((rd_T58 l0_1 x15_1).f1))).setCell ⟨gb233, 2, none⟩ (.int .i64 ((rd_T58 l0_1 x15_1).f2))).setCell ⟨gb233, 3, none⟩ (.int .i64 ((rd_T58 l0_1 x15_1).f3))).setCell ⟨gb233, 4, none⟩ (.int .i64 ((rd_T58 l0_1 x15_1).f4))) w0.heap.size (fun k_ => (P4_ k_ ∨ w.heap.size ≤ k_)) u9000_ x4_1) := ⟨by (with_reducible repeat (first | apply Kd.R_alloc | apply Kd.R_drewN | apply Kd.R_drew)); exact Kd.R_mono (Kd.R_far (p := ⟨gb233, 4, none⟩) (Kd.R_far (p := ⟨gb233, 3, none⟩) (Kd.R_far (p := ⟨gb233, 2, none⟩) (Kd.R_far (p := ⟨gb233, 1, none⟩) (Kd.R_far (p := ⟨gb233, 0, none⟩) (Kd.R_types HO_4.out BK233.out (by decide)) (fun _ hk => hk.2) (.int .i64 ((rd_T58 l0_1 x15_1).f0))) (fun _ hk => hk.2) (.int .i64 ((rd_T58 l0_1 x15_1).f1))) (fun _ hk => hk.2) (.int .i64 ((rd_T58 l0_1 x15_1).f2))) (fun _ hk => hk.2) (.int .i64 ((rd_T58 l0_1 x15_1).f3))) (fun _ hk => hk.2) (.int .i64 ((rd_T58 l0_1 x15_1).f4))) (fun _ hk => hk.1)⟩
   have n1_ : Aside0 (Kd.V k103 103 (((((w44.setCell ⟨gb233, 0, none⟩ (.int .i64 ((rd_T58 l0_1 x15_1).f0))).setCell ⟨gb233, 1, none⟩ (.int .i64 ((rd_T58 l0_1 x15_1).f1))).setCell ⟨gb233, 2, none⟩ (.int .i64 ((rd_T58 l0_1 x15_1).f2))).setCell ⟨gb233, 3, none⟩ (.int .i64 ((rd_T58 l0_1 x15_1).f3))).setCell ⟨gb233, 4, none⟩ (.int .i64 ((rd_T58 l0_1 x15_1).f4))) w0.heap.size (fun k_ => ((P4_ k_ ∨ P6_ k_) ∨ w.heap.size ≤ k_) ∧ some k_ ≠ (u9000_ : Value).ownBlock ∧ k_ ≠ gb221 ∧ k_ ≠ gb222 ∧ k_ ≠ gb233) u6 x6_1) := ⟨by (with_reducible repeat (first | apply Kd.V_alloc | apply Kd.V_drewN | apply Kd.V_drew)); exact Kd.V_mono (Kd.V_far (p := ⟨gb233, 4, none⟩) (Kd.V_far (p := ⟨gb233, 3, none⟩) (Kd.V_far (p := ⟨gb233, 2, none⟩) (Kd.V_far (p := ⟨gb233, 1, none⟩) (Kd.V_far (p := ⟨gb233, 0, none⟩) (Kd.V_mono HO_6.out (fun k_ hk => (⟨hk, hk.2⟩ : _ ∧ k_ ≠ gb233))) (fun _ hk => hk.2) (.int .i64 ((rd_T58 l0_1 x15_1).f0))) (fun _ hk => hk.2) (.int .i64 ((rd_T58 l0_1 x15_1).f1))) (fun _ hk => hk.2) (.int .i64 ((rd_T58 l0_1 x15_1).f2))) (fun _ hk => hk.2) (.int .i64 ((rd_T58 l0_1 x15_1).f3))) (fun _ hk => hk.2) (.int .i64 ((rd_T58 l0_1 x15_1).f4))) (fun _ hk => ⟨hk.1.1.1, ⟨hk.1.1.2.1, ⟨hk.1.1.2.2.1, ⟨hk.1.1.2.2.2, hk.1.2⟩⟩⟩⟩)⟩
   have n2_ : Aside0 ((((((w44.setCell ⟨gb233, 0, none⟩ (.int .i64 ((rd_T58 l0_1 x15_1).f0))).setCell ⟨gb233, 1, none⟩ (.int .i64 ((rd_T58 l0_1 x15_1).f1))).setCell ⟨gb233, 2, none⟩ (.int .i64 ((rd_T58 l0_1 x15_1).f2))).setCell ⟨gb233, 3, none⟩ (.int .i64 ((rd_T58 l0_1 x15_1).f3))).setCell ⟨gb233, 4, none⟩ (.int .i64 ((rd_T58 l0_1 x15_1).f4))).heap[gb221]? = some (.cells #[.int .i64 a0_0, .slice (some ad232) l0_1.length c0_1] 25 (0, 0))) := ⟨by (with_reducible repeat (first | refine blk_drewN ?_ _ | refine blk_drew ?_ | refine blk_alloc ?_ _)); refine blk_far ?_ NB221_233.out _; refine blk_far ?_ NB221_233.out _; refine blk_far ?_ NB221_233.out _; refine blk_far ?_ NB221_233.out _; refine blk_far ?_ NB221_233.out _; (with_reducible repeat (first | refine blk_drewN ?_ _ | refine blk_drew ?_ | refine blk_alloc ?_ _)); exact BK221.out⟩
   have n3_ : Aside0 ((((((w44.setCell ⟨gb233, 0, none⟩ (.int .i64 ((rd_T58 l0_1 x15_1).f0))).setCell ⟨gb233, 1, none⟩ (.int .i64 ((rd_T58 l0_1 x15_1).f1))).setCell ⟨gb233, 2, none⟩ (.int .i64 ((rd_T58 l0_1 x15_1).f2))).setCell ⟨gb233, 3, none⟩ (.int .i64 ((rd_T58 l0_1 x15_1).f3))).setCell ⟨gb233, 4, none⟩ (.int .i64 ((rd_T58 l0_1 x15_1).f4))).heap[gb222]? = some (.cells #[.slice A5_0 l5_0.length c5_0, .int .i64 a5_1] 103 (0, 0))) := ⟨by (with_reducible repeat (first | refine blk_drewN ?_ _ | refine blk_drew ?_ | refine blk_alloc ?_ _)); refine blk_far ?_ NB222_233.out _; refine blk_far ?_ NB222_233.out _; refine blk_far ?_ NB222_233.out _; refine blk_far ?_ NB222_233.out _; refine blk_far ?_ NB222_233.out _; (with_reducible repeat (first | refine blk_drewN ?_ _ | refine blk_drew ?_ | refine blk_alloc ?_ _)); exact BK222.out⟩
   have n4_ : Aside0 ((((((w44.setCell ⟨gb233, 0, none⟩ (.int .i64 ((rd_T58 l0_1 x15_1).f0))).setCell ⟨gb233, 1, none⟩ (.int .i64 ((rd_T58 l0_1 x15_1).f1))).setCell ⟨gb233, 2, none⟩ (.int .i64 ((rd_T58 l0_1 x15_1).f2))).setCell ⟨gb233, 3, none⟩ (.int .i64 ((rd_T58 l0_1 x15_1).f3))).setCell ⟨gb233, 4, none⟩ (.int .i64 ((rd_T58 l0_1 x15_1).f4))).heap[gb233]? = some (.cells #[.int .i64 ((rd_T58 l0_1 x15_1).f0), .int .i64 ((rd_T58 l0_1 x15_1).f1), .int .i64 ((rd_T58 l0_1 x15_1).f2), .int .i64 ((rd_T58 l0_1 x15_1).f3), .int .i64 ((rd_T58 l0_1 x15_1).f4)] 58 (0, 0))) := ⟨by (with_reducible repeat (first | refine blk_drewN ?_ _ | refine blk_drew ?_ | refine blk_alloc ?_ _)); refine blk_put (cs := #[.int .i64 ((rd_T58 l0_1 x15_1).f0), .int .i64 ((rd_T58 l0_1 x15_1).f1), .int .i64 ((rd_T58 l0_1 x15_1).f2), .int .i64 ((rd_T58 l0_1 x15_1).f3), .int .i64 0]) ?_ 4 _ rfl; refine blk_put (cs := #[.int .i64 ((rd_T58 l0_1 x15_1).f0), .int .i64 ((rd_T58 l0_1 x15_1).f1), .int .i64 ((rd_T58 l0_1 x15_1).f2), .int .i64 0, .int .i64 0]) ?_ 3 _ rfl; refine blk_put (cs := #[.int .i64 ((rd_T58 l0_1 x15_1).f0), .int .i64 ((rd_T58 l0_1 x15_1).f1), .int .i64 0, .int .i64 0, .int .i64 0]) ?_ 2 _ rfl; refine blk_put (cs := #[.int .i64 ((rd_T58 l0_1 x15_1).f0), .int .i64 0, .int .i64 0, .int .i64 0, .int .i64 0]) ?_ 1 _ rfl; refine blk_put (cs := #[.int .i64 0, .int .i64 0, .int .i64 0, .int .i64 0, .int .i64 0]) ?_ 0 _ rfl; (with_reducible repeat (first | refine blk_drewN ?_ _ | refine blk_drew ?_ | refine blk_alloc ?_ _)); exact BK233.out⟩
   have n5_ : Aside0 (Kept w (((((w44.setCell ⟨gb233, 0, none⟩ (.int .i64 ((rd_T58 l0_1 x15_1).f0))).setCell ⟨gb233, 1, none⟩ (.int .i64 ((rd_T58 l0_1 x15_1).f1))).setCell ⟨gb233, 2, none⟩ (.int .i64 ((rd_T58 l0_1 x15_1).f2))).setCell ⟨gb233, 3, none⟩ (.int .i64 ((rd_T58 l0_1 x15_1).f3))).setCell ⟨gb233, 4, none⟩ (.int .i64 ((rd_T58 l0_1 x15_1).f4))) (fun k_ => P4_ k_)) := ⟨by repeat (first | (with_reducible first | exact HK.out | apply Kept.alloc | apply Kept.drewN | apply Kept.drew | refine Kept.setCell ?_ (.inr GW221.out) _ | refine Kept.setCell ?_ (.inr GW222.out) _ | refine Kept.setCell ?_ (.inr GW233.out) _) | exact HK.out)⟩
   have n6_ : Aside0 (Below w0.heap.size w0 (((((w44.setCell ⟨gb233, 0, none⟩ (.int .i64 ((rd_T58 l0_1 x15_1).f0))).setCell ⟨gb233, 1, none⟩ (.int .i64 ((rd_T58 l0_1 x15_1).f1))).setCell ⟨gb233, 2, none⟩ (.int .i64 ((rd_T58 l0_1 x15_1).f2))).setCell ⟨gb233, 3, none⟩ (.int .i64 ((rd_T58 l0_1 x15_1).f3))).setCell ⟨gb233, 4, none⟩ (.int .i64 ((rd_T58 l0_1 x15_1).f4)))) := ⟨bl3 HB GE221 GE222 GE233⟩
   (try clear HO_4)
   (try clear HO_6)
   (try clear BK221)
   (try clear BK222)
   (try clear BK233)
   (try clear HK)
   (try clear HB)
   generalize (((((w44.setCell ⟨gb233, 0, none⟩ (.int .i64 ((rd_T58 l0_1 x15_1).f0))).setCell ⟨gb233, 1, none⟩ (.int .i64 ((rd_T58 l0_1 x15_1).f1))).setCell ⟨gb233, 2, none⟩ (.int .i64 ((rd_T58 l0_1 x15_1).f2))).setCell ⟨gb233, 3, none⟩ (.int .i64 ((rd_T58 l0_1 x15_1).f3))).setCell ⟨gb233, 4, none⟩ (.int .i64 ((rd_T58 l0_1 x15_1).f4))) = w48 at n0_ n1_ n2_ n3_ n4_ n5_ n6_ ⊢
   have HO_4 := n0_
   have HO_6 := n1_
   have BK221 := n2_
   have BK222 := n3_
   have BK233 := n4_
   have HK := n5_
   have HB := n6_
   clear n0_ n1_ n2_ n3_ n4_ n5_ n6_
   replace HO_4 := ak (Kd.R_drew HO_4.out)
   replace HO_6 := ak (Kd.V_drew HO_6.out)
   replace BK221 := ak (blk_drew BK221.out)
   replace BK222 := ak (blk_drew BK222.out)
   replace BK233 := ak (blk_drew BK233.out)
   replace HK := ak (Kept.drew HK.out)
   replace HB := ak (below_drew1 HB.out)
   obtain ⟨Ao50, co50, eo50⟩ := Kd.R_slice HO_4.out
   (first | subst eo50 | (injection eo50 with f1_ f2_ f3_; have f4_ := f1_.symm; have f5_ := f3_.symm; clear f1_ f2_ f3_; subst f4_; subst f5_))
   have p234 : 0 ≤ (((rd_T58 l0_1 x15_1).f1) : Int) := oT (by first | (with_reducible assumption) | assumption)
   have q234 : ((rd_T58 l0_1 x15_1).f1) < (x4_1.length : Int) := oT (by first | (with_reducible assumption) | assumption)
   obtain ⟨ad234, e234, hx234_0⟩ := Kd.at_bool (Kd.R_reads' HO_4.out).2.2 ((rd_T58 l0_1 x15_1).f1) p234 q234
   (try rw [← Nbq26.out] at hx234_0)
   cases e234
   replace p234 := eq_true p234
   replace q234 := eq_true q234
   obtain ⟨Ao51, co51, eo51⟩ := Kd.V_slice HO_6.out
   (first | subst eo51 | (injection eo51 with f1_ f2_ f3_; have f4_ := f1_.symm; have f5_ := f3_.symm; clear f1_ f2_ f3_; subst f4_; subst f5_))
   have p235 : 0 ≤ ((ji38) : Int) := oT (by first | (with_reducible assumption) | assumption)
   have q235 : (ji38) < (x6_1.length : Int) := oT (by first | (with_reducible assumption) | assumption)
   obtain ⟨ad235, A235_0, c235_0, e235, hx235_0, hx235_1, hl235_0, hi235_0⟩ := at_T103 (Kd.V_reads' HO_6.out).2.2 (ji38) p235 q235
   cases e235
   obtain ⟨ce235, hce235, hMe235, hcc235⟩ := Kd.V_get HO_6.out z103 (ji38) p235 (by first | exact q235 | exact oT (by first | (with_reducible assumption) | assumption) | (have e_ := (Kd.V_reads' HO_6.out).1; omega))
   obtain ⟨ua235_0, uc235_0, rfl, ul235_0, ge235_0⟩ := k103_openF hMe235
   have hv235_0 := hcc235 0 _ rfl
   rw [Nat.add_zero] at hv235_0
   replace hv235_0 := Option.some.inj (hv235_0.symm.trans hx235_0)
   injection hv235_0 with hva_ hvn_ hvc_
   rw [hva_] at ge235_0
   rw [hvc_] at ul235_0
   have HL235_0 := ak (show Kd.V (Kd.int .i64) 3 _ w0.heap.size _ _ ((rd_T103 x6_1 (ji38)).f0) from Kd.V_mk ul235_0 ge235_0)
   clear hva_ hvn_ hvc_ ge235_0 ul235_0
   clear hcc235 hce235
   have HR235_0 := ak hi235_0
   have HC235_0 := ak hl235_0
   clear hi235_0 hl235_0
   replace p235 := eq_true p235
   replace q235 := eq_true q235
   refine start_ (n := 31) (S := fun w' => w'.cell? ⟨gb233, 0, none⟩ = some (.int .i64 ((rd_T58 l0_1 x15_1).f0)) ∧ w'.cell? ⟨gb233, 1, none⟩ = some (.int .i64 ((rd_T58 l0_1 x15_1).f1)) ∧ w'.cell? ⟨gb233, 2, none⟩ = some (.int .i64 ((rd_T58 l0_1 x15_1).f2)) ∧ w'.cell? ⟨gb233, 3, none⟩ = some (.int .i64 ((rd_T58 l0_1 x15_1).f3)) ∧ w'.cell? ⟨gb233, 4, none⟩ = some (.int .i64 ((rd_T58 l0_1 x15_1).f4)) ∧ w'.cell? ⟨gb222, 0, none⟩ = some (.slice A5_0 l5_0.length c5_0) ∧ w'.cell? ⟨gb222, 1, none⟩ = some (.int .i64 a5_1) ∧ w'.cell? (ad234.add (((rd_T58 l0_1 x15_1).f1)).toNat) = some (.bool false) ∧ w'.cell? (ad235.add (((ji38)).toNat * 2)) = some (.slice A235_0 ((rd_T103 x6_1 (ji38)).f0).length c235_0) ∧ w'.cell? ⟨(ad235.add (((ji38)).toNat * 2)).block, (ad235.add (((ji38)).toNat * 2)).off + 1, none⟩ = some (.int .i64 ((rd_T103 x6_1 (ji38)).f1))) (ds := []) (ms 31 0) (by kernel_rfl) rfl (by kernel_rfl) ⟨(blk_cell BK233.out 0).trans rfl, (blk_cell BK233.out 1).trans rfl, (blk_cell BK233.out 2).trans rfl, (blk_cell BK233.out 3).trans rfl, (blk_cell BK233.out 4).trans rfl, (blk_cell BK222.out 0).trans rfl, (blk_cell BK222.out 1).trans rfl, hx234_0, hx235_0, hx235_1⟩ (fun hHeld => ?_); refine with_tabW spec_l14Go.tab7 spec_l14Go.bits7 (fun HT_ HW_ => ?_)
   generalize w48.drew = w49 at HO_4 HO_6 BK221 BK222 BK233 HK HB HL235_0 HR235_0 hx234_0 hx235_0 hx235_1 hHeld ⊢
   refine pu 0 42 ?_ (ms 31 1) rfl rfl HT_ (by kernel_rfl) (fun _ _ _ h => h) (by rfl) ?_ ?_ ?_ ?_
   rotate_left
   ·intro w'
    go_simp
    with_reducible rfl
   rotate_left
   ·simp only [SX]
    rfl
   refine pu 2 44 ?_ (ms 31 5) rfl rfl HT_ (by kernel_rfl) (fun _ _ _ h => h) (by rfl) ?_ ?_ ?_ ?_
   rotate_left
   ·intro w'
    go_simp
    with_reducible rfl
   rotate_left
   ·simp only [SX]
    rfl
   refine tk 1 43 ?_ (ms 31 7) rfl rfl HT_ HW_ (by kernel_rfl) (fun _ _ _ h => h) (by rfl) ?_ hHeld ?_ ?_ ?_
   rotate_left
   ·rintro w' ⟨s0, s1, s2, s3, s4, s5, s6, s7, s8, s9⟩
    go_simp
    with_reducible rfl
   rotate_left
   ·simp only [SX]
    rfl
   refine pu 3 45 ?_ (ms 31 15) rfl rfl HT_ (by kernel_rfl) (fun _ _ _ h => h) (by rfl) ?_ ?_ ?_ ?_
   rotate_left
   ·intro w'
    go_simp
    with_reducible rfl
   rotate_left
   ·simp only [SX]
    rfl
   refine pu 4 46 ?_ (ms 31 31) rfl rfl HT_ (by kernel_rfl) (fun _ _ _ h => h) (by rfl) ?_ ?_ ?_ ?_
   rotate_left
   ·intro w'
    go_simp
    with_reducible rfl
   rotate_left
   ·simp only [SX]
    rfl
   refine pu 5 47 ?_ (ms 31 63) rfl rfl HT_ (by kernel_rfl) (fun _ _ _ h => h) (by rfl) ?_ ?_ ?_ ?_
   rotate_left
   ·intro w'
    go_simp
    with_reducible rfl
   rotate_left
   ·simp only [SX]
    rfl
   refine pu 6 48 ?_ (ms 31 127) rfl rfl HT_ (by kernel_rfl) (fun _ _ _ h => h) (by rfl) ?_ ?_ ?_ ?_
   rotate_left
   ·intro w'
    go_simp
    with_reducible rfl
   rotate_left
   ·simp only [SX]
    rfl
   refine tk 7 49 ?_ (ms 31 255) rfl rfl HT_ HW_ (by kernel_rfl) (fun _ _ _ h => h) (by rfl) ?_ hHeld ?_ ?_ ?_
   rotate_left
   ·rintro w' ⟨s0, s1, s2, s3, s4, s5, s6, s7, s8, s9⟩
    go_simp
    with_reducible rfl
   rotate_left
   ·simp only [SX]
    rfl
   refine pu 8 50 ?_ (ms 31 511) rfl rfl HT_ (by kernel_rfl) (fun _ _ _ h => h) (by rfl) ?_ ?_ ?_ ?_
   rotate_left
   ·intro w'
    go_simp
    with_reducible rfl
   rotate_left
   ·simp only [SX]
    rfl
   refine tk 9 51 ?_ (ms 31 1023) rfl rfl HT_ HW_ (by kernel_rfl) (fun _ _ _ h => h) (by rfl) ?_ hHeld ?_ ?_ ?_
   rotate_left
   ·rintro w' ⟨s0, s1, s2, s3, s4, s5, s6, s7, s8, s9⟩
    go_simp
    with_reducible rfl
   rotate_left
   ·simp only [SX]
    rfl
   refine pu 10 52 ?_ (ms 31 2047) rfl rfl HT_ (by kernel_rfl) (fun _ _ _ h => h) (by rfl) ?_ ?_ ?_ ?_
   rotate_left
   ·intro w'
    go_simp
    with_reducible rfl
   rotate_left
   ·simp only [SX]
    rfl
   refine pu 11 53 ?_ (ms 31 4095) rfl rfl HT_ (by kernel_rfl) (fun _ _ _ h => h) (by rfl) ?_ ?_ ?_ ?_
   rotate_left
   ·intro w'
    go_simp
    with_reducible rfl
   rotate_left
   ·simp only [SX]
    rfl
   refine pu 12 54 ?_ (ms 31 8191) rfl rfl HT_ (by kernel_rfl) (fun _ _ _ h => h) (by rfl) ?_ ?_ ?_ ?_
   rotate_left
   ·intro w'
    go_simp
    with_reducible rfl
   rotate_left
   ·simp only [SX]
    rfl
   refine pu 13 55 ?_ (ms 31 16383) rfl rfl HT_ (by kernel_rfl) (fun _ _ _ h => h) (by rfl) ?_ ?_ ?_ ?_
   rotate_left
   ·intro w'
    go_simp
    with_reducible rfl
   rotate_left
   ·simp only [SX]
    rfl
   refine pu 14 56 ?_ (ms 31 32767) rfl rfl HT_ (by kernel_rfl) (fun _ _ _ h => h) (by rfl) ?_ ?_ ?_ ?_
   rotate_left
   ·intro w'
    go_simp
    with_reducible rfl
   rotate_left
   ·simp only [SX]
    rfl
   refine pu 15 57 ?_ (ms 31 65535) rfl rfl HT_ (by kernel_rfl) (fun _ _ _ h => h) (by rfl) ?_ ?_ ?_ ?_
   rotate_left
   ·intro w'
    go_simp
    with_reducible rfl
   rotate_left
   ·simp only [SX]
    rfl
   refine pu 16 58 ?_ (ms 31 131071) rfl rfl HT_ (by kernel_rfl) (fun _ _ _ h => h) (by rfl) ?_ ?_ ?_ ?_
   rotate_left
   ·intro w'
    go_simp
    with_reducible rfl
   rotate_left
   ·simp only [SX]
    rfl
   refine pu 17 59 ?_ (ms 31 262143) rfl rfl HT_ (by kernel_rfl) (fun _ _ _ h => h) (by rfl) ?_ ?_ ?_ ?_
   rotate_left
   ·intro w'
    go_simp
    with_reducible rfl
   rotate_left
   ·simp only [SX]
    rfl
   refine pu 19 61 ?_ (ms 31 786431) rfl rfl HT_ (by kernel_rfl) (fun _ _ _ h => h) (by rfl) ?_ ?_ ?_ ?_
   rotate_left
   ·intro w'
    go_simp
    with_reducible rfl
   rotate_left
   ·simp only [SX]
    rfl
   refine pu 22 64 ?_ (ms 31 4980735) rfl rfl HT_ (by kernel_rfl) (fun _ _ _ h => h) (by rfl) ?_ ?_ ?_ ?_
   rotate_left
   ·intro w'
    go_simp
    with_reducible rfl
   rotate_left
   ·simp only [SX]
    rfl
   refine pu 23 65 ?_ (ms 31 13369343) rfl rfl HT_ (by kernel_rfl) (fun _ _ _ h => h) (by rfl) ?_ ?_ ?_ ?_
   rotate_left
   ·intro w'
    go_simp
    with_reducible rfl
   rotate_left
   ·simp only [SX]
    rfl
   refine pu 24 66 ?_ (ms 31 30146559) rfl rfl HT_ (by kernel_rfl) (fun _ _ _ h => h) (by rfl) ?_ ?_ ?_ ?_
   rotate_left
   ·intro w'
    go_simp
    with_reducible rfl
   rotate_left
   ·simp only [SX]
    rfl
   refine pu 25 67 ?_ (ms 31 63700991) rfl rfl HT_ (by kernel_rfl) (fun _ _ _ h => h) (by rfl) ?_ ?_ ?_ ?_
   rotate_left
   ·intro w'
    go_simp
    with_reducible rfl
   rotate_left
   ·simp only [SX]
    rfl
   refine pu 26 68 ?_ (ms 31 130809855) rfl rfl HT_ (by kernel_rfl) (fun _ _ _ h => h) (by rfl) ?_ ?_ ?_ ?_
   rotate_left
   ·intro w'
    go_simp
    with_reducible rfl
   rotate_left
   ·simp only [SX]
    rfl
   refine tk 18 60 ?_ (ms 31 131071999) rfl rfl HT_ HW_ (by kernel_rfl) (fun _ _ _ h => h) (by rfl) ?_ hHeld ?_ ?_ ?_
   rotate_left
   ·rintro w' ⟨s0, s1, s2, s3, s4, s5, s6, s7, s8, s9⟩
    go_simp
    with_reducible rfl
   rotate_left
   ·simp only [SX]
    rfl
   refine tk 20 62 ?_ (ms 31 132120575) rfl rfl HT_ HW_ (by kernel_rfl) (fun _ _ _ h => h) (by rfl) ?_ hHeld ?_ ?_ ?_
   rotate_left
   ·rintro w' ⟨s0, s1, s2, s3, s4, s5, s6, s7, s8, s9⟩
    go_simp
    with_reducible rfl
   rotate_left
   ·simp only [SX]
    rfl
   refine pu 21 63 ?_ (ms 31 134217727) rfl rfl HT_ (by kernel_rfl) (fun _ _ _ h => h) (by rfl) ?_ ?_ ?_ ?_
   rotate_left
   ·intro w'
    go_simp
    with_reducible rfl
   rotate_left
   ·simp only [SX]
    rfl
   refine tk 27 69 ?_ (ms 31 268435455) rfl rfl HT_ HW_ (by kernel_rfl) (fun _ _ _ h => h) (by rfl) ?_ hHeld ?_ ?_ ?_
   rotate_left
   ·rintro w' ⟨s0, s1, s2, s3, s4, s5, s6, s7, s8, s9⟩
    go_simp
    with_reducible rfl
   rotate_left
   ·simp only [SX]
    rfl
   refine pu 28 70 ?_ (ms 31 536870911) rfl rfl HT_ (by kernel_rfl) (fun _ _ _ h => h) (by rfl) ?_ ?_ ?_ ?_
   rotate_left
   ·intro w'
    go_simp
    with_reducible rfl
   rotate_left
   ·simp only [SX]
    rfl
   refine pu 29 71 ?_ (ms 31 1073741823) rfl rfl HT_ (by kernel_rfl) (fun _ _ _ h => h) (by rfl) ?_ ?_ ?_ ?_
   rotate_left
   ·intro w'
    go_simp
    with_reducible rfl
   rotate_left
   ·simp only [SX]
    rfl
   refine pu 30 72 ?_ (ms 31 2147483647) rfl rfl HT_ (by kernel_rfl) (fun _ _ _ h => h) (by rfl) ?_ ?_ ?_ ?_
   rotate_left
   ·intro w'
    go_simp
    with_reducible rfl
   rotate_left
   ·simp only [SX]
    rfl
   refine done_ (done_of HT_.out (by kernel_rfl)) ?_
   try go_wp2
   go_roundg k1
   case measure => have := HK1.out; omega
   case rel => exact ⟨(x4_1), (x6_1), (wrap64 (x15_1 + 1)), (by first | rfl | (simp; done) | (simp [*]; done)), H', ⟨by have := HK1.out; omega⟩, ⟨rk HO_4⟩, ⟨by (with_reducible repeat (first | apply Kd.V_alloc | apply Kd.V_drewN | apply Kd.V_drew)); exact Kd.V_mono HO_6.out (fun _ hk => ⟨hk.1, ⟨hk.2.1, ⟨hk.2.2.1, hk.2.2.2.1⟩⟩⟩)⟩, ⟨bk BK221⟩, ⟨bk BK222⟩, ⟨by repeat (first | (with_reducible first | exact HK.out | apply Kept.alloc | apply Kept.drewN | apply Kept.drew | refine Kept.setCell ?_ (.inr GW221.out) _ | refine Kept.setCell ?_ (.inr GW222.out) _ | refine Kept.setCell ?_ (.inr GW233.out) _) | exact HK.out)⟩, ⟨bl3 HB GE221 GE222 GE233⟩⟩
  rw [if_neg c41] at H
  have c41b0 : decide (((rd_T103 x6_1 (ji38)).f1) < (wrap64 (a5_1 + ((rd_T58 l0_1 x15_1).f2)))) = false := decide_eq_false c41
  clear c41
  obtain ⟨y236, hy236⟩ : ∃ y_ : List Bool, y_ = (x4_1.set (((rd_T58 l0_1 x15_1).f1) : Int).toNat true) := ⟨_, rfl⟩
  replace H : ((some (([] : List Int) : List Int)).bind fun y237 => (if y237.length + l5_0.length < 17592186044416 then ((some (y237 ++ l5_0 : List Int)).bind fun y240 => ((some (([x15_1] : List Int) : List Int)).bind fun y243 => (if y240.length + y243.length < 17592186044416 then ((spec_l14Go.f k1 a0_0 l0_1 a1 a2 ((rd_T58 l0_1 x15_1).f1) y236 (y240 ++ y243) (wrap64 (a5_1 + ((rd_T58 l0_1 x15_1).f2))) x6_1).bind fun bt249 => (spec_l14Go.l0 k1 a1 a2 a3 (bt249.2.set (((rd_T58 l0_1 x15_1).f1) : Int).toNat false) bt249.1 (wrap64 (x15_1 + 1)) a0_0 l0_1 l5_0 a5_1)) else (none)))) else (none))) = some (r1, r2) := by first | (rw [hy236]; with_reducible exact H) | (have H2_ := (Option.bind_some _ _).symm.trans H; rw [hy236]; with_reducible exact H2_) | (have H2_ := (Option.bind_some _ _).symm.trans H; with_reducible exact H2_) | with_reducible exact H | (rw [hy236]; exact H) | exact H
  have Ny236 := ak hy236
  clear hy236
  obtain ⟨y237, hy237⟩ : ∃ y_ : List Int, y_ = (([] : List Int)) := ⟨_, rfl⟩
  replace H : (if y237.length + l5_0.length < 17592186044416 then ((some (y237 ++ l5_0 : List Int)).bind fun y240 => ((some (([x15_1] : List Int) : List Int)).bind fun y243 => (if y240.length + y243.length < 17592186044416 then ((spec_l14Go.f k1 a0_0 l0_1 a1 a2 ((rd_T58 l0_1 x15_1).f1) y236 (y240 ++ y243) (wrap64 (a5_1 + ((rd_T58 l0_1 x15_1).f2))) x6_1).bind fun bt249 => (spec_l14Go.l0 k1 a1 a2 a3 (bt249.2.set (((rd_T58 l0_1 x15_1).f1) : Int).toNat false) bt249.1 (wrap64 (x15_1 + 1)) a0_0 l0_1 l5_0 a5_1)) else (none)))) else (none)) = some (r1, r2) := by first | (rw [hy237]; with_reducible exact H) | (have H2_ := (Option.bind_some _ _).symm.trans H; rw [hy237]; with_reducible exact H2_) | (have H2_ := (Option.bind_some _ _).symm.trans H; with_reducible exact H2_) | with_reducible exact H | (rw [hy237]; exact H) | exact H
  have Ny237 := ak hy237
  clear hy237
  by_cases c53 : y237.length + l5_0.length < 17592186044416
  rotate_left
  ·rw [if_neg c53] at H
   exact absurd H (by simp)
  rw [if_pos c53] at H
  have LMc53 := ak c53
  clear c53
  obtain ⟨y240, hy240⟩ : ∃ y_ : List Int, y_ = (y237 ++ l5_0) := ⟨_, rfl⟩
  replace H : ((some (([x15_1] : List Int) : List Int)).bind fun y243 => (if y240.length + y243.length < 17592186044416 then ((spec_l14Go.f k1 a0_0 l0_1 a1 a2 ((rd_T58 l0_1 x15_1).f1) y236 (y240 ++ y243) (wrap64 (a5_1 + ((rd_T58 l0_1 x15_1).f2))) x6_1).bind fun bt249 => (spec_l14Go.l0 k1 a1 a2 a3 (bt249.2.set (((rd_T58 l0_1 x15_1).f1) : Int).toNat false) bt249.1 (wrap64 (x15_1 + 1)) a0_0 l0_1 l5_0 a5_1)) else (none))) = some (r1, r2) := by first | (rw [hy240]; with_reducible exact H) | (have H2_ := (Option.bind_some _ _).symm.trans H; rw [hy240]; with_reducible exact H2_) | (have H2_ := (Option.bind_some _ _).symm.trans H; with_reducible exact H2_) | with_reducible exact H | (rw [hy240]; exact H) | exact H
  have Ny240 := ak hy240
  clear hy240
  obtain ⟨y243, hy243⟩ : ∃ y_ : List Int, y_ = (([x15_1] : List Int)) := ⟨_, rfl⟩
  replace H : (if y240.length + y243.length < 17592186044416 then ((spec_l14Go.f k1 a0_0 l0_1 a1 a2 ((rd_T58 l0_1 x15_1).f1) y236 (y240 ++ y243) (wrap64 (a5_1 + ((rd_T58 l0_1 x15_1).f2))) x6_1).bind fun bt249 => (spec_l14Go.l0 k1 a1 a2 a3 (bt249.2.set (((rd_T58 l0_1 x15_1).f1) : Int).toNat false) bt249.1 (wrap64 (x15_1 + 1)) a0_0 l0_1 l5_0 a5_1)) else (none)) = some (r1, r2) := by first | (rw [hy243]; with_reducible exact H) | (have H2_ := (Option.bind_some _ _).symm.trans H; rw [hy243]; with_reducible exact H2_) | (have H2_ := (Option.bind_some _ _).symm.trans H; with_reducible exact H2_) | with_reducible exact H | (rw [hy243]; exact H) | exact H
  have Ny243 := ak hy243
  clear hy243
  by_cases c54 : y240.length + y243.length < 17592186044416
  rotate_left
  ·rw [if_neg c54] at H
   exact absurd H (by simp)
  rw [if_pos c54] at H
  have LMc54 := ak c54
  clear c54
  obtain ⟨y246, hy246⟩ : ∃ y_ : List Int, y_ = (y240 ++ y243) := ⟨_, rfl⟩
  replace H : ((spec_l14Go.f k1 a0_0 l0_1 a1 a2 ((rd_T58 l0_1 x15_1).f1) y236 y246 (wrap64 (a5_1 + ((rd_T58 l0_1 x15_1).f2))) x6_1).bind fun bt249 => (spec_l14Go.l0 k1 a1 a2 a3 (bt249.2.set (((rd_T58 l0_1 x15_1).f1) : Int).toNat false) bt249.1 (wrap64 (x15_1 + 1)) a0_0 l0_1 l5_0 a5_1)) = some (r1, r2) := by first | (rw [hy246]; with_reducible exact H) | (have H2_ := (Option.bind_some _ _).symm.trans H; rw [hy246]; with_reducible exact H2_) | (have H2_ := (Option.bind_some _ _).symm.trans H; with_reducible exact H2_) | with_reducible exact H | (rw [hy246]; exact H) | exact H
  have Ny246 := ak hy246
  clear hy246
  replace H := Option.bind_eq_some_iff.mp H
  obtain ⟨⟨t249, t252⟩, A550, H⟩ := H
  have A55 := ak A550
  clear A550
  obtain ⟨y253, hy253⟩ : ∃ y_ : List Bool, y_ = (t252.set (((rd_T58 l0_1 x15_1).f1) : Int).toNat false) := ⟨_, rfl⟩
  replace H : (spec_l14Go.l0 k1 a1 a2 a3 y253 t249 (wrap64 (x15_1 + 1)) a0_0 l0_1 l5_0 a5_1) = some (r1, r2) := by first | (rw [hy253]; with_reducible exact H) | (have H2_ := (Option.bind_some _ _).symm.trans H; rw [hy253]; with_reducible exact H2_) | (have H2_ := (Option.bind_some _ _).symm.trans H; with_reducible exact H2_) | with_reducible exact H | (rw [hy253]; exact H) | exact H
  have Ny253 := ak hy253
  clear hy253
  have H' := ak H
  clear H
  have hnb57 := NB221_222.out
  have hnc57 := NB222_221.out
  have hcz58_0 := bc wr BK221 0 (.int .i64 a0_0) rfl
  have hcz58_1 := bc wr BK221 1 (.slice A0_1 l0_1.length c0_1) rfl
  have hfz58_0 := fz BK221 0
  have hfz58_1 := fz BK221 1
  have p232 : 0 ≤ (x15_1 : Int) := oT (by first | (with_reducible assumption) | assumption)
  have q232 : x15_1 < (l0_1.length : Int) := oT (by first | (with_reducible assumption) | assumption)
  obtain ⟨ad232, e232, hx232_0, hx232_1, hx232_2, hx232_3, hx232_4⟩ := at_T58 (Kd.C_kept_now HR0_1.out HK.out) x15_1 p232 q232
  cases e232
  replace p232 := eq_true p232
  replace q232 := eq_true q232
  try go_wp2_with (first | ((with_reducible refine gate_dst (N := 16) rfl ?_); refine box_event ?hg (N := 16) ?hd (cs := #[.int .i64 0, .int .i64 0, .int .i64 0, .int .i64 0, .int .i64 0]) (t := 58) ?hr ?_; (case hd => rfl); (case hg => rfl); (case hr => first | (go_simp; done) | (go_simp; rfl)); intro gb233 hg w59 hbox hb; replace HO_4 := ak (Kd.R_below (rk HO_4) hb); replace HO_6 := ak (Kd.V_below (Kd.V_elderB (by (with_reducible repeat (first | apply Kd.V_alloc | apply Kd.V_drewN | apply Kd.V_drew)); exact HO_6.out) gb233 (Nat.le_of_eq hg.symm)) hb); have BK233 := ak (hbox); have GW233 := ak ((by rw [hg]; exact (by first | exact HK.out.1 | exact (show Kept w _ (fun k_ => P4_ k_) from by repeat (first | (with_reducible first | exact HK.out | apply Kept.alloc | apply Kept.drewN | apply Kept.drew | refine Kept.setCell ?_ (.inr GW221.out) _ | refine Kept.setCell ?_ (.inr GW222.out) _) | exact HK.out)).1) : w.heap.size ≤ gb233)); replace HK := ak (Kept.below (S := (fun k_ => P4_ k_)) (by repeat (first | (with_reducible first | exact HK.out | apply Kept.alloc | apply Kept.drewN | apply Kept.drew | refine Kept.setCell ?_ (.inr GW221.out) _ | refine Kept.setCell ?_ (.inr GW222.out) _) | exact HK.out)) hb); have GE233 := ak ((by rw [hg]; exact (below_size (bl2 HB GE221 GE222)) : w0.heap.size ≤ gb233)); replace HB := ak (below_step (bl2 HB GE221 GE222) hb); have NB221_233 := ak ((by rw [hg]; exact Nat.ne_of_lt (blk_lt (bk BK221)) : gb221 ≠ gb233)); have NB233_221 := ak ((by rw [hg]; exact Nat.ne_of_gt (blk_lt (bk BK221)) : gb233 ≠ gb221)); replace BK221 := ak (blk_below (bk BK221) hb); have NB222_233 := ak ((by rw [hg]; exact Nat.ne_of_lt (blk_lt (bk BK222)) : gb222 ≠ gb233)); have NB233_222 := ak ((by rw [hg]; exact Nat.ne_of_gt (blk_lt (bk BK222)) : gb233 ≠ gb222)); replace BK222 := ak (blk_below (bk BK222) hb); clear hb hbox hg; have hnb60 := NB233_221.out; have hnc60 := NB221_233.out; have hnb61 := NB233_222.out; have hnc61 := NB222_233.out; have hcz62_0 := bc w59 BK233 0 (.int .i64 0) rfl; have hcz62_1 := bc w59 BK233 1 (.int .i64 0) rfl; have hcz62_2 := bc w59 BK233 2 (.int .i64 0) rfl; have hcz62_3 := bc w59 BK233 3 (.int .i64 0) rfl; have hcz62_4 := bc w59 BK233 4 (.int .i64 0) rfl; have hfz62_0 := fz BK233 0; have hfz62_1 := fz BK233 1; have hfz62_2 := fz BK233 2; have hfz62_3 := fz BK233 3; have hfz62_4 := fz BK233 4))
  have n0_ : Aside0 (Kd.R Kd.bool 4 (((((w59.setCell ⟨gb233, 0, none⟩ (.int .i64 ((rd_T58 l0_1 x15_1).f0))).setCell ⟨gb233, 1, none⟩ (.int .i64 ((rd_T58 l0_1 x15_1).f1))).setCell ⟨gb233, 2, none⟩ (.int .i64 ((rd_T58 l0_1 x15_1).f2))).setCell ⟨gb233, 3, none⟩ (.int .i64 ((rd_T58 l0_1 x15_1).f3))).setCell ⟨gb233, 4, none⟩ (.int .i64 ((rd_T58 l0_1 x15_1).f4))) w0.heap.size (fun k_ => (P4_ k_ ∨ w.heap.size ≤ k_)) u9000_ x4_1) := ⟨by (with_reducible repeat (first | apply Kd.R_alloc | apply Kd.R_drewN | apply Kd.R_drew)); exact Kd.R_mono (Kd.R_far (p := ⟨gb233, 4, none⟩) (Kd.R_far (p := ⟨gb233, 3, none⟩) (Kd.R_far (p := ⟨gb233, 2, none⟩) (Kd.R_far (p := ⟨gb233, 1, none⟩) (Kd.R_far (p := ⟨gb233, 0, none⟩) (Kd.R_types HO_4.out BK233.out (by decide)) (fun _ hk => hk.2) (.int .i64 ((rd_T58 l0_1 x15_1).f0))) (fun _ hk => hk.2) (.int .i64 ((rd_T58 l0_1 x15_1).f1))) (fun _ hk => hk.2) (.int .i64 ((rd_T58 l0_1 x15_1).f2))) (fun _ hk => hk.2) (.int .i64 ((rd_T58 l0_1 x15_1).f3))) (fun _ hk => hk.2) (.int .i64 ((rd_T58 l0_1 x15_1).f4))) (fun _ hk => hk.1)⟩
  have n1_ : Aside0 (Kd.V k103 103 (((((w59.setCell ⟨gb233, 0, none⟩ (.int .i64 ((rd_T58 l0_1 x15_1).f0))).setCell ⟨gb233, 1, none⟩ (.int .i64 ((rd_T58 l0_1 x15_1).f1))).setCell ⟨gb233, 2, none⟩ (.int .i64 ((rd_T58 l0_1 x15_1).f2))).setCell ⟨gb233, 3, none⟩ (.int .i64 ((rd_T58 l0_1 x15_1).f3))).setCell ⟨gb233, 4, none⟩ (.int .i64 ((rd_T58 l0_1 x15_1).f4))) w0.heap.size (fun k_ => ((P4_ k_ ∨ P6_ k_) ∨ w.heap.size ≤ k_) ∧ some k_ ≠ (u9000_ : Value).ownBlock ∧ k_ ≠ gb221 ∧ k_ ≠ gb222 ∧ k_ ≠ gb233) u6 x6_1) := ⟨by (with_reducible repeat (first | apply Kd.V_alloc | apply Kd.V_drewN | apply Kd.V_drew)); exact Kd.V_mono (Kd.V_far (p := ⟨gb233, 4, none⟩) (Kd.V_far (p := ⟨gb233, 3, none⟩) (Kd.V_far (p := ⟨gb233, 2, none⟩) (Kd.V_far (p := ⟨gb233, 1, none⟩) (Kd.V_far (p := ⟨gb233, 0, none⟩) (Kd.V_mono HO_6.out (fun k_ hk => (⟨hk, hk.2⟩ : _ ∧ k_ ≠ gb233))) (fun _ hk => hk.2) (.int .i64 ((rd_T58 l0_1 x15_1).f0))) (fun _ hk => hk.2) (.int .i64 ((rd_T58 l0_1 x15_1).f1))) (fun _ hk => hk.2) (.int .i64 ((rd_T58 l0_1 x15_1).f2))) (fun _ hk => hk.2) (.int .i64 ((rd_T58 l0_1 x15_1).f3))) (fun _ hk => hk.2) (.int .i64 ((rd_T58 l0_1 x15_1).f4))) (fun _ hk => ⟨hk.1.1.1, ⟨hk.1.1.2.1, ⟨hk.1.1.2.2.1, ⟨hk.1.1.2.2.2, hk.1.2⟩⟩⟩⟩)⟩
  have n2_ : Aside0 ((((((w59.setCell ⟨gb233, 0, none⟩ (.int .i64 ((rd_T58 l0_1 x15_1).f0))).setCell ⟨gb233, 1, none⟩ (.int .i64 ((rd_T58 l0_1 x15_1).f1))).setCell ⟨gb233, 2, none⟩ (.int .i64 ((rd_T58 l0_1 x15_1).f2))).setCell ⟨gb233, 3, none⟩ (.int .i64 ((rd_T58 l0_1 x15_1).f3))).setCell ⟨gb233, 4, none⟩ (.int .i64 ((rd_T58 l0_1 x15_1).f4))).heap[gb221]? = some (.cells #[.int .i64 a0_0, .slice (some ad232) l0_1.length c0_1] 25 (0, 0))) := ⟨by (with_reducible repeat (first | refine blk_drewN ?_ _ | refine blk_drew ?_ | refine blk_alloc ?_ _)); refine blk_far ?_ NB221_233.out _; refine blk_far ?_ NB221_233.out _; refine blk_far ?_ NB221_233.out _; refine blk_far ?_ NB221_233.out _; refine blk_far ?_ NB221_233.out _; (with_reducible repeat (first | refine blk_drewN ?_ _ | refine blk_drew ?_ | refine blk_alloc ?_ _)); exact BK221.out⟩
  have n3_ : Aside0 ((((((w59.setCell ⟨gb233, 0, none⟩ (.int .i64 ((rd_T58 l0_1 x15_1).f0))).setCell ⟨gb233, 1, none⟩ (.int .i64 ((rd_T58 l0_1 x15_1).f1))).setCell ⟨gb233, 2, none⟩ (.int .i64 ((rd_T58 l0_1 x15_1).f2))).setCell ⟨gb233, 3, none⟩ (.int .i64 ((rd_T58 l0_1 x15_1).f3))).setCell ⟨gb233, 4, none⟩ (.int .i64 ((rd_T58 l0_1 x15_1).f4))).heap[gb222]? = some (.cells #[.slice A5_0 l5_0.length c5_0, .int .i64 a5_1] 103 (0, 0))) := ⟨by (with_reducible repeat (first | refine blk_drewN ?_ _ | refine blk_drew ?_ | refine blk_alloc ?_ _)); refine blk_far ?_ NB222_233.out _; refine blk_far ?_ NB222_233.out _; refine blk_far ?_ NB222_233.out _; refine blk_far ?_ NB222_233.out _; refine blk_far ?_ NB222_233.out _; (with_reducible repeat (first | refine blk_drewN ?_ _ | refine blk_drew ?_ | refine blk_alloc ?_ _)); exact BK222.out⟩
  have n4_ : Aside0 ((((((w59.setCell ⟨gb233, 0, none⟩ (.int .i64 ((rd_T58 l0_1 x15_1).f0))).setCell ⟨gb233, 1, none⟩ (.int .i64 ((rd_T58 l0_1 x15_1).f1))).setCell ⟨gb233, 2, none⟩ (.int .i64 ((rd_T58 l0_1 x15_1).f2))).setCell ⟨gb233, 3, none⟩ (.int .i64 ((rd_T58 l0_1 x15_1).f3))).setCell ⟨gb233, 4, none⟩ (.int .i64 ((rd_T58 l0_1 x15_1).f4))).heap[gb233]? = some (.cells #[.int .i64 ((rd_T58 l0_1 x15_1).f0), .int .i64 ((rd_T58 l0_1 x15_1).f1), .int .i64 ((rd_T58 l0_1 x15_1).f2), .int .i64 ((rd_T58 l0_1 x15_1).f3), .int .i64 ((rd_T58 l0_1 x15_1).f4)] 58 (0, 0))) := ⟨by (with_reducible repeat (first | refine blk_drewN ?_ _ | refine blk_drew ?_ | refine blk_alloc ?_ _)); refine blk_put (cs := #[.int .i64 ((rd_T58 l0_1 x15_1).f0), .int .i64 ((rd_T58 l0_1 x15_1).f1), .int .i64 ((rd_T58 l0_1 x15_1).f2), .int .i64 ((rd_T58 l0_1 x15_1).f3), .int .i64 0]) ?_ 4 _ rfl; refine blk_put (cs := #[.int .i64 ((rd_T58 l0_1 x15_1).f0), .int .i64 ((rd_T58 l0_1 x15_1).f1), .int .i64 ((rd_T58 l0_1 x15_1).f2), .int .i64 0, .int .i64 0]) ?_ 3 _ rfl; refine blk_put (cs := #[.int .i64 ((rd_T58 l0_1 x15_1).f0), .int .i64 ((rd_T58 l0_1 x15_1).f1), .int .i64 0, .int .i64 0, .int .i64 0]) ?_ 2 _ rfl; refine blk_put (cs := #[.int .i64 ((rd_T58 l0_1 x15_1).f0), .int .i64 0, .int .i64 0, .int .i64 0, .int .i64 0]) ?_ 1 _ rfl; refine blk_put (cs := #[.int .i64 0, .int .i64 0, .int .i64 0, .int .i64 0, .int .i64 0]) ?_ 0 _ rfl; (with_reducible repeat (first | refine blk_drewN ?_ _ | refine blk_drew ?_ | refine blk_alloc ?_ _)); exact BK233.out⟩
  have n5_ : Aside0 (Kept w (((((w59.setCell ⟨gb233, 0, none⟩ (.int .i64 ((rd_T58 l0_1 x15_1).f0))).setCell ⟨gb233, 1, none⟩ (.int .i64 ((rd_T58 l0_1 x15_1).f1))).setCell ⟨gb233, 2, none⟩ (.int .i64 ((rd_T58 l0_1 x15_1).f2))).setCell ⟨gb233, 3, none⟩ (.int .i64 ((rd_T58 l0_1 x15_1).f3))).setCell ⟨gb233, 4, none⟩ (.int .i64 ((rd_T58 l0_1 x15_1).f4))) (fun k_ => P4_ k_)) := ⟨by repeat (first | (with_reducible first | exact HK.out | apply Kept.alloc | apply Kept.drewN | apply Kept.drew | refine Kept.setCell ?_ (.inr GW221.out) _ | refine Kept.setCell ?_ (.inr GW222.out) _ | refine Kept.setCell ?_ (.inr GW233.out) _) | exact HK.out)⟩
  have n6_ : Aside0 (Below w0.heap.size w0 (((((w59.setCell ⟨gb233, 0, none⟩ (.int .i64 ((rd_T58 l0_1 x15_1).f0))).setCell ⟨gb233, 1, none⟩ (.int .i64 ((rd_T58 l0_1 x15_1).f1))).setCell ⟨gb233, 2, none⟩ (.int .i64 ((rd_T58 l0_1 x15_1).f2))).setCell ⟨gb233, 3, none⟩ (.int .i64 ((rd_T58 l0_1 x15_1).f3))).setCell ⟨gb233, 4, none⟩ (.int .i64 ((rd_T58 l0_1 x15_1).f4)))) := ⟨bl3 HB GE221 GE222 GE233⟩
  (try clear HO_4)
  (try clear HO_6)
  (try clear BK221)
  (try clear BK222)
  (try clear BK233)
  (try clear HK)
  (try clear HB)
  generalize (((((w59.setCell ⟨gb233, 0, none⟩ (.int .i64 ((rd_T58 l0_1 x15_1).f0))).setCell ⟨gb233, 1, none⟩ (.int .i64 ((rd_T58 l0_1 x15_1).f1))).setCell ⟨gb233, 2, none⟩ (.int .i64 ((rd_T58 l0_1 x15_1).f2))).setCell ⟨gb233, 3, none⟩ (.int .i64 ((rd_T58 l0_1 x15_1).f3))).setCell ⟨gb233, 4, none⟩ (.int .i64 ((rd_T58 l0_1 x15_1).f4))) = w63 at n0_ n1_ n2_ n3_ n4_ n5_ n6_ ⊢
  have HO_4 := n0_
  have HO_6 := n1_
  have BK221 := n2_
  have BK222 := n3_
  have BK233 := n4_
  have HK := n5_
  have HB := n6_
  clear n0_ n1_ n2_ n3_ n4_ n5_ n6_
  replace HO_4 := ak (Kd.R_drew HO_4.out)
  replace HO_6 := ak (Kd.V_drew HO_6.out)
  replace BK221 := ak (blk_drew BK221.out)
  replace BK222 := ak (blk_drew BK222.out)
  replace BK233 := ak (blk_drew BK233.out)
  replace HK := ak (Kept.drew HK.out)
  replace HB := ak (below_drew1 HB.out)
  obtain ⟨Ao65, co65, eo65⟩ := Kd.R_slice HO_4.out
  (first | subst eo65 | (injection eo65 with f1_ f2_ f3_; have f4_ := f1_.symm; have f5_ := f3_.symm; clear f1_ f2_ f3_; subst f4_; subst f5_))
  have p234 : 0 ≤ (((rd_T58 l0_1 x15_1).f1) : Int) := oT (by first | (with_reducible assumption) | assumption)
  have q234 : ((rd_T58 l0_1 x15_1).f1) < (x4_1.length : Int) := oT (by first | (with_reducible assumption) | assumption)
  obtain ⟨ad234, e234, hx234_0⟩ := Kd.at_bool (Kd.R_reads' HO_4.out).2.2 ((rd_T58 l0_1 x15_1).f1) p234 q234
  (try rw [← Nbq26.out] at hx234_0)
  cases e234
  replace p234 := eq_true p234
  replace q234 := eq_true q234
  obtain ⟨Ao66, co66, eo66⟩ := Kd.V_slice HO_6.out
  (first | subst eo66 | (injection eo66 with f1_ f2_ f3_; have f4_ := f1_.symm; have f5_ := f3_.symm; clear f1_ f2_ f3_; subst f4_; subst f5_))
  have p235 : 0 ≤ ((ji38) : Int) := oT (by first | (with_reducible assumption) | assumption)
  have q235 : (ji38) < (x6_1.length : Int) := oT (by first | (with_reducible assumption) | assumption)
  obtain ⟨ad235, A235_0, c235_0, e235, hx235_0, hx235_1, hl235_0, hi235_0⟩ := at_T103 (Kd.V_reads' HO_6.out).2.2 (ji38) p235 q235
  cases e235
  obtain ⟨ce235, hce235, hMe235, hcc235⟩ := Kd.V_get HO_6.out z103 (ji38) p235 (by first | exact q235 | exact oT (by first | (with_reducible assumption) | assumption) | (have e_ := (Kd.V_reads' HO_6.out).1; omega))
  obtain ⟨ua235_0, uc235_0, rfl, ul235_0, ge235_0⟩ := k103_openF hMe235
  have hv235_0 := hcc235 0 _ rfl
  rw [Nat.add_zero] at hv235_0
  replace hv235_0 := Option.some.inj (hv235_0.symm.trans hx235_0)
  injection hv235_0 with hva_ hvn_ hvc_
  rw [hva_] at ge235_0
  rw [hvc_] at ul235_0
  have HL235_0 := ak (show Kd.V (Kd.int .i64) 3 _ w0.heap.size _ _ ((rd_T103 x6_1 (ji38)).f0) from Kd.V_mk ul235_0 ge235_0)
  clear hva_ hvn_ hvc_ ge235_0 ul235_0
  clear hcc235 hce235
  have HR235_0 := ak hi235_0
  have HC235_0 := ak hl235_0
  clear hi235_0 hl235_0
  replace p235 := eq_true p235
  replace q235 := eq_true q235
  refine start_ (n := 31) (S := fun w' => w'.cell? ⟨gb233, 0, none⟩ = some (.int .i64 ((rd_T58 l0_1 x15_1).f0)) ∧ w'.cell? ⟨gb233, 1, none⟩ = some (.int .i64 ((rd_T58 l0_1 x15_1).f1)) ∧ w'.cell? ⟨gb233, 2, none⟩ = some (.int .i64 ((rd_T58 l0_1 x15_1).f2)) ∧ w'.cell? ⟨gb233, 3, none⟩ = some (.int .i64 ((rd_T58 l0_1 x15_1).f3)) ∧ w'.cell? ⟨gb233, 4, none⟩ = some (.int .i64 ((rd_T58 l0_1 x15_1).f4)) ∧ w'.cell? ⟨gb222, 0, none⟩ = some (.slice A5_0 l5_0.length c5_0) ∧ w'.cell? ⟨gb222, 1, none⟩ = some (.int .i64 a5_1) ∧ w'.cell? (ad234.add (((rd_T58 l0_1 x15_1).f1)).toNat) = some (.bool false) ∧ w'.cell? (ad235.add (((ji38)).toNat * 2)) = some (.slice A235_0 ((rd_T103 x6_1 (ji38)).f0).length c235_0) ∧ w'.cell? ⟨(ad235.add (((ji38)).toNat * 2)).block, (ad235.add (((ji38)).toNat * 2)).off + 1, none⟩ = some (.int .i64 ((rd_T103 x6_1 (ji38)).f1))) (ds := []) (ms 31 0) (by kernel_rfl) rfl (by kernel_rfl) ⟨(blk_cell BK233.out 0).trans rfl, (blk_cell BK233.out 1).trans rfl, (blk_cell BK233.out 2).trans rfl, (blk_cell BK233.out 3).trans rfl, (blk_cell BK233.out 4).trans rfl, (blk_cell BK222.out 0).trans rfl, (blk_cell BK222.out 1).trans rfl, hx234_0, hx235_0, hx235_1⟩ (fun hHeld => ?_); refine with_tabW spec_l14Go.tab7 spec_l14Go.bits7 (fun HT_ HW_ => ?_)
  generalize w63.drew = w64 at HO_4 HO_6 BK221 BK222 BK233 HK HB HL235_0 HR235_0 hx234_0 hx235_0 hx235_1 hHeld ⊢
  refine pu 0 42 ?_ (ms 31 1) rfl rfl HT_ (by kernel_rfl) (fun _ _ _ h => h) (by rfl) ?_ ?_ ?_ ?_
  rotate_left
  ·intro w'
   go_simp
   with_reducible rfl
  rotate_left
  ·simp only [SX]
   rfl
  refine pu 2 44 ?_ (ms 31 5) rfl rfl HT_ (by kernel_rfl) (fun _ _ _ h => h) (by rfl) ?_ ?_ ?_ ?_
  rotate_left
  ·intro w'
   go_simp
   with_reducible rfl
  rotate_left
  ·simp only [SX]
   rfl
  refine tk 1 43 ?_ (ms 31 7) rfl rfl HT_ HW_ (by kernel_rfl) (fun _ _ _ h => h) (by rfl) ?_ hHeld ?_ ?_ ?_
  rotate_left
  ·rintro w' ⟨s0, s1, s2, s3, s4, s5, s6, s7, s8, s9⟩
   go_simp
   with_reducible rfl
  rotate_left
  ·simp only [SX]
   rfl
  refine pu 3 45 ?_ (ms 31 15) rfl rfl HT_ (by kernel_rfl) (fun _ _ _ h => h) (by rfl) ?_ ?_ ?_ ?_
  rotate_left
  ·intro w'
   go_simp
   with_reducible rfl
  rotate_left
  ·simp only [SX]
   rfl
  refine pu 4 46 ?_ (ms 31 31) rfl rfl HT_ (by kernel_rfl) (fun _ _ _ h => h) (by rfl) ?_ ?_ ?_ ?_
  rotate_left
  ·intro w'
   go_simp
   with_reducible rfl
  rotate_left
  ·simp only [SX]
   rfl
  refine pu 5 47 ?_ (ms 31 63) rfl rfl HT_ (by kernel_rfl) (fun _ _ _ h => h) (by rfl) ?_ ?_ ?_ ?_
  rotate_left
  ·intro w'
   go_simp
   with_reducible rfl
  rotate_left
  ·simp only [SX]
   rfl
  refine pu 6 48 ?_ (ms 31 127) rfl rfl HT_ (by kernel_rfl) (fun _ _ _ h => h) (by rfl) ?_ ?_ ?_ ?_
  rotate_left
  ·intro w'
   go_simp
   with_reducible rfl
  rotate_left
  ·simp only [SX]
   rfl
  refine tk 7 49 ?_ (ms 31 255) rfl rfl HT_ HW_ (by kernel_rfl) (fun _ _ _ h => h) (by rfl) ?_ hHeld ?_ ?_ ?_
  rotate_left
  ·rintro w' ⟨s0, s1, s2, s3, s4, s5, s6, s7, s8, s9⟩
   go_simp
   with_reducible rfl
  rotate_left
  ·simp only [SX]
   rfl
  refine pu 8 50 ?_ (ms 31 511) rfl rfl HT_ (by kernel_rfl) (fun _ _ _ h => h) (by rfl) ?_ ?_ ?_ ?_
  rotate_left
  ·intro w'
   go_simp
   with_reducible rfl
  rotate_left
  ·simp only [SX]
   rfl
  refine tk 9 51 ?_ (ms 31 1023) rfl rfl HT_ HW_ (by kernel_rfl) (fun _ _ _ h => h) (by rfl) ?_ hHeld ?_ ?_ ?_
  rotate_left
  ·rintro w' ⟨s0, s1, s2, s3, s4, s5, s6, s7, s8, s9⟩
   go_simp
   with_reducible rfl
  rotate_left
  ·simp only [SX]
   rfl
  refine pu 10 52 ?_ (ms 31 2047) rfl rfl HT_ (by kernel_rfl) (fun _ _ _ h => h) (by rfl) ?_ ?_ ?_ ?_
  rotate_left
  ·intro w'
   go_simp
   with_reducible rfl
  rotate_left
  ·simp only [SX]
   rfl
  refine pu 11 53 ?_ (ms 31 4095) rfl rfl HT_ (by kernel_rfl) (fun _ _ _ h => h) (by rfl) ?_ ?_ ?_ ?_
  rotate_left
  ·intro w'
   go_simp
   with_reducible rfl
  rotate_left
  ·simp only [SX]
   rfl
  refine pu 12 54 ?_ (ms 31 8191) rfl rfl HT_ (by kernel_rfl) (fun _ _ _ h => h) (by rfl) ?_ ?_ ?_ ?_
  rotate_left
  ·intro w'
   go_simp
   with_reducible rfl
  rotate_left
  ·simp only [SX]
   rfl
  refine pu 13 55 ?_ (ms 31 16383) rfl rfl HT_ (by kernel_rfl) (fun _ _ _ h => h) (by rfl) ?_ ?_ ?_ ?_
  rotate_left
  ·intro w'
   go_simp
   with_reducible rfl
  rotate_left
  ·simp only [SX]
   rfl
  refine pu 14 56 ?_ (ms 31 32767) rfl rfl HT_ (by kernel_rfl) (fun _ _ _ h => h) (by rfl) ?_ ?_ ?_ ?_
  rotate_left
  ·intro w'
   go_simp
   with_reducible rfl
  rotate_left
  ·simp only [SX]
   rfl
  refine pu 15 57 ?_ (ms 31 65535) rfl rfl HT_ (by kernel_rfl) (fun _ _ _ h => h) (by rfl) ?_ ?_ ?_ ?_
  rotate_left
  ·intro w'
   go_simp
   with_reducible rfl
  rotate_left
  ·simp only [SX]
   rfl
  refine pu 16 58 ?_ (ms 31 131071) rfl rfl HT_ (by kernel_rfl) (fun _ _ _ h => h) (by rfl) ?_ ?_ ?_ ?_
  rotate_left
  ·intro w'
   go_simp
   with_reducible rfl
  rotate_left
  ·simp only [SX]
   rfl
  refine pu 17 59 ?_ (ms 31 262143) rfl rfl HT_ (by kernel_rfl) (fun _ _ _ h => h) (by rfl) ?_ ?_ ?_ ?_
  rotate_left
  ·intro w'
   go_simp
   with_reducible rfl
  rotate_left
  ·simp only [SX]
   rfl
  refine pu 19 61 ?_ (ms 31 786431) rfl rfl HT_ (by kernel_rfl) (fun _ _ _ h => h) (by rfl) ?_ ?_ ?_ ?_
  rotate_left
  ·intro w'
   go_simp
   with_reducible rfl
  rotate_left
  ·simp only [SX]
   rfl
  refine pu 22 64 ?_ (ms 31 4980735) rfl rfl HT_ (by kernel_rfl) (fun _ _ _ h => h) (by rfl) ?_ ?_ ?_ ?_
  rotate_left
  ·intro w'
   go_simp
   with_reducible rfl
  rotate_left
  ·simp only [SX]
   rfl
  refine pu 23 65 ?_ (ms 31 13369343) rfl rfl HT_ (by kernel_rfl) (fun _ _ _ h => h) (by rfl) ?_ ?_ ?_ ?_
  rotate_left
  ·intro w'
   go_simp
   with_reducible rfl
  rotate_left
  ·simp only [SX]
   rfl
  refine pu 24 66 ?_ (ms 31 30146559) rfl rfl HT_ (by kernel_rfl) (fun _ _ _ h => h) (by rfl) ?_ ?_ ?_ ?_
  rotate_left
  ·intro w'
   go_simp
   with_reducible rfl
  rotate_left
  ·simp only [SX]
   rfl
  refine pu 25 67 ?_ (ms 31 63700991) rfl rfl HT_ (by kernel_rfl) (fun _ _ _ h => h) (by rfl) ?_ ?_ ?_ ?_
  rotate_left
  ·intro w'
   go_simp
   with_reducible rfl
  rotate_left
  ·simp only [SX]
   rfl
  refine pu 26 68 ?_ (ms 31 130809855) rfl rfl HT_ (by kernel_rfl) (fun _ _ _ h => h) (by rfl) ?_ ?_ ?_ ?_
  rotate_left
  ·intro w'
   go_simp
   with_reducible rfl
  rotate_left
  ·simp only [SX]
   rfl
  refine tk 18 60 ?_ (ms 31 131071999) rfl rfl HT_ HW_ (by kernel_rfl) (fun _ _ _ h => h) (by rfl) ?_ hHeld ?_ ?_ ?_
  rotate_left
  ·rintro w' ⟨s0, s1, s2, s3, s4, s5, s6, s7, s8, s9⟩
   go_simp
   with_reducible rfl
  rotate_left
  ·simp only [SX]
   rfl
  refine tk 20 62 ?_ (ms 31 132120575) rfl rfl HT_ HW_ (by kernel_rfl) (fun _ _ _ h => h) (by rfl) ?_ hHeld ?_ ?_ ?_
  rotate_left
  ·rintro w' ⟨s0, s1, s2, s3, s4, s5, s6, s7, s8, s9⟩
   go_simp
   with_reducible rfl
  rotate_left
  ·simp only [SX]
   rfl
  refine pu 21 63 ?_ (ms 31 134217727) rfl rfl HT_ (by kernel_rfl) (fun _ _ _ h => h) (by rfl) ?_ ?_ ?_ ?_
  rotate_left
  ·intro w'
   go_simp
   with_reducible rfl
  rotate_left
  ·simp only [SX]
   rfl
  refine tk 27 69 ?_ (ms 31 268435455) rfl rfl HT_ HW_ (by kernel_rfl) (fun _ _ _ h => h) (by rfl) ?_ hHeld ?_ ?_ ?_
  rotate_left
  ·rintro w' ⟨s0, s1, s2, s3, s4, s5, s6, s7, s8, s9⟩
   go_simp
   with_reducible rfl
  rotate_left
  ·simp only [SX]
   rfl
  refine pu 28 70 ?_ (ms 31 536870911) rfl rfl HT_ (by kernel_rfl) (fun _ _ _ h => h) (by rfl) ?_ ?_ ?_ ?_
  rotate_left
  ·intro w'
   go_simp
   with_reducible rfl
  rotate_left
  ·simp only [SX]
   rfl
  refine pu 29 71 ?_ (ms 31 1073741823) rfl rfl HT_ (by kernel_rfl) (fun _ _ _ h => h) (by rfl) ?_ ?_ ?_ ?_
  rotate_left
  ·intro w'
   go_simp
   with_reducible rfl
  rotate_left
  ·simp only [SX]
   rfl
  refine pu 30 72 ?_ (ms 31 2147483647) rfl rfl HT_ (by kernel_rfl) (fun _ _ _ h => h) (by rfl) ?_ ?_ ?_ ?_
  rotate_left
  ·intro w'
   go_simp
   with_reducible rfl
  rotate_left
  ·simp only [SX]
   rfl
  refine done_ (done_of HT_.out (by kernel_rfl)) ?_
  have hcz67_0 := bc w64 BK233 0 (.int .i64 ((rd_T58 l0_1 x15_1).f0)) rfl
  have hcz67_1 := bc w64 BK233 1 (.int .i64 ((rd_T58 l0_1 x15_1).f1)) rfl
  have hcz67_2 := bc w64 BK233 2 (.int .i64 ((rd_T58 l0_1 x15_1).f2)) rfl
  have hcz67_3 := bc w64 BK233 3 (.int .i64 ((rd_T58 l0_1 x15_1).f3)) rfl
  have hcz67_4 := bc w64 BK233 4 (.int .i64 ((rd_T58 l0_1 x15_1).f4)) rfl
  have hfz67_0 := fz BK233 0
  have hfz67_1 := fz BK233 1
  have hfz67_2 := fz BK233 2
  have hfz67_3 := fz BK233 3
  have hfz67_4 := fz BK233 4
  have p52 : 0 ≤ (((rd_T58 l0_1 x15_1).f1) : Int) := oT (by first | (with_reducible assumption) | assumption)
  have q52 : (((rd_T58 l0_1 x15_1).f1) : Int) < ((x4_1.length : Int) : Int) := oT (by first | (with_reducible assumption) | assumption)
  obtain ⟨go52, co52, eo52, gb52, gl52, cl52, HG52⟩ := Kd.R_form HO_4.out (by omega)
  (first | cases eo52 | (injection eo52 with ea_ en_ ec_; (first | subst ea_ | (injection ea_ with ea_; subst ea_)); subst ec_; clear en_))
  have GB52 := ak gb52
  have GG52 := ak HG52
  clear gb52 gl52 HG52
  have HMgo52 := ak (show (P4_ go52 ∨ w.heap.size ≤ go52) from (HO_4.out.1 _ rfl))
  (first | simp only [add_plain] at hx234_0 | skip)
  obtain ⟨hx52_0, hf52_0⟩ := Kd.R_celln false HO_4.out (((rd_T58 l0_1 x15_1).f1) : Int) p52 q52
  replace p52 := eq_true p52
  replace q52 := eq_true q52
  obtain ⟨hy68_, hz68_⟩ := Kd.R_celln false HO_4.out (((rd_T58 l0_1 x15_1).f1) : Int) (oT (by first | (with_reducible assumption) | assumption)) (oT (by first | (with_reducible assumption) | assumption))
  have HP68 := Kd.R_putg HO_4.out (((rd_T58 l0_1 x15_1).f1) : Int) true
  try go_wp2_with (first | ((with_reducible refine gate_store (t := 4) (p := 76) rfl ?_); refine store_event (t := 4) (p := 76) (v := ?vo_w69) (w1 := (w64.setCell ⟨go52, (((rd_T58 l0_1 x15_1).f1) : Int).toNat, none⟩ (.bool true))) ?hg ?ho ?hn ?hr ?_; (case ho => rfl); (case hg => rfl); (case hn => rfl); (case hr => first | (go_simp; done) | (go_simp; rfl)); intro w69 hw; have hg : w64.grownBy w69 (some go52) := (by rw [hw]; exact HP68.2); have hp_ : Kd.R Kd.bool 4 w69 w0.heap.size (fun k_ => (P4_ k_ ∨ w.heap.size ≤ k_)) (.slice (some ⟨go52, 0, none⟩) x4_1.length co65) y236 := (by rw [hw, Ny236.out]; exact HP68.1); clear HP68; replace HO_6 := ak (Kd.V_afterv (v := (.slice (some ⟨go52, 0, none⟩) x4_1.length co65)) (v1 := (.slice (some ⟨go52, 0, none⟩) x4_1.length co65)) (ok := (fun k_ => ((P4_ k_ ∨ P6_ k_) ∨ w.heap.size ≤ k_) ∧ k_ ≠ gb221 ∧ k_ ≠ gb222 ∧ k_ ≠ gb233)) (by (with_reducible repeat (first | apply Kd.V_alloc | apply Kd.V_drewN | apply Kd.V_drew)); exact Kd.V_mono HO_6.out (fun _ hk => ⟨⟨hk.1, ⟨hk.2.2.1, ⟨hk.2.2.2.1, hk.2.2.2.2⟩⟩⟩, hk.2.1⟩)) hg (.inl rfl)); replace BK221 := ak (blk_grown (bk BK221) hg (Kd.R_ne HO_4.out BK221.out (by decide))); replace BK222 := ak (blk_grown (bk BK222) hg (Kd.R_ne HO_4.out BK222.out (by decide))); replace BK233 := ak (blk_grown (bk BK233) hg (Kd.R_ne HO_4.out BK233.out (by decide))); replace HL235_0 := ak (Kd.V_afterv (v := (.slice (some ⟨go52, 0, none⟩) x4_1.length co65)) (v1 := (.slice (some ⟨go52, 0, none⟩) x4_1.length co65)) (ok := (fun k_ => ((P4_ k_ ∨ P6_ k_) ∨ w.heap.size ≤ k_) ∧ k_ ≠ gb221 ∧ k_ ≠ gb222 ∧ k_ ≠ gb233)) (by (with_reducible repeat (first | apply Kd.V_alloc | apply Kd.V_drewN | apply Kd.V_drew)); exact Kd.V_mono HL235_0.out (fun _ hk => ⟨⟨hk.1, ⟨hk.2.2.1, ⟨hk.2.2.2.1, hk.2.2.2.2⟩⟩⟩, hk.2.1⟩)) hg (.inl rfl)); replace HB := ak ((by rw [hw]; exact below_set (HB.out) GB52.out : Below w0.heap.size w0 w69)); replace HK := ak (Kept.of_grown (S := (fun k_ => P4_ k_)) hg (by repeat (first | (with_reducible first | exact HK.out | apply Kept.alloc | apply Kept.drewN | apply Kept.drew | refine Kept.setCell ?_ (.inr GW221.out) _ | refine Kept.setCell ?_ (.inr GW222.out) _ | refine Kept.setCell ?_ (.inr GW233.out) _) | exact HK.out)) (fun k_ e_ => (HO_4.out.1 k_ e_))); replace HO_4 := ak (hp_); clear hg hw hp_))
  replace HO_4 := ak (Kd.R_drew HO_4.out)
  replace HO_6 := ak (Kd.V_drew HO_6.out)
  replace HL235_0 := ak (Kd.V_drew HL235_0.out)
  replace BK221 := ak (blk_drew BK221.out)
  replace BK222 := ak (blk_drew BK222.out)
  replace BK233 := ak (blk_drew BK233.out)
  replace HK := ak (Kept.drew HK.out)
  replace HB := ak (below_drew1 HB.out)
  refine start_ (n := 22) (S := fun w' => w'.cell? ⟨gb221, 0, none⟩ = some (.int .i64 a0_0) ∧ w'.cell? ⟨gb221, 1, none⟩ = some (.slice (some ad232) l0_1.length c0_1) ∧ w'.cell? ⟨gb233, 0, none⟩ = some (.int .i64 ((rd_T58 l0_1 x15_1).f0)) ∧ w'.cell? ⟨gb233, 1, none⟩ = some (.int .i64 ((rd_T58 l0_1 x15_1).f1)) ∧ w'.cell? ⟨gb233, 2, none⟩ = some (.int .i64 ((rd_T58 l0_1 x15_1).f2)) ∧ w'.cell? ⟨gb233, 3, none⟩ = some (.int .i64 ((rd_T58 l0_1 x15_1).f3)) ∧ w'.cell? ⟨gb233, 4, none⟩ = some (.int .i64 ((rd_T58 l0_1 x15_1).f4)) ∧ w'.cell? ⟨gb222, 0, none⟩ = some (.slice A5_0 l5_0.length c5_0) ∧ w'.cell? ⟨gb222, 1, none⟩ = some (.int .i64 a5_1)) (ds := []) (ms 22 0) (by kernel_rfl) rfl (by kernel_rfl) ⟨(blk_cell BK221.out 0).trans rfl, (blk_cell BK221.out 1).trans rfl, (blk_cell BK233.out 0).trans rfl, (blk_cell BK233.out 1).trans rfl, (blk_cell BK233.out 2).trans rfl, (blk_cell BK233.out 3).trans rfl, (blk_cell BK233.out 4).trans rfl, (blk_cell BK222.out 0).trans rfl, (blk_cell BK222.out 1).trans rfl⟩ (fun hHeld => ?_); refine with_tabW spec_l14Go.tab9 spec_l14Go.bits9 (fun HT_ HW_ => ?_)
  generalize w69.drew = w70 at HO_4 HO_6 HL235_0 BK221 BK222 BK233 HK HB hHeld ⊢
  refine pu 1 78 ?_ (ms 22 2) rfl rfl HT_ (by kernel_rfl) (fun _ _ _ h => h) (by rfl) ?_ ?_ ?_ ?_
  rotate_left
  ·intro w'
   go_simp
   with_reducible rfl
  rotate_left
  ·simp only [SX]
   rfl
  refine pu 2 79 ?_ (ms 22 6) rfl rfl HT_ (by kernel_rfl) (fun _ _ _ h => h) (by rfl) ?_ ?_ ?_ ?_
  rotate_left
  ·intro w'
   go_simp
   with_reducible rfl
  rotate_left
  ·simp only [SX]
   rfl
  refine pu 3 80 ?_ (ms 22 14) rfl rfl HT_ (by kernel_rfl) (fun _ _ _ h => h) (by rfl) ?_ ?_ ?_ ?_
  rotate_left
  ·intro w'
   go_simp
   with_reducible rfl
  rotate_left
  ·simp only [SX]
   rfl
  refine pu 5 82 ?_ (ms 22 46) rfl rfl HT_ (by kernel_rfl) (fun _ _ _ h => h) (by rfl) ?_ ?_ ?_ ?_
  rotate_left
  ·intro w'
   go_simp
   with_reducible rfl
  rotate_left
  ·simp only [SX]
   rfl
  refine pu 7 84 ?_ (ms 22 174) rfl rfl HT_ (by kernel_rfl) (fun _ _ _ h => h) (by rfl) ?_ ?_ ?_ ?_
  rotate_left
  ·intro w'
   go_simp
   with_reducible rfl
  rotate_left
  ·simp only [SX]
   rfl
  refine pu 10 87 ?_ (ms 22 1198) rfl rfl HT_ (by kernel_rfl) (fun _ _ _ h => h) (by rfl) ?_ ?_ ?_ ?_
  rotate_left
  ·intro w'
   go_simp
   with_reducible rfl
  rotate_left
  ·simp only [SX]
   rfl
  refine pu 13 90 ?_ (ms 22 9390) rfl rfl HT_ (by kernel_rfl) (fun _ _ _ h => h) (by rfl) ?_ ?_ ?_ ?_
  rotate_left
  ·intro w'
   go_simp
   with_reducible rfl
  rotate_left
  ·simp only [SX]
   rfl
  refine pu 15 92 ?_ (ms 22 42158) rfl rfl HT_ (by kernel_rfl) (fun _ _ _ h => h) (by rfl) ?_ ?_ ?_ ?_
  rotate_left
  ·intro w'
   go_simp
   with_reducible rfl
  rotate_left
  ·simp only [SX]
   rfl
  refine pu 19 96 ?_ (ms 22 566446) rfl rfl HT_ (by kernel_rfl) (fun _ _ _ h => h) (by rfl) ?_ ?_ ?_ ?_
  rotate_left
  ·intro w'
   go_simp
   with_reducible rfl
  rotate_left
  ·simp only [SX]
   rfl
  refine tk 0 77 ?_ (ms 22 566447) rfl rfl HT_ HW_ (by kernel_rfl) (fun _ _ _ h => h) (by rfl) ?_ hHeld ?_ ?_ ?_
  rotate_left
  ·rintro w' ⟨s0, s1, s2, s3, s4, s5, s6, s7, s8⟩
   go_simp
   with_reducible rfl
  rotate_left
  ·simp only [SX]
   rfl
  refine tk 4 81 ?_ (ms 22 566463) rfl rfl HT_ HW_ (by kernel_rfl) (fun _ _ _ h => h) (by rfl) ?_ hHeld ?_ ?_ ?_
  rotate_left
  ·rintro w' ⟨s0, s1, s2, s3, s4, s5, s6, s7, s8⟩
   go_simp
   with_reducible rfl
  rotate_left
  ·simp only [SX]
   rfl
  refine tk 8 85 ?_ (ms 22 566719) rfl rfl HT_ HW_ (by kernel_rfl) (fun _ _ _ h => h) (by rfl) ?_ hHeld ?_ ?_ ?_
  rotate_left
  ·rintro w' ⟨s0, s1, s2, s3, s4, s5, s6, s7, s8⟩
   go_simp
   with_reducible rfl
  rotate_left
  ·simp only [SX]
   rfl
  refine tk 14 91 ?_ (ms 22 583103) rfl rfl HT_ HW_ (by kernel_rfl) (fun _ _ _ h => h) (by rfl) ?_ hHeld ?_ ?_ ?_
  rotate_left
  ·rintro w' ⟨s0, s1, s2, s3, s4, s5, s6, s7, s8⟩
   go_simp
   with_reducible rfl
  rotate_left
  ·simp only [SX]
   rfl
  refine tk 16 93 ?_ (ms 22 648639) rfl rfl HT_ HW_ (by kernel_rfl) (fun _ _ _ h => h) (by rfl) ?_ hHeld ?_ ?_ ?_
  rotate_left
  ·rintro w' ⟨s0, s1, s2, s3, s4, s5, s6, s7, s8⟩
   go_simp
   with_reducible rfl
  rotate_left
  ·simp only [SX]
   rfl
  refine pu 17 94 ?_ (ms 22 779711) rfl rfl HT_ (by kernel_rfl) (fun _ _ _ h => h) (by rfl) ?_ ?_ ?_ ?_
  rotate_left
  ·intro w'
   go_simp
   with_reducible rfl
  rotate_left
  ·simp only [SX]
   rfl
  refine join_ (σ := Value × Value × Value) 4 (ms 22 782335) (fun s_ => [(83, s_.1), (86, s_.2.1), (88, s_.2.2)]) (fun s_ w' => (w'.cell? ⟨gb221, 0, none⟩ = some (.int .i64 a0_0) ∧ w'.cell? ⟨gb221, 1, none⟩ = some (.slice (some ad232) l0_1.length c0_1) ∧ w'.cell? ⟨gb233, 0, none⟩ = some (.int .i64 ((rd_T58 l0_1 x15_1).f0)) ∧ w'.cell? ⟨gb233, 1, none⟩ = some (.int .i64 ((rd_T58 l0_1 x15_1).f1)) ∧ w'.cell? ⟨gb233, 2, none⟩ = some (.int .i64 ((rd_T58 l0_1 x15_1).f2)) ∧ w'.cell? ⟨gb233, 3, none⟩ = some (.int .i64 ((rd_T58 l0_1 x15_1).f3)) ∧ w'.cell? ⟨gb233, 4, none⟩ = some (.int .i64 ((rd_T58 l0_1 x15_1).f4)) ∧ w'.cell? ⟨gb222, 0, none⟩ = some (.slice A5_0 l5_0.length c5_0) ∧ w'.cell? ⟨gb222, 1, none⟩ = some (.int .i64 a5_1)) ∧ (Kd.V (Kd.int .i64) 3 w' w0.heap.size (fun k_ => ((P4_ k_ ∨ P6_ k_) ∨ w.heap.size ≤ k_) ∧ some k_ ≠ (s_.2.1 : Value).ownBlock ∧ some k_ ≠ (s_.2.2 : Value).ownBlock ∧ some k_ ≠ (.slice (some ⟨go52, 0, none⟩) x4_1.length co65 : Value).ownBlock ∧ k_ ≠ gb221 ∧ k_ ≠ gb222 ∧ k_ ≠ gb233) (.slice A235_0 ((rd_T103 x6_1 (ji38)).f0).length c235_0) ((rd_T103 x6_1 (ji38)).f0)) ∧ (Kd.R (Kd.int .i64) 3 w' w0.heap.size (fun k_ => (P4_ k_ ∨ w.heap.size ≤ k_) ∧ some k_ ≠ (s_.2.2 : Value).ownBlock) s_.2.1 y240) ∧ (Kd.R (Kd.int .i64) 3 w' w0.heap.size (fun k_ => (P4_ k_ ∨ w.heap.size ≤ k_) ∧ some k_ ≠ (s_.2.1 : Value).ownBlock) s_.2.2 y243) ∧ (Kd.R Kd.bool 4 w' w0.heap.size (fun k_ => (P4_ k_ ∨ w.heap.size ≤ k_)) (.slice (some ⟨go52, 0, none⟩) x4_1.length co65) y236) ∧ (Kd.V k103 103 w' w0.heap.size (fun k_ => ((P4_ k_ ∨ P6_ k_) ∨ w.heap.size ≤ k_) ∧ some k_ ≠ (s_.2.1 : Value).ownBlock ∧ some k_ ≠ (s_.2.2 : Value).ownBlock ∧ some k_ ≠ (.slice (some ⟨go52, 0, none⟩) x4_1.length co65 : Value).ownBlock ∧ k_ ≠ gb221 ∧ k_ ≠ gb222 ∧ k_ ≠ gb233) (.slice (some ad235) x6_1.length co66) x6_1) ∧ (w'.heap[gb221]? = some (.cells #[.int .i64 a0_0, .slice (some ad232) l0_1.length c0_1] 25 (0, 0))) ∧ (w'.heap[gb222]? = some (.cells #[.slice A5_0 l5_0.length c5_0, .int .i64 a5_1] 103 (0, 0))) ∧ (w'.heap[gb233]? = some (.cells #[.int .i64 ((rd_T58 l0_1 x15_1).f0), .int .i64 ((rd_T58 l0_1 x15_1).f1), .int .i64 ((rd_T58 l0_1 x15_1).f2), .int .i64 ((rd_T58 l0_1 x15_1).f3), .int .i64 ((rd_T58 l0_1 x15_1).f4)] 58 (0, 0))) ∧ (Kept w w' (fun k_ => P4_ k_)) ∧ (Below w0.heap.size w0 w')) ?_ ?_
  rotate_left
  ·intro hCont
   refine two_ (i := 6) (j := 11) (Ni := some 83) (Nj := some 88) (ms 22 779775) (ms 22 781759) rfl rfl rfl rfl (two_of HT_.out (by kernel_rfl)) (by decide) (by decide) (fun K hK => ?_) (fun K hK => ?_)
   rotate_left
   ·skip
    refine Kd.R_lit_step (Kd.int .i64) _ 3 ?hg (N := 88) ?hd (xs := ([x15_1] : List Int)) (inner := [.int .i64 x15_1]) (ok := fun _ => True) (okp := fun _ => True) ?hr ?hp (fun _ hk => hk) trivial (Below.refl _ _) (Nat.le_refl _) (by simp) ?_; (case hd => rfl); (case hg => rfl); (case hr => first | (go_simp; done) | (go_simp; rfl)); (case hp => exact (Reps.one (show Kd.M (Kd.int .i64) _ _ _ x15_1 [.int .i64 x15_1] from rfl) (Reps.none _ _)))
    intro v244 w71 ho72 hb hg_ hnew_
    clear hg_ hnew_
    (first | rw [← Ny243.out] at ho72 | (simp only [Int.reduceToNat] at ho72; rw [← Ny243.out] at ho72))
    replace HO_4 := ak (Kd.R_below (rk HO_4) hb)
    replace HO_6 := ak (Kd.V_elder' (by (with_reducible repeat (first | apply Kd.V_alloc | apply Kd.V_drewN | apply Kd.V_drew)); exact HO_6.out) (Kd.R_base ho72) hb)
    replace HL235_0 := ak (Kd.V_elder' (by (with_reducible repeat (first | apply Kd.V_alloc | apply Kd.V_drewN | apply Kd.V_drew)); exact HL235_0.out) (Kd.R_base ho72) hb)
    have HO245 := ak (Kd.R_lower (Kd.R_newM (M := fun k_ => (P4_ k_ ∨ w.heap.size ≤ k_)) ho72 (by first | exact HK.out.1 | exact (show Kept w _ (fun k_ => P4_ k_) from by repeat (first | (with_reducible first | exact HK.out | apply Kept.alloc | apply Kept.drewN | apply Kept.drew | refine Kept.setCell ?_ (.inr GW221.out) _ | refine Kept.setCell ?_ (.inr GW222.out) _ | refine Kept.setCell ?_ (.inr GW233.out) _) | exact HK.out)).1) (fun k_ h_ => .inr h_)) (below_size (bl3 HB GE221 GE222 GE233)))
    replace BK221 := ak (blk_below (bk BK221) hb)
    replace BK222 := ak (blk_below (bk BK222) hb)
    replace BK233 := ak (blk_below (bk BK233) hb)
    replace HK := ak (Kept.below (S := (fun k_ => P4_ k_)) (by repeat (first | (with_reducible first | exact HK.out | apply Kept.alloc | apply Kept.drewN | apply Kept.drew | refine Kept.setCell ?_ (.inr GW221.out) _ | refine Kept.setCell ?_ (.inr GW222.out) _ | refine Kept.setCell ?_ (.inr GW233.out) _) | exact HK.out)) hb)
    replace HB := ak (below_step (bl3 HB GE221 GE222 GE233) hb)
    clear hb ho72
    refine hK.out _ _ ⟨(blk_cell BK221.out 0).trans rfl, (blk_cell BK221.out 1).trans rfl, (blk_cell BK233.out 0).trans rfl, (blk_cell BK233.out 1).trans rfl, (blk_cell BK233.out 2).trans rfl, (blk_cell BK233.out 3).trans rfl, (blk_cell BK233.out 4).trans rfl, (blk_cell BK222.out 0).trans rfl, (blk_cell BK222.out 1).trans rfl⟩ (fun hHeld => ?_)
    clear hK K
    refine norm_ (a' := ?_) ?_ ?_
    rotate_left
    ·show Act.put _ (some 88) _ = _
     simp only [SX]
     rfl
    refine one_ (i := 6) (N := some 83) (ms 22 781823) rfl rfl (one_of HT_.out (by kernel_rfl)) (by decide) (fun K hK => ?_)
    refine Kd.R_lit_step (Kd.int .i64) _ 3 ?hg (N := 83) ?hd (xs := ([] : List Int)) (inner := []) (ok := fun _ => True) (okp := fun _ => True) ?hr ?hp (fun _ hk => hk) trivial (Below.refl _ _) (Nat.le_refl _) (by simp) ?_; (case hd => rfl); (case hg => rfl); (case hr => first | (go_simp; done) | (go_simp; rfl)); (case hp => exact (Reps.none _ _))
    intro v238 w73 ho74 hb hg_ hnew_
    clear hg_ hnew_
    (first | rw [← Ny237.out] at ho74 | (simp only [Int.reduceToNat] at ho74; rw [← Ny237.out] at ho74))
    replace HO_4 := ak (Kd.R_below (rk HO_4) hb)
    replace HO_6 := ak (Kd.V_elder' (by (with_reducible repeat (first | apply Kd.V_alloc | apply Kd.V_drewN | apply Kd.V_drew)); exact HO_6.out) (Kd.R_base ho74) hb)
    replace HL235_0 := ak (Kd.V_elder' (by (with_reducible repeat (first | apply Kd.V_alloc | apply Kd.V_drewN | apply Kd.V_drew)); exact HL235_0.out) (Kd.R_base ho74) hb)
    have HO239 := ak (Kd.R_lower (Kd.R_new' (Kd.R_newM (M := fun k_ => (P4_ k_ ∨ w.heap.size ≤ k_)) ho74 (by first | exact HK.out.1 | exact (show Kept w _ (fun k_ => P4_ k_) from by repeat (first | (with_reducible first | exact HK.out | apply Kept.alloc | apply Kept.drewN | apply Kept.drew | refine Kept.setCell ?_ (.inr GW221.out) _ | refine Kept.setCell ?_ (.inr GW222.out) _ | refine Kept.setCell ?_ (.inr GW233.out) _) | exact HK.out)).1) (fun k_ h_ => .inr h_)) (Kd.R_lt (rk HO245))) (below_size (bl3 HB GE221 GE222 GE233)))
    replace HO245 := ak (Kd.R_elder' (rk HO245) (Kd.R_base ho74) hb)
    replace BK221 := ak (blk_below (bk BK221) hb)
    replace BK222 := ak (blk_below (bk BK222) hb)
    replace BK233 := ak (blk_below (bk BK233) hb)
    replace HK := ak (Kept.below (S := (fun k_ => P4_ k_)) (by repeat (first | (with_reducible first | exact HK.out | apply Kept.alloc | apply Kept.drewN | apply Kept.drew | refine Kept.setCell ?_ (.inr GW221.out) _ | refine Kept.setCell ?_ (.inr GW222.out) _ | refine Kept.setCell ?_ (.inr GW233.out) _) | exact HK.out)) hb)
    replace HB := ak (below_step (bl3 HB GE221 GE222 GE233) hb)
    clear hb ho74
    refine hK.out _ _ ⟨(blk_cell BK221.out 0).trans rfl, (blk_cell BK221.out 1).trans rfl, (blk_cell BK233.out 0).trans rfl, (blk_cell BK233.out 1).trans rfl, (blk_cell BK233.out 2).trans rfl, (blk_cell BK233.out 3).trans rfl, (blk_cell BK233.out 4).trans rfl, (blk_cell BK222.out 0).trans rfl, (blk_cell BK222.out 1).trans rfl⟩ (fun hHeld => ?_)
    clear hK K
    refine norm_ (a' := ?_) ?_ ?_
    rotate_left
    ·show Act.put _ (some 83) _ = _
     simp only [SX]
     rfl
    refine one_ (i := 9) (N := some 86) (ms 22 782335) rfl rfl (one_of HT_.out (by kernel_rfl)) (by decide) (fun K hK => ?_)
    refine Kd.R_append_rows_step (Kd.int .i64) (w0 := w0) w0.heap.size (by rfl) (.tmp 83) (.tmp 85) 33 3 (.int .i64 0) 8 rfl Try.underlying33 info3 rfl (by decide) (by omega) v238 y237 l5_0 _ _ _ (fun k_ => (P4_ k_ ∨ w.heap.size ≤ k_) ∧ some k_ ≠ (v244 : Value).ownBlock) (fun _ => False) rfl rfl ?aO ?aR (fun _ _ h => h) (fun _ h => h.elim) ?aF ?aB ?aS ?aL ?_
    (case aR => exact Kd.C_kept_now HR5_0.out (by repeat (first | (with_reducible first | exact HK.out | apply Kept.alloc | apply Kept.drewN | apply Kept.drew | refine Kept.setCell ?_ (.inr GW221.out) _ | refine Kept.setCell ?_ (.inr GW222.out) _ | refine Kept.setCell ?_ (.inr GW233.out) _) | exact HK.out)))
    (case aB => exact (bl3 HB GE221 GE222 GE233))
    (case aF => exact (fun k_ hk => ⟨(.inr (Nat.le_trans (by first | exact HK.out.1 | exact (show Kept w _ (fun k_ => P4_ k_) from by repeat (first | (with_reducible first | exact HK.out | apply Kept.alloc | apply Kept.drewN | apply Kept.drew | refine Kept.setCell ?_ (.inr GW221.out) _ | refine Kept.setCell ?_ (.inr GW222.out) _ | refine Kept.setCell ?_ (.inr GW233.out) _) | exact HK.out)).1) hk)), Kd.fresh' (Kd.R_lt (rk HO245)) k_ hk⟩))
    (case aO => exact (by (with_reducible repeat (first | apply Kd.R_alloc | apply Kd.R_drewN | apply Kd.R_drew)); exact Kd.R_mono HO239.out (fun _ hk => ⟨hk.1.1, hk.2⟩)))
    (case aS => exact (below_size (bl3 HB GE221 GE222 GE233)))
    (case aL => have := LMc53.out; omega)
    intro v241 w75 ho hb hg hat
    rw [← Ny240.out] at ho
    have n0_ := ak (Kd.R_over' (rk HO_4) (Kd.R_typed (rk HO239)) (by decide) hg)
    have n1_ := ak (Kd.V_afterv (ok := (fun k_ => ((P4_ k_ ∨ P6_ k_) ∨ w.heap.size ≤ k_) ∧ some k_ ≠ (.slice (some ⟨go52, 0, none⟩) x4_1.length co65 : Value).ownBlock ∧ some k_ ≠ (v244 : Value).ownBlock ∧ k_ ≠ gb221 ∧ k_ ≠ gb222 ∧ k_ ≠ gb233)) (by (with_reducible repeat (first | apply Kd.V_alloc | apply Kd.V_drewN | apply Kd.V_drew)); exact Kd.V_mono HO_6.out (fun _ hk => ⟨⟨hk.1.1.1.1, ⟨hk.1.1.2, ⟨hk.1.2, ⟨hk.1.1.1.2.1, ⟨hk.1.1.1.2.2.1, hk.1.1.1.2.2.2⟩⟩⟩⟩⟩, hk.2⟩)) hg hat)
    have n2_ := ak (blk_grown (bk BK221) hg (Kd.R_ne HO239.out BK221.out (by decide)))
    have n3_ := ak (blk_grown (bk BK222) hg (Kd.R_ne HO239.out BK222.out (by decide)))
    have n4_ := ak (blk_grown (bk BK233) hg (Kd.R_ne HO239.out BK233.out (by decide)))
    have n5_ := ak (Kd.V_afterv (ok := (fun k_ => ((P4_ k_ ∨ P6_ k_) ∨ w.heap.size ≤ k_) ∧ some k_ ≠ (.slice (some ⟨go52, 0, none⟩) x4_1.length co65 : Value).ownBlock ∧ some k_ ≠ (v244 : Value).ownBlock ∧ k_ ≠ gb221 ∧ k_ ≠ gb222 ∧ k_ ≠ gb233)) (by (with_reducible repeat (first | apply Kd.V_alloc | apply Kd.V_drewN | apply Kd.V_drew)); exact Kd.V_mono HL235_0.out (fun _ hk => ⟨⟨hk.1.1.1.1, ⟨hk.1.1.2, ⟨hk.1.2, ⟨hk.1.1.1.2.1, ⟨hk.1.1.1.2.2.1, hk.1.1.1.2.2.2⟩⟩⟩⟩⟩, hk.2⟩)) hg hat)
    have n6_ := ak (Kd.R_after (ok := (fun k_ => (P4_ k_ ∨ w.heap.size ≤ k_))) (by (with_reducible repeat (first | apply Kd.R_alloc | apply Kd.R_drewN | apply Kd.R_drew)); exact Kd.R_mono HO245.out (fun _ hk => ⟨hk.1.1, hk.2⟩)) hg hat)
    have n7_ := ak (hb)
    have n8_ := ak (Kept.of_grown (S := (fun k_ => P4_ k_)) hg (by repeat (first | (with_reducible first | exact HK.out | apply Kept.alloc | apply Kept.drewN | apply Kept.drew | refine Kept.setCell ?_ (.inr GW221.out) _ | refine Kept.setCell ?_ (.inr GW222.out) _ | refine Kept.setCell ?_ (.inr GW233.out) _) | exact HK.out)) (fun k_ e_ => (HO239.out.1 k_ e_).1.1))
    have n9_ := ak (ho)
    clear HO_4
    clear HO_6
    clear BK221
    clear BK222
    clear BK233
    clear HL235_0
    clear HO245
    clear HB
    clear HK
    clear HO239
    have HO_4 := n0_
    have HO_6 := n1_
    have BK221 := n2_
    have BK222 := n3_
    have BK233 := n4_
    have HL235_0 := n5_
    have HO245 := n6_
    have HB := n7_
    have HK := n8_
    have HO242 := n9_
    clear n0_ n1_ n2_ n3_ n4_ n5_ n6_ n7_ n8_ n9_
    clear ho hb hg hat
    refine hK.out _ _ ⟨(blk_cell BK221.out 0).trans rfl, (blk_cell BK221.out 1).trans rfl, (blk_cell BK233.out 0).trans rfl, (blk_cell BK233.out 1).trans rfl, (blk_cell BK233.out 2).trans rfl, (blk_cell BK233.out 3).trans rfl, (blk_cell BK233.out 4).trans rfl, (blk_cell BK222.out 0).trans rfl, (blk_cell BK222.out 1).trans rfl⟩ (fun hHeld => ?_)
    clear hK K
    refine norm_ (a' := ?_) ?_ ?_
    rotate_left
    ·show Act.put _ (some 86) _ = _
     simp only [SX]
     rfl
    exact norm_ (by simp only [putAll, Act.put, List.setIfInBounds_toArray, List.set_cons_zero, List.set_cons_succ]) (hCont (v238, v241, v244) _ ⟨hHeld, (by (with_reducible repeat (first | apply Kd.V_alloc | apply Kd.V_drewN | apply Kd.V_drew)); exact Kd.V_mono HL235_0.out (fun _ hk => ⟨hk.1.1, ⟨hk.2, ⟨hk.1.2.2.1, ⟨hk.1.2.1, ⟨hk.1.2.2.2.1, ⟨hk.1.2.2.2.2.1, hk.1.2.2.2.2.2⟩⟩⟩⟩⟩⟩)), (rk HO242), (rk HO245), (rk HO_4), (by (with_reducible repeat (first | apply Kd.V_alloc | apply Kd.V_drewN | apply Kd.V_drew)); exact Kd.V_mono HO_6.out (fun _ hk => ⟨hk.1.1, ⟨hk.2, ⟨hk.1.2.2.1, ⟨hk.1.2.1, ⟨hk.1.2.2.2.1, ⟨hk.1.2.2.2.2.1, hk.1.2.2.2.2.2⟩⟩⟩⟩⟩⟩)), (bk BK221), (bk BK222), (bk BK233), (by repeat (first | (with_reducible first | exact HK.out | apply Kept.alloc | apply Kept.drewN | apply Kept.drew | refine Kept.setCell ?_ (.inr GW221.out) _ | refine Kept.setCell ?_ (.inr GW222.out) _ | refine Kept.setCell ?_ (.inr GW233.out) _) | exact HK.out)), (bl3 HB GE221 GE222 GE233)⟩)
   skip
   refine Kd.R_lit_step (Kd.int .i64) _ 3 ?hg (N := 83) ?hd (xs := ([] : List Int)) (inner := []) (ok := fun _ => True) (okp := fun _ => True) ?hr ?hp (fun _ hk => hk) trivial (Below.refl _ _) (Nat.le_refl _) (by simp) ?_; (case hd => rfl); (case hg => rfl); (case hr => first | (go_simp; done) | (go_simp; rfl)); (case hp => exact (Reps.none _ _))
   intro v238 w71 ho72 hb hg_ hnew_
   clear hg_ hnew_
   (first | rw [← Ny237.out] at ho72 | (simp only [Int.reduceToNat] at ho72; rw [← Ny237.out] at ho72))
   replace HO_4 := ak (Kd.R_below (rk HO_4) hb)
   replace HO_6 := ak (Kd.V_elder' (by (with_reducible repeat (first | apply Kd.V_alloc | apply Kd.V_drewN | apply Kd.V_drew)); exact HO_6.out) (Kd.R_base ho72) hb)
   replace HL235_0 := ak (Kd.V_elder' (by (with_reducible repeat (first | apply Kd.V_alloc | apply Kd.V_drewN | apply Kd.V_drew)); exact HL235_0.out) (Kd.R_base ho72) hb)
   have HO239 := ak (Kd.R_lower (Kd.R_newM (M := fun k_ => (P4_ k_ ∨ w.heap.size ≤ k_)) ho72 (by first | exact HK.out.1 | exact (show Kept w _ (fun k_ => P4_ k_) from by repeat (first | (with_reducible first | exact HK.out | apply Kept.alloc | apply Kept.drewN | apply Kept.drew | refine Kept.setCell ?_ (.inr GW221.out) _ | refine Kept.setCell ?_ (.inr GW222.out) _ | refine Kept.setCell ?_ (.inr GW233.out) _) | exact HK.out)).1) (fun k_ h_ => .inr h_)) (below_size (bl3 HB GE221 GE222 GE233)))
   replace BK221 := ak (blk_below (bk BK221) hb)
   replace BK222 := ak (blk_below (bk BK222) hb)
   replace BK233 := ak (blk_below (bk BK233) hb)
   replace HK := ak (Kept.below (S := (fun k_ => P4_ k_)) (by repeat (first | (with_reducible first | exact HK.out | apply Kept.alloc | apply Kept.drewN | apply Kept.drew | refine Kept.setCell ?_ (.inr GW221.out) _ | refine Kept.setCell ?_ (.inr GW222.out) _ | refine Kept.setCell ?_ (.inr GW233.out) _) | exact HK.out)) hb)
   replace HB := ak (below_step (bl3 HB GE221 GE222 GE233) hb)
   clear hb ho72
   refine hK.out _ _ ⟨(blk_cell BK221.out 0).trans rfl, (blk_cell BK221.out 1).trans rfl, (blk_cell BK233.out 0).trans rfl, (blk_cell BK233.out 1).trans rfl, (blk_cell BK233.out 2).trans rfl, (blk_cell BK233.out 3).trans rfl, (blk_cell BK233.out 4).trans rfl, (blk_cell BK222.out 0).trans rfl, (blk_cell BK222.out 1).trans rfl⟩ (fun hHeld => ?_)
   clear hK K
   refine norm_ (a' := ?_) ?_ ?_
   rotate_left
   ·show Act.put _ (some 83) _ = _
    simp only [SX]
    rfl
   refine two_ (i := 9) (j := 11) (Ni := some 86) (Nj := some 88) (ms 22 780287) (ms 22 781823) rfl rfl rfl rfl (two_of HT_.out (by kernel_rfl)) (by decide) (by decide) (fun K hK => ?_) (fun K hK => ?_)
   ·skip
    refine Kd.R_append_rows_step (Kd.int .i64) (w0 := w0) w0.heap.size (by rfl) (.tmp 83) (.tmp 85) 33 3 (.int .i64 0) 8 rfl Try.underlying33 info3 rfl (by decide) (by omega) v238 y237 l5_0 _ _ _ (fun k_ => (P4_ k_ ∨ w.heap.size ≤ k_)) (fun _ => False) rfl rfl ?aO ?aR (fun _ _ h => h) (fun _ h => h.elim) ?aF ?aB ?aS ?aL ?_
    (case aR => exact Kd.C_kept_now HR5_0.out (by repeat (first | (with_reducible first | exact HK.out | apply Kept.alloc | apply Kept.drewN | apply Kept.drew | refine Kept.setCell ?_ (.inr GW221.out) _ | refine Kept.setCell ?_ (.inr GW222.out) _ | refine Kept.setCell ?_ (.inr GW233.out) _) | exact HK.out)))
    (case aB => exact (bl3 HB GE221 GE222 GE233))
    (case aF => exact (fun k_ hk => (.inr (Nat.le_trans (by first | exact HK.out.1 | exact (show Kept w _ (fun k_ => P4_ k_) from by repeat (first | (with_reducible first | exact HK.out | apply Kept.alloc | apply Kept.drewN | apply Kept.drew | refine Kept.setCell ?_ (.inr GW221.out) _ | refine Kept.setCell ?_ (.inr GW222.out) _ | refine Kept.setCell ?_ (.inr GW233.out) _) | exact HK.out)).1) hk))))
    (case aO => exact (by (with_reducible repeat (first | apply Kd.R_alloc | apply Kd.R_drewN | apply Kd.R_drew)); exact Kd.R_mono HO239.out (fun _ hk => hk.1)))
    (case aS => exact (below_size (bl3 HB GE221 GE222 GE233)))
    (case aL => have := LMc53.out; omega)
    intro v241 w73 ho hb hg hat
    rw [← Ny240.out] at ho
    have n0_ := ak (Kd.R_over' (rk HO_4) (Kd.R_typed (rk HO239)) (by decide) hg)
    have n1_ := ak (Kd.V_afterv (ok := (fun k_ => ((P4_ k_ ∨ P6_ k_) ∨ w.heap.size ≤ k_) ∧ some k_ ≠ (.slice (some ⟨go52, 0, none⟩) x4_1.length co65 : Value).ownBlock ∧ k_ ≠ gb221 ∧ k_ ≠ gb222 ∧ k_ ≠ gb233)) (by (with_reducible repeat (first | apply Kd.V_alloc | apply Kd.V_drewN | apply Kd.V_drew)); exact Kd.V_mono HO_6.out (fun _ hk => ⟨⟨hk.1.1.1, ⟨hk.1.2, ⟨hk.1.1.2.1, ⟨hk.1.1.2.2.1, hk.1.1.2.2.2⟩⟩⟩⟩, hk.2⟩)) hg hat)
    have n2_ := ak (blk_grown (bk BK221) hg (Kd.R_ne HO239.out BK221.out (by decide)))
    have n3_ := ak (blk_grown (bk BK222) hg (Kd.R_ne HO239.out BK222.out (by decide)))
    have n4_ := ak (blk_grown (bk BK233) hg (Kd.R_ne HO239.out BK233.out (by decide)))
    have n5_ := ak (Kd.V_afterv (ok := (fun k_ => ((P4_ k_ ∨ P6_ k_) ∨ w.heap.size ≤ k_) ∧ some k_ ≠ (.slice (some ⟨go52, 0, none⟩) x4_1.length co65 : Value).ownBlock ∧ k_ ≠ gb221 ∧ k_ ≠ gb222 ∧ k_ ≠ gb233)) (by (with_reducible repeat (first | apply Kd.V_alloc | apply Kd.V_drewN | apply Kd.V_drew)); exact Kd.V_mono HL235_0.out (fun _ hk => ⟨⟨hk.1.1.1, ⟨hk.1.2, ⟨hk.1.1.2.1, ⟨hk.1.1.2.2.1, hk.1.1.2.2.2⟩⟩⟩⟩, hk.2⟩)) hg hat)
    have n6_ := ak (hb)
    have n7_ := ak (Kept.of_grown (S := (fun k_ => P4_ k_)) hg (by repeat (first | (with_reducible first | exact HK.out | apply Kept.alloc | apply Kept.drewN | apply Kept.drew | refine Kept.setCell ?_ (.inr GW221.out) _ | refine Kept.setCell ?_ (.inr GW222.out) _ | refine Kept.setCell ?_ (.inr GW233.out) _) | exact HK.out)) (fun k_ e_ => (HO239.out.1 k_ e_).1))
    have n8_ := ak (ho)
    clear HO_4
    clear HO_6
    clear BK221
    clear BK222
    clear BK233
    clear HL235_0
    clear HB
    clear HK
    clear HO239
    have HO_4 := n0_
    have HO_6 := n1_
    have BK221 := n2_
    have BK222 := n3_
    have BK233 := n4_
    have HL235_0 := n5_
    have HB := n6_
    have HK := n7_
    have HO242 := n8_
    clear n0_ n1_ n2_ n3_ n4_ n5_ n6_ n7_ n8_
    clear ho hb hg hat
    refine hK.out _ _ ⟨(blk_cell BK221.out 0).trans rfl, (blk_cell BK221.out 1).trans rfl, (blk_cell BK233.out 0).trans rfl, (blk_cell BK233.out 1).trans rfl, (blk_cell BK233.out 2).trans rfl, (blk_cell BK233.out 3).trans rfl, (blk_cell BK233.out 4).trans rfl, (blk_cell BK222.out 0).trans rfl, (blk_cell BK222.out 1).trans rfl⟩ (fun hHeld => ?_)
    clear hK K
    refine norm_ (a' := ?_) ?_ ?_
    rotate_left
    ·show Act.put _ (some 86) _ = _
     simp only [SX]
     rfl
    refine one_ (i := 11) (N := some 88) (ms 22 782335) rfl rfl (one_of HT_.out (by kernel_rfl)) (by decide) (fun K hK => ?_)
    refine Kd.R_lit_step (Kd.int .i64) _ 3 ?hg (N := 88) ?hd (xs := ([x15_1] : List Int)) (inner := [.int .i64 x15_1]) (ok := fun _ => True) (okp := fun _ => True) ?hr ?hp (fun _ hk => hk) trivial (Below.refl _ _) (Nat.le_refl _) (by simp) ?_; (case hd => rfl); (case hg => rfl); (case hr => first | (go_simp; done) | (go_simp; rfl)); (case hp => exact (Reps.one (show Kd.M (Kd.int .i64) _ _ _ x15_1 [.int .i64 x15_1] from rfl) (Reps.none _ _)))
    intro v244 w74 ho75 hb hg_ hnew_
    clear hg_ hnew_
    (first | rw [← Ny243.out] at ho75 | (simp only [Int.reduceToNat] at ho75; rw [← Ny243.out] at ho75))
    replace HO_4 := ak (Kd.R_below (rk HO_4) hb)
    replace HO_6 := ak (Kd.V_elder' (by (with_reducible repeat (first | apply Kd.V_alloc | apply Kd.V_drewN | apply Kd.V_drew)); exact HO_6.out) (Kd.R_base ho75) hb)
    replace HL235_0 := ak (Kd.V_elder' (by (with_reducible repeat (first | apply Kd.V_alloc | apply Kd.V_drewN | apply Kd.V_drew)); exact HL235_0.out) (Kd.R_base ho75) hb)
    have HO245 := ak (Kd.R_lower (Kd.R_new' (Kd.R_newM (M := fun k_ => (P4_ k_ ∨ w.heap.size ≤ k_)) ho75 (by first | exact HK.out.1 | exact (show Kept w _ (fun k_ => P4_ k_) from by repeat (first | (with_reducible first | exact HK.out | apply Kept.alloc | apply Kept.drewN | apply Kept.drew | refine Kept.setCell ?_ (.inr GW221.out) _ | refine Kept.setCell ?_ (.inr GW222.out) _ | refine Kept.setCell ?_ (.inr GW233.out) _) | exact HK.out)).1) (fun k_ h_ => .inr h_)) (Kd.R_lt (rk HO242))) (below_size (bl3 HB GE221 GE222 GE233)))
    replace HO242 := ak (Kd.R_elder' (rk HO242) (Kd.R_base ho75) hb)
    replace BK221 := ak (blk_below (bk BK221) hb)
    replace BK222 := ak (blk_below (bk BK222) hb)
    replace BK233 := ak (blk_below (bk BK233) hb)
    replace HK := ak (Kept.below (S := (fun k_ => P4_ k_)) (by repeat (first | (with_reducible first | exact HK.out | apply Kept.alloc | apply Kept.drewN | apply Kept.drew | refine Kept.setCell ?_ (.inr GW221.out) _ | refine Kept.setCell ?_ (.inr GW222.out) _ | refine Kept.setCell ?_ (.inr GW233.out) _) | exact HK.out)) hb)
    replace HB := ak (below_step (bl3 HB GE221 GE222 GE233) hb)
    clear hb ho75
    refine hK.out _ _ ⟨(blk_cell BK221.out 0).trans rfl, (blk_cell BK221.out 1).trans rfl, (blk_cell BK233.out 0).trans rfl, (blk_cell BK233.out 1).trans rfl, (blk_cell BK233.out 2).trans rfl, (blk_cell BK233.out 3).trans rfl, (blk_cell BK233.out 4).trans rfl, (blk_cell BK222.out 0).trans rfl, (blk_cell BK222.out 1).trans rfl⟩ (fun hHeld => ?_)
    clear hK K
    refine norm_ (a' := ?_) ?_ ?_
    rotate_left
    ·show Act.put _ (some 88) _ = _
     simp only [SX]
     rfl
    exact norm_ (by simp only [putAll, Act.put, List.setIfInBounds_toArray, List.set_cons_zero, List.set_cons_succ]) (hCont (v238, v241, v244) _ ⟨hHeld, (by (with_reducible repeat (first | apply Kd.V_alloc | apply Kd.V_drewN | apply Kd.V_drew)); exact Kd.V_mono HL235_0.out (fun _ hk => ⟨hk.1.1.1, ⟨hk.1.2, ⟨hk.2, ⟨hk.1.1.2.1, ⟨hk.1.1.2.2.1, ⟨hk.1.1.2.2.2.1, hk.1.1.2.2.2.2⟩⟩⟩⟩⟩⟩)), (rk HO242), (by (with_reducible repeat (first | apply Kd.R_alloc | apply Kd.R_drewN | apply Kd.R_drew)); exact Kd.R_mono HO245.out (fun _ hk => ⟨hk.1.1, hk.2⟩)), (rk HO_4), (by (with_reducible repeat (first | apply Kd.V_alloc | apply Kd.V_drewN | apply Kd.V_drew)); exact Kd.V_mono HO_6.out (fun _ hk => ⟨hk.1.1.1, ⟨hk.1.2, ⟨hk.2, ⟨hk.1.1.2.1, ⟨hk.1.1.2.2.1, ⟨hk.1.1.2.2.2.1, hk.1.1.2.2.2.2⟩⟩⟩⟩⟩⟩)), (bk BK221), (bk BK222), (bk BK233), (by repeat (first | (with_reducible first | exact HK.out | apply Kept.alloc | apply Kept.drewN | apply Kept.drew | refine Kept.setCell ?_ (.inr GW221.out) _ | refine Kept.setCell ?_ (.inr GW222.out) _ | refine Kept.setCell ?_ (.inr GW233.out) _) | exact HK.out)), (bl3 HB GE221 GE222 GE233)⟩)
   skip
   refine Kd.R_lit_step (Kd.int .i64) _ 3 ?hg (N := 88) ?hd (xs := ([x15_1] : List Int)) (inner := [.int .i64 x15_1]) (ok := fun _ => True) (okp := fun _ => True) ?hr ?hp (fun _ hk => hk) trivial (Below.refl _ _) (Nat.le_refl _) (by simp) ?_; (case hd => rfl); (case hg => rfl); (case hr => first | (go_simp; done) | (go_simp; rfl)); (case hp => exact (Reps.one (show Kd.M (Kd.int .i64) _ _ _ x15_1 [.int .i64 x15_1] from rfl) (Reps.none _ _)))
   intro v244 w73 ho74 hb hg_ hnew_
   clear hg_ hnew_
   (first | rw [← Ny243.out] at ho74 | (simp only [Int.reduceToNat] at ho74; rw [← Ny243.out] at ho74))
   replace HO_4 := ak (Kd.R_below (rk HO_4) hb)
   replace HO_6 := ak (Kd.V_elder' (by (with_reducible repeat (first | apply Kd.V_alloc | apply Kd.V_drewN | apply Kd.V_drew)); exact HO_6.out) (Kd.R_base ho74) hb)
   replace HL235_0 := ak (Kd.V_elder' (by (with_reducible repeat (first | apply Kd.V_alloc | apply Kd.V_drewN | apply Kd.V_drew)); exact HL235_0.out) (Kd.R_base ho74) hb)
   have HO245 := ak (Kd.R_lower (Kd.R_new' (Kd.R_newM (M := fun k_ => (P4_ k_ ∨ w.heap.size ≤ k_)) ho74 (by first | exact HK.out.1 | exact (show Kept w _ (fun k_ => P4_ k_) from by repeat (first | (with_reducible first | exact HK.out | apply Kept.alloc | apply Kept.drewN | apply Kept.drew | refine Kept.setCell ?_ (.inr GW221.out) _ | refine Kept.setCell ?_ (.inr GW222.out) _ | refine Kept.setCell ?_ (.inr GW233.out) _) | exact HK.out)).1) (fun k_ h_ => .inr h_)) (Kd.R_lt (rk HO239))) (below_size (bl3 HB GE221 GE222 GE233)))
   replace HO239 := ak (Kd.R_elder' (rk HO239) (Kd.R_base ho74) hb)
   replace BK221 := ak (blk_below (bk BK221) hb)
   replace BK222 := ak (blk_below (bk BK222) hb)
   replace BK233 := ak (blk_below (bk BK233) hb)
   replace HK := ak (Kept.below (S := (fun k_ => P4_ k_)) (by repeat (first | (with_reducible first | exact HK.out | apply Kept.alloc | apply Kept.drewN | apply Kept.drew | refine Kept.setCell ?_ (.inr GW221.out) _ | refine Kept.setCell ?_ (.inr GW222.out) _ | refine Kept.setCell ?_ (.inr GW233.out) _) | exact HK.out)) hb)
   replace HB := ak (below_step (bl3 HB GE221 GE222 GE233) hb)
   clear hb ho74
   refine hK.out _ _ ⟨(blk_cell BK221.out 0).trans rfl, (blk_cell BK221.out 1).trans rfl, (blk_cell BK233.out 0).trans rfl, (blk_cell BK233.out 1).trans rfl, (blk_cell BK233.out 2).trans rfl, (blk_cell BK233.out 3).trans rfl, (blk_cell BK233.out 4).trans rfl, (blk_cell BK222.out 0).trans rfl, (blk_cell BK222.out 1).trans rfl⟩ (fun hHeld => ?_)
   clear hK K
   refine norm_ (a' := ?_) ?_ ?_
   rotate_left
   ·show Act.put _ (some 88) _ = _
    simp only [SX]
    rfl
   refine one_ (i := 9) (N := some 86) (ms 22 782335) rfl rfl (one_of HT_.out (by kernel_rfl)) (by decide) (fun K hK => ?_)
   refine Kd.R_append_rows_step (Kd.int .i64) (w0 := w0) w0.heap.size (by rfl) (.tmp 83) (.tmp 85) 33 3 (.int .i64 0) 8 rfl Try.underlying33 info3 rfl (by decide) (by omega) v238 y237 l5_0 _ _ _ (fun k_ => (P4_ k_ ∨ w.heap.size ≤ k_) ∧ some k_ ≠ (v244 : Value).ownBlock) (fun _ => False) rfl rfl ?aO ?aR (fun _ _ h => h) (fun _ h => h.elim) ?aF ?aB ?aS ?aL ?_
   (case aR => exact Kd.C_kept_now HR5_0.out (by repeat (first | (with_reducible first | exact HK.out | apply Kept.alloc | apply Kept.drewN | apply Kept.drew | refine Kept.setCell ?_ (.inr GW221.out) _ | refine Kept.setCell ?_ (.inr GW222.out) _ | refine Kept.setCell ?_ (.inr GW233.out) _) | exact HK.out)))
   (case aB => exact (bl3 HB GE221 GE222 GE233))
   (case aF => exact (fun k_ hk => ⟨(.inr (Nat.le_trans (by first | exact HK.out.1 | exact (show Kept w _ (fun k_ => P4_ k_) from by repeat (first | (with_reducible first | exact HK.out | apply Kept.alloc | apply Kept.drewN | apply Kept.drew | refine Kept.setCell ?_ (.inr GW221.out) _ | refine Kept.setCell ?_ (.inr GW222.out) _ | refine Kept.setCell ?_ (.inr GW233.out) _) | exact HK.out)).1) hk)), Kd.fresh' (Kd.R_lt (rk HO245)) k_ hk⟩))
   (case aO => exact (by (with_reducible repeat (first | apply Kd.R_alloc | apply Kd.R_drewN | apply Kd.R_drew)); exact Kd.R_mono HO239.out (fun _ hk => ⟨hk.1.1, hk.2⟩)))
   (case aS => exact (below_size (bl3 HB GE221 GE222 GE233)))
   (case aL => have := LMc53.out; omega)
   intro v241 w75 ho hb hg hat
   rw [← Ny240.out] at ho
   have n0_ := ak (Kd.R_over' (rk HO_4) (Kd.R_typed (rk HO239)) (by decide) hg)
   have n1_ := ak (Kd.V_afterv (ok := (fun k_ => ((P4_ k_ ∨ P6_ k_) ∨ w.heap.size ≤ k_) ∧ some k_ ≠ (.slice (some ⟨go52, 0, none⟩) x4_1.length co65 : Value).ownBlock ∧ some k_ ≠ (v244 : Value).ownBlock ∧ k_ ≠ gb221 ∧ k_ ≠ gb222 ∧ k_ ≠ gb233)) (by (with_reducible repeat (first | apply Kd.V_alloc | apply Kd.V_drewN | apply Kd.V_drew)); exact Kd.V_mono HO_6.out (fun _ hk => ⟨⟨hk.1.1.1.1, ⟨hk.1.1.2, ⟨hk.2, ⟨hk.1.1.1.2.1, ⟨hk.1.1.1.2.2.1, hk.1.1.1.2.2.2⟩⟩⟩⟩⟩, hk.1.2⟩)) hg hat)
   have n2_ := ak (blk_grown (bk BK221) hg (Kd.R_ne HO239.out BK221.out (by decide)))
   have n3_ := ak (blk_grown (bk BK222) hg (Kd.R_ne HO239.out BK222.out (by decide)))
   have n4_ := ak (blk_grown (bk BK233) hg (Kd.R_ne HO239.out BK233.out (by decide)))
   have n5_ := ak (Kd.V_afterv (ok := (fun k_ => ((P4_ k_ ∨ P6_ k_) ∨ w.heap.size ≤ k_) ∧ some k_ ≠ (.slice (some ⟨go52, 0, none⟩) x4_1.length co65 : Value).ownBlock ∧ some k_ ≠ (v244 : Value).ownBlock ∧ k_ ≠ gb221 ∧ k_ ≠ gb222 ∧ k_ ≠ gb233)) (by (with_reducible repeat (first | apply Kd.V_alloc | apply Kd.V_drewN | apply Kd.V_drew)); exact Kd.V_mono HL235_0.out (fun _ hk => ⟨⟨hk.1.1.1.1, ⟨hk.1.1.2, ⟨hk.2, ⟨hk.1.1.1.2.1, ⟨hk.1.1.1.2.2.1, hk.1.1.1.2.2.2⟩⟩⟩⟩⟩, hk.1.2⟩)) hg hat)
   have n6_ := ak (Kd.R_after (ok := (fun k_ => (P4_ k_ ∨ w.heap.size ≤ k_))) (by (with_reducible repeat (first | apply Kd.R_alloc | apply Kd.R_drewN | apply Kd.R_drew)); exact Kd.R_mono HO245.out (fun _ hk => ⟨hk.1.1, hk.2⟩)) hg hat)
   have n7_ := ak (hb)
   have n8_ := ak (Kept.of_grown (S := (fun k_ => P4_ k_)) hg (by repeat (first | (with_reducible first | exact HK.out | apply Kept.alloc | apply Kept.drewN | apply Kept.drew | refine Kept.setCell ?_ (.inr GW221.out) _ | refine Kept.setCell ?_ (.inr GW222.out) _ | refine Kept.setCell ?_ (.inr GW233.out) _) | exact HK.out)) (fun k_ e_ => (HO239.out.1 k_ e_).1.1))
   have n9_ := ak (ho)
   clear HO_4
   clear HO_6
   clear BK221
   clear BK222
   clear BK233
   clear HL235_0
   clear HO245
   clear HB
   clear HK
   clear HO239
   have HO_4 := n0_
   have HO_6 := n1_
   have BK221 := n2_
   have BK222 := n3_
   have BK233 := n4_
   have HL235_0 := n5_
   have HO245 := n6_
   have HB := n7_
   have HK := n8_
   have HO242 := n9_
   clear n0_ n1_ n2_ n3_ n4_ n5_ n6_ n7_ n8_ n9_
   clear ho hb hg hat
   refine hK.out _ _ ⟨(blk_cell BK221.out 0).trans rfl, (blk_cell BK221.out 1).trans rfl, (blk_cell BK233.out 0).trans rfl, (blk_cell BK233.out 1).trans rfl, (blk_cell BK233.out 2).trans rfl, (blk_cell BK233.out 3).trans rfl, (blk_cell BK233.out 4).trans rfl, (blk_cell BK222.out 0).trans rfl, (blk_cell BK222.out 1).trans rfl⟩ (fun hHeld => ?_)
   clear hK K
   refine norm_ (a' := ?_) ?_ ?_
   rotate_left
   ·show Act.put _ (some 86) _ = _
    simp only [SX]
    rfl
   exact norm_ (by simp only [putAll, Act.put, List.setIfInBounds_toArray, List.set_cons_zero, List.set_cons_succ]) (hCont (v238, v241, v244) _ ⟨hHeld, (by (with_reducible repeat (first | apply Kd.V_alloc | apply Kd.V_drewN | apply Kd.V_drew)); exact Kd.V_mono HL235_0.out (fun _ hk => ⟨hk.1.1, ⟨hk.2, ⟨hk.1.2.2.1, ⟨hk.1.2.1, ⟨hk.1.2.2.2.1, ⟨hk.1.2.2.2.2.1, hk.1.2.2.2.2.2⟩⟩⟩⟩⟩⟩)), (rk HO242), (rk HO245), (rk HO_4), (by (with_reducible repeat (first | apply Kd.V_alloc | apply Kd.V_drewN | apply Kd.V_drew)); exact Kd.V_mono HO_6.out (fun _ hk => ⟨hk.1.1, ⟨hk.2, ⟨hk.1.2.2.1, ⟨hk.1.2.1, ⟨hk.1.2.2.2.1, ⟨hk.1.2.2.2.2.1, hk.1.2.2.2.2.2⟩⟩⟩⟩⟩⟩)), (bk BK221), (bk BK222), (bk BK233), (by repeat (first | (with_reducible first | exact HK.out | apply Kept.alloc | apply Kept.drewN | apply Kept.drew | refine Kept.setCell ?_ (.inr GW221.out) _ | refine Kept.setCell ?_ (.inr GW222.out) _ | refine Kept.setCell ?_ (.inr GW233.out) _) | exact HK.out)), (bl3 HB GE221 GE222 GE233)⟩)
  rintro ⟨v238, v241, v244⟩ w76 ⟨hS_, h0_, h1_, h2_, h3_, h4_, h5_, h6_, h7_, h8_, h9_⟩
  replace HL235_0 : Aside0 (Kd.V (Kd.int .i64) 3 w76 w0.heap.size (fun k_ => ((P4_ k_ ∨ P6_ k_) ∨ w.heap.size ≤ k_) ∧ some k_ ≠ (v241 : Value).ownBlock ∧ some k_ ≠ (v244 : Value).ownBlock ∧ some k_ ≠ (.slice (some ⟨go52, 0, none⟩) x4_1.length co65 : Value).ownBlock ∧ k_ ≠ gb221 ∧ k_ ≠ gb222 ∧ k_ ≠ gb233) (.slice A235_0 ((rd_T103 x6_1 (ji38)).f0).length c235_0) ((rd_T103 x6_1 (ji38)).f0)) := ⟨h0_⟩
  have HO242 : Aside0 (Kd.R (Kd.int .i64) 3 w76 w0.heap.size (fun k_ => (P4_ k_ ∨ w.heap.size ≤ k_) ∧ some k_ ≠ (v244 : Value).ownBlock) v241 y240) := ⟨h1_⟩
  have HO245 : Aside0 (Kd.R (Kd.int .i64) 3 w76 w0.heap.size (fun k_ => (P4_ k_ ∨ w.heap.size ≤ k_) ∧ some k_ ≠ (v241 : Value).ownBlock) v244 y243) := ⟨h2_⟩
  replace HO_4 : Aside0 (Kd.R Kd.bool 4 w76 w0.heap.size (fun k_ => (P4_ k_ ∨ w.heap.size ≤ k_)) (.slice (some ⟨go52, 0, none⟩) x4_1.length co65) y236) := ⟨h3_⟩
  replace HO_6 : Aside0 (Kd.V k103 103 w76 w0.heap.size (fun k_ => ((P4_ k_ ∨ P6_ k_) ∨ w.heap.size ≤ k_) ∧ some k_ ≠ (v241 : Value).ownBlock ∧ some k_ ≠ (v244 : Value).ownBlock ∧ some k_ ≠ (.slice (some ⟨go52, 0, none⟩) x4_1.length co65 : Value).ownBlock ∧ k_ ≠ gb221 ∧ k_ ≠ gb222 ∧ k_ ≠ gb233) (.slice (some ad235) x6_1.length co66) x6_1) := ⟨h4_⟩
  replace BK221 : Aside0 (w76.heap[gb221]? = some (.cells #[.int .i64 a0_0, .slice (some ad232) l0_1.length c0_1] 25 (0, 0))) := ⟨h5_⟩
  replace BK222 : Aside0 (w76.heap[gb222]? = some (.cells #[.slice A5_0 l5_0.length c5_0, .int .i64 a5_1] 103 (0, 0))) := ⟨h6_⟩
  replace BK233 : Aside0 (w76.heap[gb233]? = some (.cells #[.int .i64 ((rd_T58 l0_1 x15_1).f0), .int .i64 ((rd_T58 l0_1 x15_1).f1), .int .i64 ((rd_T58 l0_1 x15_1).f2), .int .i64 ((rd_T58 l0_1 x15_1).f3), .int .i64 ((rd_T58 l0_1 x15_1).f4)] 58 (0, 0))) := ⟨h7_⟩
  replace HK : Aside0 (Kept w w76 (fun k_ => P4_ k_)) := ⟨h8_⟩
  replace HB : Aside0 (Below w0.heap.size w0 w76) := ⟨h9_⟩
  clear h0_ h1_ h2_ h3_ h4_ h5_ h6_ h7_ h8_ h9_
  have hHeld : w76.cell? ⟨gb221, 0, none⟩ = some (.int .i64 a0_0) ∧ w76.cell? ⟨gb221, 1, none⟩ = some (.slice (some ad232) l0_1.length c0_1) ∧ w76.cell? ⟨gb233, 0, none⟩ = some (.int .i64 ((rd_T58 l0_1 x15_1).f0)) ∧ w76.cell? ⟨gb233, 1, none⟩ = some (.int .i64 ((rd_T58 l0_1 x15_1).f1)) ∧ w76.cell? ⟨gb233, 2, none⟩ = some (.int .i64 ((rd_T58 l0_1 x15_1).f2)) ∧ w76.cell? ⟨gb233, 3, none⟩ = some (.int .i64 ((rd_T58 l0_1 x15_1).f3)) ∧ w76.cell? ⟨gb233, 4, none⟩ = some (.int .i64 ((rd_T58 l0_1 x15_1).f4)) ∧ w76.cell? ⟨gb222, 0, none⟩ = some (.slice A5_0 l5_0.length c5_0) ∧ w76.cell? ⟨gb222, 1, none⟩ = some (.int .i64 a5_1) := hS_
  obtain ⟨Ao78, co78, eo78⟩ := Kd.R_slice HO245.out
  (first | subst eo78 | (injection eo78 with f1_ f2_ f3_; have f4_ := f1_.symm; have f5_ := f3_.symm; clear f1_ f2_ f3_; subst f4_; subst f5_))
  refine norm_ (a' := ?_) ?_ ?_
  rotate_left
  ·simp only [putAll, Act.put, List.setIfInBounds_toArray, List.set_cons_zero, List.set_cons_succ]
   rfl
  refine one_ (i := 12) (N := some 89) (ms 22 786431) rfl rfl (one_of HT_.out (by kernel_rfl)) (by decide) (fun K hK => ?_)
  refine Kd.R_append_rows_step (Kd.int .i64) (w0 := w0) w0.heap.size (by rfl) (.tmp 86) (.tmp 88) 33 3 (.int .i64 0) 8 rfl Try.underlying33 info3 rfl (by decide) (by omega) v241 y240 y243 _ _ _ (fun k_ => (P4_ k_ ∨ w.heap.size ≤ k_) ∧ some k_ ≠ (.slice Ao78 y243.length co78 : Value).ownBlock) (fun _ => False) rfl rfl ?aO ?aR (fun _ _ h => h) (fun _ h => h.elim) ?aF ?aB ?aS ?aL ?_
  (case aR => repeat (first | exact (Kd.R_reads' HO245.out).2.2 | (with_reducible refine Kd.C_alloc ?_ _) | (with_reducible refine Kd.C_drewN ?_ _) | (with_reducible refine Kd.C_drew ?_)))
  (case aB => exact (bl3 HB GE221 GE222 GE233))
  (case aF => exact (fun k_ hk => ⟨(.inr (Nat.le_trans (by first | exact HK.out.1 | exact (show Kept w _ (fun k_ => P4_ k_) from by repeat (first | (with_reducible first | exact HK.out | apply Kept.alloc | apply Kept.drewN | apply Kept.drew | refine Kept.setCell ?_ (.inr GW221.out) _ | refine Kept.setCell ?_ (.inr GW222.out) _ | refine Kept.setCell ?_ (.inr GW233.out) _) | exact HK.out)).1) hk)), Kd.fresh' (Kd.R_lt (rk HO245)) k_ hk⟩))
  (case aO => exact (rk HO242))
  (case aS => exact (below_size (bl3 HB GE221 GE222 GE233)))
  (case aL => have := LMc54.out; omega)
  intro v247 w77 ho hb hg hat
  rw [← Ny246.out] at ho
  have n0_ := ak (Kd.R_over' (rk HO_4) (Kd.R_typed (rk HO242)) (by decide) hg)
  have n1_ := ak (Kd.V_afterv (ok := (fun k_ => ((P4_ k_ ∨ P6_ k_) ∨ w.heap.size ≤ k_) ∧ some k_ ≠ (.slice (some ⟨go52, 0, none⟩) x4_1.length co65 : Value).ownBlock ∧ some k_ ≠ (.slice Ao78 y243.length co78 : Value).ownBlock ∧ k_ ≠ gb221 ∧ k_ ≠ gb222 ∧ k_ ≠ gb233)) (by (with_reducible repeat (first | apply Kd.V_alloc | apply Kd.V_drewN | apply Kd.V_drew)); exact Kd.V_mono HO_6.out (fun _ hk => ⟨⟨hk.1, ⟨hk.2.2.2.1, ⟨hk.2.2.1, ⟨hk.2.2.2.2.1, ⟨hk.2.2.2.2.2.1, hk.2.2.2.2.2.2⟩⟩⟩⟩⟩, hk.2.1⟩)) hg hat)
  have n2_ := ak (blk_grown (bk BK221) hg (Kd.R_ne HO242.out BK221.out (by decide)))
  have n3_ := ak (blk_grown (bk BK222) hg (Kd.R_ne HO242.out BK222.out (by decide)))
  have n4_ := ak (blk_grown (bk BK233) hg (Kd.R_ne HO242.out BK233.out (by decide)))
  have n5_ := ak (Kd.V_afterv (ok := (fun k_ => ((P4_ k_ ∨ P6_ k_) ∨ w.heap.size ≤ k_) ∧ some k_ ≠ (.slice (some ⟨go52, 0, none⟩) x4_1.length co65 : Value).ownBlock ∧ some k_ ≠ (.slice Ao78 y243.length co78 : Value).ownBlock ∧ k_ ≠ gb221 ∧ k_ ≠ gb222 ∧ k_ ≠ gb233)) (by (with_reducible repeat (first | apply Kd.V_alloc | apply Kd.V_drewN | apply Kd.V_drew)); exact Kd.V_mono HL235_0.out (fun _ hk => ⟨⟨hk.1, ⟨hk.2.2.2.1, ⟨hk.2.2.1, ⟨hk.2.2.2.2.1, ⟨hk.2.2.2.2.2.1, hk.2.2.2.2.2.2⟩⟩⟩⟩⟩, hk.2.1⟩)) hg hat)
  have n6_ := ak (Kd.R_after (ok := (fun k_ => (P4_ k_ ∨ w.heap.size ≤ k_))) (rk HO245) hg hat)
  have n7_ := ak (hb)
  have n8_ := ak (Kept.of_grown (S := (fun k_ => P4_ k_)) hg (by repeat (first | (with_reducible first | exact HK.out | apply Kept.alloc | apply Kept.drewN | apply Kept.drew | refine Kept.setCell ?_ (.inr GW221.out) _ | refine Kept.setCell ?_ (.inr GW222.out) _ | refine Kept.setCell ?_ (.inr GW233.out) _) | exact HK.out)) (fun k_ e_ => (HO242.out.1 k_ e_).1))
  have n9_ := ak (ho)
  clear HO_4
  clear HO_6
  clear BK221
  clear BK222
  clear BK233
  clear HL235_0
  clear HO245
  clear HB
  clear HK
  clear HO242
  have HO_4 := n0_
  have HO_6 := n1_
  have BK221 := n2_
  have BK222 := n3_
  have BK233 := n4_
  have HL235_0 := n5_
  have HO245 := n6_
  have HB := n7_
  have HK := n8_
  have HO248 := n9_
  clear n0_ n1_ n2_ n3_ n4_ n5_ n6_ n7_ n8_ n9_
  clear ho hb hg hat
  obtain ⟨Ao79, co79, eo79⟩ := Kd.R_slice HO248.out
  (first | subst eo79 | (injection eo79 with f1_ f2_ f3_; have f4_ := f1_.symm; have f5_ := f3_.symm; clear f1_ f2_ f3_; subst f4_; subst f5_))
  refine hK.out _ _ ⟨(blk_cell BK221.out 0).trans rfl, (blk_cell BK221.out 1).trans rfl, (blk_cell BK233.out 0).trans rfl, (blk_cell BK233.out 1).trans rfl, (blk_cell BK233.out 2).trans rfl, (blk_cell BK233.out 3).trans rfl, (blk_cell BK233.out 4).trans rfl, (blk_cell BK222.out 0).trans rfl, (blk_cell BK222.out 1).trans rfl⟩ (fun hHeld => ?_)
  clear hK K
  refine norm_ (a' := ?_) ?_ ?_
  rotate_left
  ·show Act.put _ (some 89) _ = _
   simp only [SX]
   rfl
  refine pu 18 95 ?_ (ms 22 1048575) rfl rfl HT_ (by kernel_rfl) (fun _ _ _ h => h) (by rfl) ?_ ?_ ?_ ?_
  rotate_left
  ·intro w'
   go_simp
   with_reducible rfl
  rotate_left
  ·simp only [SX]
   rfl
  refine one_ (i := 20) (N := some 97) (ms 22 2097151) rfl rfl (one_of HT_.out (by kernel_rfl)) (by decide) (fun K hK => ?_)
  refine goes_ Try.func90 (by kernel_rfl) rfl #[.agg #[.int .i64 a0_0, .slice (some ad232) l0_1.length c0_1], .int .i64 a1, .int .i64 a2, .int .i64 ((rd_T58 l0_1 x15_1).f1), .slice (some ⟨go52, 0, none⟩) x4_1.length co65, .agg #[.slice Ao79 y246.length co79, .int .i64 (wrap64 (a5_1 + ((rd_T58 l0_1 x15_1).f2)))], .slice (some ad235) x6_1.length co66] (by rfl) rfl rfl (by (try simp only [List.map_toArray, List.map_cons, List.map_nil]); first | done | rfl | (simp only [List.length_drop, List.length_take]; rfl)) ?_
  with_reducible refine (ih k1 (by have := HK1.out; omega) a0_0 _ _ l0_1 a1 a2 ((rd_T58 l0_1 x15_1).f1) (fun k_ => some k_ = (.slice (some ⟨go52, 0, none⟩) x4_1.length co65 : Value).ownBlock) (.slice (some ⟨go52, 0, none⟩) x4_1.length co65) y236 _ _ y246 (wrap64 (a5_1 + ((rd_T58 l0_1 x15_1).f2))) (fun k_ => ((((P4_ k_ ∨ P6_ k_) ∨ w.heap.size ≤ k_) ∧ (some k_ ≠ (.slice (some ⟨go52, 0, none⟩) x4_1.length co65 : Value).ownBlock ∧ (some k_ ≠ (.slice Ao78 y243.length co78 : Value).ownBlock ∧ (k_ ≠ gb221 ∧ (k_ ≠ gb222 ∧ k_ ≠ gb233))))) ∧ some k_ ≠ (.slice Ao79 y246.length co79 : Value).ownBlock)) _ _ x6_1 t249 t252 w0 _ ?side1 ?side2 ?side3 ?side4 ?side5 ?side6 ?side7 A55.out).mono ?_
  (case side1 => repeat (first | (with_reducible first | exact HB.out | apply below_alloc | apply pw_below_drewN | apply below_drew1 | refine below_set ?_ GE221.out | refine below_set ?_ GE222.out | refine below_set ?_ GE233.out) | exact HB.out))
  (case side2 => exact Kd.C_kept_call HR0_1.out (by repeat (first | (with_reducible first | exact HK.out | apply Kept.alloc | apply Kept.drewN | apply Kept.drew | refine Kept.setCell ?_ (.inr GW221.out) _ | refine Kept.setCell ?_ (.inr GW222.out) _ | refine Kept.setCell ?_ (.inr GW233.out) _) | exact HK.out)) (fun k_ hs_ => (fun e_ => (HO_4.out.1 k_ e_.symm)) hs_))
  (case side3 => exact HC0_1.out)
  (case side4 => exact Kd.R_tight rfl HO_4.out)
  (case side5 => exact Kd.C_kept_own ((Kd.R_apart' HO248.out (Kd.R_typed HO_4.out) (by decide))) (fun k_ hk_ hs_ => (hk_.2) hs_))
  (case side6 => exact (Kd.R_reads' HO248.out).2.1)
  (case side7 => exact Kd.V_mono (HO_6.out) (fun k_ hk_ => ⟨hk_, hk_.1.2.1⟩))
  rintro e w80 ⟨v250, rfl, ho0, hy0, hb, hkp⟩
  refine ⟨_, rfl, ?_⟩
  have n0_ := ak (Kd.R_reok rfl hy0 (fun k_ e_ => HO_4.out.1 k_ e_))
  have n1_ := ak (Kd.V_mono (ok' := fun k_ => ((P4_ k_ ∨ P6_ k_) ∨ w.heap.size ≤ k_) ∧ some k_ ≠ (.slice (some ⟨go52, 0, none⟩) x4_1.length co65 : Value).ownBlock ∧ some k_ ≠ (.slice Ao78 y243.length co78 : Value).ownBlock ∧ some k_ ≠ (.slice Ao79 y246.length co79 : Value).ownBlock ∧ k_ ≠ gb221 ∧ k_ ≠ gb222 ∧ k_ ≠ gb233) (Kd.V_keptB (HO_6.out) hkp (fun k_ hk_ hs_ => (hk_.1.2.1) hs_)) (fun k_ hk_ => ⟨hk_.1.1.1, hk_.1.1.2.1, hk_.1.1.2.2.1, hk_.1.2, hk_.1.1.2.2.2.1, hk_.1.1.2.2.2.2.1, hk_.1.1.2.2.2.2.2⟩))
  have n2_ := ak (blk_kept (bk BK221) hkp (fun hs_ => (fun e_ => (Kd.R_ne HO_4.out BK221.out (by decide)) e_) hs_))
  have n3_ := ak (blk_kept (bk BK222) hkp (fun hs_ => (fun e_ => (Kd.R_ne HO_4.out BK222.out (by decide)) e_) hs_))
  have n4_ := ak (blk_kept (bk BK233) hkp (fun hs_ => (fun e_ => (Kd.R_ne HO_4.out BK233.out (by decide)) e_) hs_))
  have n5_ := ak (Kd.R_mono (ok' := fun k_ => (P4_ k_ ∨ w.heap.size ≤ k_) ∧ some k_ ≠ (.slice Ao79 y246.length co79 : Value).ownBlock) (Kd.R_keptB ((Kd.R_apart' HO245.out (Kd.R_typed HO_4.out) (by decide))) hkp (fun k_ hk_ hs_ => (hk_.2) hs_)) (fun k_ hk_ => ⟨hk_.1.1.1, hk_.1.1.2⟩))
  have n6_ := ak (Kd.R_mono (ok' := fun k_ => (P4_ k_ ∨ w.heap.size ≤ k_) ∧ some k_ ≠ (.slice Ao78 y243.length co78 : Value).ownBlock) (Kd.R_keptB ((Kd.R_apart' HO248.out (Kd.R_typed HO_4.out) (by decide))) hkp (fun k_ hk_ hs_ => (hk_.2) hs_)) (fun k_ hk_ => ⟨hk_.1.1.1, hk_.1.1.2⟩))
  have n7_ := ak (Kd.V_mono (ok' := fun k_ => ((P4_ k_ ∨ P6_ k_) ∨ w.heap.size ≤ k_) ∧ some k_ ≠ (.slice Ao78 y243.length co78 : Value).ownBlock ∧ some k_ ≠ (.slice Ao79 y246.length co79 : Value).ownBlock ∧ some k_ ≠ (.slice (some ⟨go52, 0, none⟩) x4_1.length co65 : Value).ownBlock ∧ k_ ≠ gb221 ∧ k_ ≠ gb222 ∧ k_ ≠ gb233) ho0 (fun k_ hk_ => ⟨Or.elim hk_.1 (fun hs_ => Or.elim hs_ (fun hs_ => (Or.imp_left (fun h_ => (.inl h_)) ((HO_4.out.1 k_ (hs_).symm)))) (fun hs_ => hs_.1.1)) (fun hn_ => (.inr (Nat.le_trans (by first | exact HK.out.1 | exact (show Kept w _ (fun k_ => P4_ k_) from by repeat (first | (with_reducible first | exact HK.out | apply Kept.alloc | apply Kept.drewN | apply Kept.drew | refine Kept.setCell ?_ (.inr GW221.out) _ | refine Kept.setCell ?_ (.inr GW222.out) _ | refine Kept.setCell ?_ (.inr GW233.out) _) | exact HK.out)).1) hn_))), Or.elim hk_.1 (fun hs_ => Or.elim hs_ (fun hs_ => fun e_ => ((((Kd.R_apart' HO245.out (Kd.R_typed HO_4.out) (by decide))).1 k_ e_.symm).2) hs_) (fun hs_ => hs_.1.2.2.1)) (fun hn_ => (Kd.fresh' (Kd.R_lt (rk HO245)) k_ hn_)), Or.elim hk_.1 (fun hs_ => Or.elim hs_ (fun hs_ => fun e_ => ((((Kd.R_apart' HO248.out (Kd.R_typed HO_4.out) (by decide))).1 k_ e_.symm).2) hs_) (fun hs_ => hs_.2)) (fun hn_ => (Kd.fresh' (Kd.R_lt (rk HO248)) k_ hn_)), hk_.2, Or.elim hk_.1 (fun hs_ => Or.elim hs_ (fun hs_ => fun e_ => (Kd.R_ne HO_4.out BK221.out (by decide)) (by rw [← e_]; exact hs_)) (fun hs_ => hs_.1.2.2.2.1)) (fun hn_ => (Kd.freshB (bk BK221) k_ hn_)), Or.elim hk_.1 (fun hs_ => Or.elim hs_ (fun hs_ => fun e_ => (Kd.R_ne HO_4.out BK222.out (by decide)) (by rw [← e_]; exact hs_)) (fun hs_ => hs_.1.2.2.2.2.1)) (fun hn_ => (Kd.freshB (bk BK222) k_ hn_)), Or.elim hk_.1 (fun hs_ => Or.elim hs_ (fun hs_ => fun e_ => (Kd.R_ne HO_4.out BK233.out (by decide)) (by rw [← e_]; exact hs_)) (fun hs_ => hs_.1.2.2.2.2.2)) (fun hn_ => (Kd.freshB (bk BK233) k_ hn_))⟩))
  have n8_ := ak (Kept.then_ (S := (fun k_ => P4_ k_)) (by repeat (first | (with_reducible first | exact HK.out | apply Kept.alloc | apply Kept.drewN | apply Kept.drew | refine Kept.setCell ?_ (.inr GW221.out) _ | refine Kept.setCell ?_ (.inr GW222.out) _ | refine Kept.setCell ?_ (.inr GW233.out) _) | exact HK.out)) hkp (fun k_ hs_ => (fun e_ => (HO_4.out.1 k_ e_.symm)) hs_))
  have n9_ := ak (hb)
  clear HO_4
  clear HO_6
  clear BK221
  clear BK222
  clear BK233
  clear HO245
  clear HO248
  clear HK
  clear HB
  clear HL235_0
  have HO_4 := n0_
  have HO_6 := n1_
  have BK221 := n2_
  have BK222 := n3_
  have BK233 := n4_
  have HO245 := n5_
  have HO248 := n6_
  have HO251 := n7_
  have HK := n8_
  have HB := n9_
  clear n0_ n1_ n2_ n3_ n4_ n5_ n6_ n7_ n8_ n9_
  (try clear hb)
  (try clear hkp)
  (try clear ho0)
  (try clear hy0)
  refine hK.out _ _ ⟨(blk_cell BK221.out 0).trans rfl, (blk_cell BK221.out 1).trans rfl, (blk_cell BK233.out 0).trans rfl, (blk_cell BK233.out 1).trans rfl, (blk_cell BK233.out 2).trans rfl, (blk_cell BK233.out 3).trans rfl, (blk_cell BK233.out 4).trans rfl, (blk_cell BK222.out 0).trans rfl, (blk_cell BK222.out 1).trans rfl⟩ (fun hHeld => ?_)
  clear hK K
  refine norm_ (a' := ?_) ?_ ?_
  rotate_left
  ·show Act.put _ (some 97) _ = _
   simp only [SX]
   rfl
  refine pu 21 6 ?_ (ms 22 4194303) rfl rfl HT_ (by kernel_rfl) (fun _ _ _ h => h) (by rfl) ?_ ?_ ?_ ?_
  rotate_left
  ·intro w'
   go_simp
   with_reducible rfl
  rotate_left
  ·simp only [SX]
   rfl
  refine done_ (done_of HT_.out (by kernel_rfl)) ?_
  have hcz81_0 := bc w80 BK233 0 (.int .i64 ((rd_T58 l0_1 x15_1).f0)) rfl
  have hcz81_1 := bc w80 BK233 1 (.int .i64 ((rd_T58 l0_1 x15_1).f1)) rfl
  have hcz81_2 := bc w80 BK233 2 (.int .i64 ((rd_T58 l0_1 x15_1).f2)) rfl
  have hcz81_3 := bc w80 BK233 3 (.int .i64 ((rd_T58 l0_1 x15_1).f3)) rfl
  have hcz81_4 := bc w80 BK233 4 (.int .i64 ((rd_T58 l0_1 x15_1).f4)) rfl
  have hfz81_0 := fz BK233 0
  have hfz81_1 := fz BK233 1
  have hfz81_2 := fz BK233 2
  have hfz81_3 := fz BK233 3
  have hfz81_4 := fz BK233 4
  have p56 : 0 ≤ (((rd_T58 l0_1 x15_1).f1) : Int) := oT (by first | (with_reducible assumption) | assumption)
  have q56 : (((rd_T58 l0_1 x15_1).f1) : Int) < ((x4_1.length : Int) : Int) := oT (by first | (with_reducible assumption) | assumption)
  obtain ⟨hx56_0, hf56_0⟩ := Kd.R_celln false HO_4.out (((rd_T58 l0_1 x15_1).f1) : Int) p56 q56
  replace p56 := eq_true p56
  replace q56 := eq_true q56
  obtain ⟨hy82_, hz82_⟩ := Kd.R_celln false HO_4.out (((rd_T58 l0_1 x15_1).f1) : Int) (oT (by first | (with_reducible assumption) | assumption)) (oT (by first | (with_reducible assumption) | assumption))
  have HP82 := Kd.R_putg HO_4.out (((rd_T58 l0_1 x15_1).f1) : Int) false
  try go_wp2_with (first | ((with_reducible refine gate_store (t := 4) (p := 101) rfl ?_); refine store_event (t := 4) (p := 101) (v := ?vo_w83) (w1 := (w80.setCell ⟨go52, (((rd_T58 l0_1 x15_1).f1) : Int).toNat, none⟩ (.bool false))) ?hg ?ho ?hn ?hr ?_; (case ho => rfl); (case hg => rfl); (case hn => rfl); (case hr => first | (go_simp; done) | (go_simp; rfl)); intro w83 hw; have hg : w80.grownBy w83 (some go52) := (by rw [hw]; exact HP82.2); have hp_ : Kd.R Kd.bool 4 w83 w0.heap.size (fun k_ => (P4_ k_ ∨ w.heap.size ≤ k_)) (.slice (some ⟨go52, 0, none⟩) x4_1.length co65) y253 := (by rw [hw, Ny253.out]; exact HP82.1); clear HP82; replace HO_6 := ak (Kd.V_afterv (v := (.slice (some ⟨go52, 0, none⟩) x4_1.length co65)) (v1 := (.slice (some ⟨go52, 0, none⟩) x4_1.length co65)) (ok := (fun k_ => ((P4_ k_ ∨ P6_ k_) ∨ w.heap.size ≤ k_) ∧ some k_ ≠ (.slice Ao78 y243.length co78 : Value).ownBlock ∧ some k_ ≠ (.slice Ao79 y246.length co79 : Value).ownBlock ∧ k_ ≠ gb221 ∧ k_ ≠ gb222 ∧ k_ ≠ gb233)) (by (with_reducible repeat (first | apply Kd.V_alloc | apply Kd.V_drewN | apply Kd.V_drew)); exact Kd.V_mono HO_6.out (fun _ hk => ⟨⟨hk.1, ⟨hk.2.2.1, ⟨hk.2.2.2.1, ⟨hk.2.2.2.2.1, ⟨hk.2.2.2.2.2.1, hk.2.2.2.2.2.2⟩⟩⟩⟩⟩, hk.2.1⟩)) hg (.inl rfl)); replace BK221 := ak (blk_grown (bk BK221) hg (Kd.R_ne HO_4.out BK221.out (by decide))); replace BK222 := ak (blk_grown (bk BK222) hg (Kd.R_ne HO_4.out BK222.out (by decide))); replace BK233 := ak (blk_grown (bk BK233) hg (Kd.R_ne HO_4.out BK233.out (by decide))); replace HO245 := ak (Kd.R_over' (v := (.slice (some ⟨go52, 0, none⟩) x4_1.length co65)) (rk HO245) (Kd.R_typed HO_4.out) (by decide) hg); replace HO248 := ak (Kd.R_over' (v := (.slice (some ⟨go52, 0, none⟩) x4_1.length co65)) (rk HO248) (Kd.R_typed HO_4.out) (by decide) hg); replace HO251 := ak (Kd.V_afterv (v := (.slice (some ⟨go52, 0, none⟩) x4_1.length co65)) (v1 := (.slice (some ⟨go52, 0, none⟩) x4_1.length co65)) (ok := (fun k_ => ((P4_ k_ ∨ P6_ k_) ∨ w.heap.size ≤ k_) ∧ some k_ ≠ (.slice Ao78 y243.length co78 : Value).ownBlock ∧ some k_ ≠ (.slice Ao79 y246.length co79 : Value).ownBlock ∧ k_ ≠ gb221 ∧ k_ ≠ gb222 ∧ k_ ≠ gb233)) (by (with_reducible repeat (first | apply Kd.V_alloc | apply Kd.V_drewN | apply Kd.V_drew)); exact Kd.V_mono HO251.out (fun _ hk => ⟨⟨hk.1, ⟨hk.2.1, ⟨hk.2.2.1, ⟨hk.2.2.2.2.1, ⟨hk.2.2.2.2.2.1, hk.2.2.2.2.2.2⟩⟩⟩⟩⟩, hk.2.2.2.1⟩)) hg (.inl rfl)); replace HB := ak ((by rw [hw]; exact below_set (HB.out) GB52.out : Below w0.heap.size w0 w83)); replace HK := ak (Kept.of_grown (S := (fun k_ => P4_ k_)) hg (by repeat (first | (with_reducible first | exact HK.out | apply Kept.alloc | apply Kept.drewN | apply Kept.drew | refine Kept.setCell ?_ (.inr GW221.out) _ | refine Kept.setCell ?_ (.inr GW222.out) _ | refine Kept.setCell ?_ (.inr GW233.out) _) | exact HK.out)) (fun k_ e_ => (HO_4.out.1 k_ e_))); replace HO_4 := ak (hp_); clear hg hw hp_))
  go_roundg k1
  case measure => have := HK1.out; omega
  case rel => exact ⟨(y253), (t249), (wrap64 (x15_1 + 1)), (by first | rfl | (simp; done) | (simp [*]; done)), H', ⟨by have := HK1.out; omega⟩, ⟨rk HO_4⟩, ⟨by (with_reducible repeat (first | apply Kd.V_alloc | apply Kd.V_drewN | apply Kd.V_drew)); exact Kd.V_mono HO251.out (fun _ hk => ⟨hk.1.1, ⟨hk.2, ⟨hk.1.2.2.2.1, hk.1.2.2.2.2.1⟩⟩⟩)⟩, ⟨bk BK221⟩, ⟨bk BK222⟩, ⟨by repeat (first | (with_reducible first | exact HK.out | apply Kept.alloc | apply Kept.drewN | apply Kept.drew | refine Kept.setCell ?_ (.inr GW221.out) _ | refine Kept.setCell ?_ (.inr GW222.out) _ | refine Kept.setCell ?_ (.inr GW233.out) _) | exact HK.out)⟩, ⟨bl3 HB GE221 GE222 GE233⟩⟩

end Go.Proofs.Ytlgolgfcolnddaa.F
