-- Printed by wip/px/px.py of this claim's repository (the kit's printer, extended there). Lean checks it.
import Derived.Test.YtbappbbljncdeaaFKinds
import Derived.Test.YtbappbbljncdeaaFspecl17Cost
namespace Go.Proofs.Ytbappbbljncdeaa.F
open Go.RowKit Go.Proofs.YtbappbbljncdeaaW.PrintWords Go.Proofs.YtbappbbljncdeaaW.PrintLast Go.Proofs.YtbappbbljncdeaaW.PrintMore
attribute [local go_sem] max2_int min2_int max_two min_two max_three min_three max_four min_four   -- for this text's walks alone
set_option linter.unusedVariables false
set_option linter.unusedSimpArgs false

/-! ### spec_l17Try: function 108 -/
mutual
def spec_l17Try.l0 : Nat → List Int → List Int → List Int → Int → Int → Int → List (S100) → Option (List Int × Int)
 | 0, _, _, _, _, _, _, _ => none
 | k + 1, x1, x2, x3, x4, x13, x1268000, x1268001 => if x13 < (x2.length : Int) then ((some (([] : List Int) : List Int)).bind fun y1275 => (if 0 ≤ x13 then (if x13 ≤ (x2.length : Int) then (if y1275.length + (x2.take (x13 : Int).toNat).length < 17592186044416 then ((some (y1275 ++ (x2.take (x13 : Int).toNat) : List Int)).bind fun y1279 => (if 0 ≤ (wrap64 (x13 + 1)) then (if (wrap64 (x13 + 1)) ≤ (x2.length : Int) then (if y1279.length + (x2.drop ((wrap64 (x13 + 1)) : Int).toNat).length < 17592186044416 then ((some (([] : List Int) : List Int)).bind fun y1286 => (if y1286.length + x1.length < 17592186044416 then ((some (y1286 ++ x1 : List Int)).bind fun y1289 => ((some (([rd x2 x13] : List Int) : List Int)).bind fun y1293 => (if y1289.length + y1293.length < 17592186044416 then ((spec_l17Try.f k x1268000 x1268001 (y1289 ++ y1293) (y1279 ++ (x2.drop ((wrap64 (x13 + 1)) : Int).toNat)) x3 x4).bind fun bt1299 => (spec_l17Try.l0 k x1 x2 bt1299.1 bt1299.2 (wrap64 (x13 + 1)) x1268000 x1268001)) else (none)))) else (none))) else (none)) else (none)) else (none))) else (none)) else (none)) else (none))) else (some (x3, x4))
def spec_l17Try.f : Nat → Int → List (S100) → List Int → List Int → List Int → Int → Option (List Int × Int)
 | 0, _, _, _, _, _, _ => none
 | k + 1, a0_0, l0_1, l1, l2, l3, a4 => if (l2.length : Int) = 0 then ((spec_l17Cost.f k a0_0 l0_1 l1).bind fun t1268 => (if t1268 < a4 then ((some (([] : List Int) : List Int)).bind fun y1269 => (if y1269.length + l1.length < 17592186044416 then (some ((y1269 ++ l1), t1268)) else (none))) else (some (l3, a4)))) else (spec_l17Try.l0 k l1 l2 l3 a4 0 a0_0 l0_1)
end
theorem spec_l17Try.mono_l : ∀ k, (∀ y0 y1 y2 y3 y4 y5, LeO (spec_l17Try.f k y0 y1 y2 y3 y4 y5) (spec_l17Try.f (k + 1) y0 y1 y2 y3 y4 y5)) ∧ (∀ y0 y1 y2 y3 y4 y5 y6, LeO (spec_l17Try.l0 k y0 y1 y2 y3 y4 y5 y6) (spec_l17Try.l0 (k + 1) y0 y1 y2 y3 y4 y5 y6))
 | 0 => ⟨fun _ _ _ _ _ _ r h => by simp [spec_l17Try.f] at h, fun _ _ _ _ _ _ _ r h => by simp [spec_l17Try.l0] at h⟩
 | k + 1 => by
  obtain ⟨ih0, ih1⟩ := spec_l17Try.mono_l k
  refine ⟨?_, ?_⟩
  ·intro y0 y1 y2 y3 y4 y5
   unfold spec_l17Try.f
   repeat' first
   | (with_reducible exact ih0 _ _ _ _ _ _)
   | (with_reducible exact ih1 _ _ _ _ _ _ _)
   | (with_reducible exact spec_l17Cost.mono _ _ _ _)
   | (with_reducible exact LeO.refl _)
   | (with_reducible exact LeO.none _)
   | (with_reducible refine LeO.ite ?_ ?_)
   | (with_reducible refine LeO.bind ?_ (fun _ => ?_))
   | exact ih0 _ _ _ _ _ _
   | exact ih1 _ _ _ _ _ _ _
   | exact spec_l17Cost.mono _ _ _ _
   | exact LeO.none _
   | refine LeO.ite ?_ ?_
   | refine LeO.bind ?_ (fun _ => ?_)
  ·intro y0 y1 y2 y3 y4 y5 y6
   unfold spec_l17Try.l0
   repeat' first
   | (with_reducible exact ih0 _ _ _ _ _ _)
   | (with_reducible exact ih1 _ _ _ _ _ _ _)
   | (with_reducible exact spec_l17Cost.mono _ _ _ _)
   | (with_reducible exact LeO.refl _)
   | (with_reducible exact LeO.none _)
   | (with_reducible refine LeO.ite ?_ ?_)
   | (with_reducible refine LeO.bind ?_ (fun _ => ?_))
   | exact ih0 _ _ _ _ _ _
   | exact ih1 _ _ _ _ _ _ _
   | exact spec_l17Cost.mono _ _ _ _
   | exact LeO.none _
   | refine LeO.ite ?_ ?_
   | refine LeO.bind ?_ (fun _ => ?_)
theorem spec_l17Try.mono : ∀ a0 a1 a2 a3 a4 a5 k, LeO (spec_l17Try.f k a0 a1 a2 a3 a4 a5) (spec_l17Try.f (k + 1) a0 a1 a2 a3 a4 a5) := by
 intro a0 a1 a2 a3 a4 a5 k
 obtain ⟨ih0, ih1⟩ := spec_l17Try.mono_l k
 exact ih0 a0 a1 a2 a3 a4 a5
def spec_l17Try.T9 : Bool × List (List Nat × List Nat) := (true, [([], []), ([], []), ([], []), ([1, 2], [1, 2]), ([0, 3], [0, 3]), ([], []), ([], []), ([6], [6]), ([5, 7], [5, 7]), ([4, 8, 4], [4, 8]), ([9, 9, 0, 1, 2, 3, 4, 5, 6, 7, 8, 9], [9])])
def spec_l17Try.B9 : List Nat := [0, 0, 0, 6, 15, 0, 0, 64, 224, 511, 1023]
theorem spec_l17Try.tab9 : rtab .any (opsOf Try.f108 9) = spec_l17Try.T9 := by kernel_rfl
theorem spec_l17Try.bits9 : waitsOk spec_l17Try.T9.2 spec_l17Try.B9 = true := by kernel_rfl
def spec_l17Try.T10 : Bool × List (List Nat × List Nat) := (true, [([], []), ([], []), ([], []), ([1, 2], [1, 2]), ([], []), ([], []), ([4, 5], [4, 5]), ([6], [6]), ([7], [7]), ([3, 8, 3], [3, 8]), ([], []), ([], []), ([], []), ([0, 9, 10, 11, 12, 9], [0, 9, 10, 11, 12]), ([13], [13]), ([14], [14]), ([14], [14]), ([15, 13, 0, 1, 2, 3, 4, 5, 6, 7, 8, 9, 10, 11, 12, 13, 14, 15], [11, 15]), ([16, 17, 0, 1, 2, 3, 4, 5, 6, 7, 8, 9, 10, 11, 12, 13, 14, 15, 16, 17], [12, 16])])
def spec_l17Try.B10 : List Nat := [0, 0, 0, 6, 0, 0, 48, 112, 240, 510, 0, 0, 0, 8191, 16383, 32767, 32767, 65535, 262143]
theorem spec_l17Try.tab10 : rtab .any (opsOf Try.f108 10) = spec_l17Try.T10 := by kernel_rfl
theorem spec_l17Try.bits10 : waitsOk spec_l17Try.T10.2 spec_l17Try.B10 = true := by kernel_rfl
set_option maxHeartbeats 8000000 in
set_option maxRecDepth 100000 in
theorem spec_l17Try.calls (k : Nat) : ∀ (a0_0 : Int) (A0_1 : Option Addr) (c0_1 : Nat) (l0_1 : List (S100)) (A1 : Option Addr) (c1 : Nat) (l1 : List Int) (A2 : Option Addr) (c2 : Nat) (l2 : List Int) (P3_ : Nat → Prop) (A3 : Option Addr) (c3 : Nat) (l3 : List Int) (a4 : Int) (r1 : List Int) (r2 : Int) (w : World) (hr0_1 : Kd.C k100 w A0_1 l0_1.length l0_1) (hc0_1 : l0_1.length ≤ c0_1) (hr1 : Kd.C (Kd.int .i64) w A1 l1.length l1) (hc1 : l1.length ≤ c1) (hr2 : Kd.C (Kd.int .i64) w A2 l2.length l2) (hc2 : l2.length ≤ c2) (hs3 : Kd.V (Kd.int .i64) 3 w w.heap.size (fun k_ => P3_ k_) (.slice A3 l3.length c3) l3) (h : spec_l17Try.f k a0_0 l0_1 l1 l2 l3 a4 = some (r1, r2)),
  Calls Try.prog 108 #[.agg #[.int .i64 a0_0, .slice A0_1 l0_1.length c0_1], .slice A1 l1.length c1, .slice A2 l2.length c2, .slice A3 l3.length c3, .int .i64 a4] w fun e w' => ∃ v0_ : Value, e = .returned (.tuple #[v0_, .int .i64 r2]) ∧ Kd.V (Kd.int .i64) 3 w' w.heap.size (fun k_ => (P3_ k_ ∨ w.heap.size ≤ k_)) v0_ r1 ∧ Below w.heap.size w w' := by
 induction k using Nat.strongRecOn with
 | _ k ih =>
 intro a0_0 A0_1 c0_1 l0_1 A1 c1 l1 A2 c2 l2 P3_ A3 c3 l3 a4 r1 r2 w hr0_1 hc0_1 hr1 hc1 hr2 hc2 hs3 h
 cases k with
 | zero => exact absurd h (by simp [spec_l17Try.f])
 | succ k =>
 simp only [spec_l17Try.f] at h
 have hu30 := Try.underlying30
 have HR0_1 := ak hr0_1
 have HC0_1 := ak hc0_1
 clear hr0_1 hc0_1
 have HR1 := ak hr1
 have HC1 := ak hc1
 clear hr1 hc1
 have HR2 := ak hr2
 have HC2 := ak hc2
 clear hr2 hc2
 have HO3 := ak (show Kd.V (Kd.int .i64) 3 w w.heap.size (fun k_ => (P3_ k_ ∨ w.heap.size ≤ k_)) (.slice A3 l3.length c3) l3 from Kd.V_mono hs3 (fun k_ hk => .inl hk))
 have HB := ak (Below.refl w.heap.size w)
 have H : (if (l2.length : Int) = 0 then ((spec_l17Cost.f k a0_0 l0_1 l1).bind fun t1268 => (if t1268 < a4 then ((some (([] : List Int) : List Int)).bind fun y1269 => (if y1269.length + l1.length < 17592186044416 then (some ((y1269 ++ l1), t1268)) else (none))) else (some (l3, a4)))) else (spec_l17Try.l0 k l1 l2 l3 a4 0 a0_0 l0_1)) = some (r1, r2) := h
 clear h
 by_cases c6 : (l2.length : Int) = 0
 ·rw [if_pos c6] at H
  have c6b0 : ((l2.length : Int) == 0) = true := beq_iff_eq.mpr c6
  have c6b1 : ((l2.length : Int) != 0) = false := bne_eq_false_iff_eq.mpr c6
  clear c6
  replace H := Option.bind_eq_some_iff.mp H
  obtain ⟨t1268, A70, H⟩ := H
  have A7 := ak A70
  clear A70
  by_cases c8 : t1268 < a4
  rotate_left
  ·rw [if_neg c8] at H
   have c8b0 : decide (t1268 < a4) = false := decide_eq_false c8
   clear c8
   simp only [Option.some.injEq, Prod.mk.injEq] at H
   obtain ⟨rfl, rfl⟩ := H
   go_enter Try.func108, Try.ntmps108
   go_wp2_with (first | ((with_reducible refine gate_dst (N := 5) rfl ?_); refine box_event ?hg (N := 5) ?hd (cs := #[.int .i64 a0_0, .slice A0_1 l0_1.length c0_1]) (t := 30) ?hr ?_; (case hd => rfl); (case hg => rfl); (case hr => first | (go_simp; done) | (go_simp; rfl)); intro gb1267 hg w16 hbox hb; replace HO3 := ak (Kd.V_below (Kd.V_elderB (by (with_reducible repeat (first | apply Kd.V_alloc | apply Kd.V_drewN | apply Kd.V_drew)); exact HO3.out) gb1267 (Nat.le_of_eq hg.symm)) hb); have BK1267 := ak (hbox); have GW1267 := ak ((by rw [hg]; exact (below_size (bl HB)) : w.heap.size ≤ gb1267)); have GE1267 := ak ((by rw [hg]; exact (below_size (bl HB)) : w.heap.size ≤ gb1267)); replace HB := ak (below_step (bl HB) hb); clear hb hbox hg; have hcz17_0 := bc w16 BK1267 0 (.int .i64 a0_0) rfl; have hcz17_1 := bc w16 BK1267 1 (.slice A0_1 l0_1.length c0_1) rfl; have hfz17_0 := fz BK1267 0; have hfz17_1 := fz BK1267 1) | ((with_reducible refine gate_callee (f := 67) rfl ?_); refine goesL_ (some 20) rfl rfl Try.func67 (by kernel_rfl) rfl #[.agg #[.int .i64 a0_0, .slice A0_1 l0_1.length c0_1], .slice A1 l1.length c1] rfl (by (try simp only [List.map_toArray, List.map_cons, List.map_nil]); first | done | rfl | (simp only [List.length_drop, List.length_take]; rfl)) ?_; (with_reducible refine (spec_l17Cost.calls k a0_0 _ _ l0_1 _ _ l1 t1268 _ ?side1 ?side2 ?side3 ?side4 A7.out).mono ?_); (case side1 => repeat (first | exact (Kd.C_below HR0_1.out HB.out) | (with_reducible refine Kd.C_alloc ?_ _) | (with_reducible refine Kd.C_drewN ?_ _) | (with_reducible refine Kd.C_drew ?_))); (case side2 => exact HC0_1.out); (case side3 => repeat (first | exact (Kd.C_below HR1.out HB.out) | (with_reducible refine Kd.C_alloc ?_ _) | (with_reducible refine Kd.C_drewN ?_ _) | (with_reducible refine Kd.C_drew ?_))); (case side4 => exact HC1.out); rintro e w18 ⟨rfl, hb⟩; refine ⟨_, rfl, ?_⟩; replace HO3 := ak (Kd.V_below (by (with_reducible repeat (first | apply Kd.V_alloc | apply Kd.V_drewN | apply Kd.V_drew)); exact HO3.out) hb); replace BK1267 := ak (blk_below (bk BK1267) hb); replace HB := ak (below_step (bl1 HB GE1267) hb); (try clear hb); (try clear hb2); (try clear hk); (try clear hi)))
   go_ret2
   exact ⟨_, by first | rfl | (simp [errW_none, errW_some] <;> rfl) | (simp [*, errW_none, errW_some] <;> rfl), by (with_reducible repeat (first | apply Kd.V_alloc | apply Kd.V_drewN | apply Kd.V_drew)); exact Kd.V_mono HO3.out (fun _ hk => hk.1), bl1 HB GE1267⟩
  rw [if_pos c8] at H
  have c8b0 : decide (t1268 < a4) = true := decide_eq_true c8
  clear c8
  obtain ⟨y1269, hy1269⟩ : ∃ y_ : List Int, y_ = (([] : List Int)) := ⟨_, rfl⟩
  replace H : (if y1269.length + l1.length < 17592186044416 then (some ((y1269 ++ l1), t1268)) else (none)) = some (r1, r2) := by first | (rw [hy1269]; with_reducible exact H) | (have H2_ := (Option.bind_some _ _).symm.trans H; rw [hy1269]; with_reducible exact H2_) | (have H2_ := (Option.bind_some _ _).symm.trans H; with_reducible exact H2_) | with_reducible exact H | (rw [hy1269]; exact H) | exact H
  have Ny1269 := ak hy1269
  clear hy1269
  by_cases c9 : y1269.length + l1.length < 17592186044416
  rotate_left
  ·rw [if_neg c9] at H
   exact absurd H (by simp)
  rw [if_pos c9] at H
  have LMc9 := ak c9
  clear c9
  obtain ⟨y1272, hy1272⟩ : ∃ y_ : List Int, y_ = (y1269 ++ l1) := ⟨_, rfl⟩
  replace H : (some (y1272, t1268)) = some (r1, r2) := by first | (rw [hy1272]; with_reducible exact H) | (have H2_ := (Option.bind_some _ _).symm.trans H; rw [hy1272]; with_reducible exact H2_) | (have H2_ := (Option.bind_some _ _).symm.trans H; with_reducible exact H2_) | with_reducible exact H | (rw [hy1272]; exact H) | exact H
  have Ny1272 := ak hy1272
  clear hy1272
  simp only [Option.some.injEq, Prod.mk.injEq] at H
  obtain ⟨rfl, rfl⟩ := H
  go_enter Try.func108, Try.ntmps108
  go_wp2_with (first | ((with_reducible refine gate_dst (N := 5) rfl ?_); refine box_event ?hg (N := 5) ?hd (cs := #[.int .i64 a0_0, .slice A0_1 l0_1.length c0_1]) (t := 30) ?hr ?_; (case hd => rfl); (case hg => rfl); (case hr => first | (go_simp; done) | (go_simp; rfl)); intro gb1267 hg w10 hbox hb; replace HO3 := ak (Kd.V_below (Kd.V_elderB (by (with_reducible repeat (first | apply Kd.V_alloc | apply Kd.V_drewN | apply Kd.V_drew)); exact HO3.out) gb1267 (Nat.le_of_eq hg.symm)) hb); have BK1267 := ak (hbox); have GW1267 := ak ((by rw [hg]; exact (below_size (bl HB)) : w.heap.size ≤ gb1267)); have GE1267 := ak ((by rw [hg]; exact (below_size (bl HB)) : w.heap.size ≤ gb1267)); replace HB := ak (below_step (bl HB) hb); clear hb hbox hg; have hcz11_0 := bc w10 BK1267 0 (.int .i64 a0_0) rfl; have hcz11_1 := bc w10 BK1267 1 (.slice A0_1 l0_1.length c0_1) rfl; have hfz11_0 := fz BK1267 0; have hfz11_1 := fz BK1267 1) | ((with_reducible refine gate_callee (f := 67) rfl ?_); refine goesL_ (some 20) rfl rfl Try.func67 (by kernel_rfl) rfl #[.agg #[.int .i64 a0_0, .slice A0_1 l0_1.length c0_1], .slice A1 l1.length c1] rfl (by (try simp only [List.map_toArray, List.map_cons, List.map_nil]); first | done | rfl | (simp only [List.length_drop, List.length_take]; rfl)) ?_; (with_reducible refine (spec_l17Cost.calls k a0_0 _ _ l0_1 _ _ l1 t1268 _ ?side1 ?side2 ?side3 ?side4 A7.out).mono ?_); (case side1 => repeat (first | exact (Kd.C_below HR0_1.out HB.out) | (with_reducible refine Kd.C_alloc ?_ _) | (with_reducible refine Kd.C_drewN ?_ _) | (with_reducible refine Kd.C_drew ?_))); (case side2 => exact HC0_1.out); (case side3 => repeat (first | exact (Kd.C_below HR1.out HB.out) | (with_reducible refine Kd.C_alloc ?_ _) | (with_reducible refine Kd.C_drewN ?_ _) | (with_reducible refine Kd.C_drew ?_))); (case side4 => exact HC1.out); rintro e w12 ⟨rfl, hb⟩; refine ⟨_, rfl, ?_⟩; replace HO3 := ak (Kd.V_below (by (with_reducible repeat (first | apply Kd.V_alloc | apply Kd.V_drewN | apply Kd.V_drew)); exact HO3.out) hb); replace BK1267 := ak (blk_below (bk BK1267) hb); replace HB := ak (below_step (bl1 HB GE1267) hb); (try clear hb); (try clear hb2); (try clear hk); (try clear hi)) | ((with_reducible refine gate_dst (N := 24) rfl ?_); refine Kd.R_lit (Kd.int .i64) _ 3 ?hg (N := 24) ?hd (xs := ([] : List Int)) (inner := []) (ok := fun _ => True) (okp := fun _ => True) ?hr ?hp (fun _ hk => hk) trivial (Below.refl _ _) (Nat.le_refl _) (by simp) ?_; (case hd => rfl); (case hg => rfl); (case hr => first | (go_simp; done) | (go_simp; rfl)); (case hp => exact (Reps.none _ _)); intro v1270 w13 ho14 hb hg_ hnew_; clear hg_ hnew_; (first | rw [← Ny1269.out] at ho14 | (simp only [Int.reduceToNat] at ho14; rw [← Ny1269.out] at ho14)); replace HO3 := ak (Kd.V_elder' (by (with_reducible repeat (first | apply Kd.V_alloc | apply Kd.V_drewN | apply Kd.V_drew)); exact HO3.out) (Kd.R_base ho14) hb); have HO1271 := ak (Kd.R_lower (Kd.R_newM (M := fun k_ => (w.heap.size ≤ k_)) ho14 (below_size (bl1 HB GE1267)) (fun k_ h_ => h_)) (below_size (bl1 HB GE1267))); replace BK1267 := ak (blk_below (bk BK1267) hb); replace HB := ak (below_step (bl1 HB GE1267) hb); clear hb ho14) | ((with_reducible refine gate_builtin (b := .append) (xs := #[.tmp 24, .tmp 25]) rfl ?_); at_builtin; refine Kd.R_append_rows (Kd.int .i64) (w0 := w) w.heap.size rfl (.tmp 24) (.tmp 25) 26 3 (.int .i64 0) 8 rfl Try.underlying26 info3 rfl (by decide) (by omega) v1270 y1269 l1 _ _ _ (fun k_ => (w.heap.size ≤ k_)) (fun _ => False) rfl rfl ?aO ?aR (fun _ _ h => h) (fun _ h => h.elim) ?aF ?aB ?aS ?aL ?_; (case aR => repeat (first | exact (Kd.C_below HR1.out HB.out) | (with_reducible refine Kd.C_alloc ?_ _) | (with_reducible refine Kd.C_drewN ?_ _) | (with_reducible refine Kd.C_drew ?_))); (case aB => exact (bl1 HB GE1267)); (case aF => exact (fun k_ hk => (Nat.le_trans (below_size (bl1 HB GE1267)) hk))); (case aO => exact (by (with_reducible repeat (first | apply Kd.R_alloc | apply Kd.R_drewN | apply Kd.R_drew)); exact Kd.R_mono HO1271.out (fun _ hk => hk.1))); (case aS => exact (below_size (bl1 HB GE1267))); (case aL => have := LMc9.out; omega); intro v1273 w15 ho hb hg hat; rw [← Ny1272.out] at ho; have n0_ := ak (Kd.V_afterv (ok := (fun k_ => (P3_ k_ ∨ w.heap.size ≤ k_) ∧ k_ ≠ gb1267)) (by (with_reducible repeat (first | apply Kd.V_alloc | apply Kd.V_drewN | apply Kd.V_drew)); exact HO3.out) hg hat); have n1_ := ak (blk_grown (bk BK1267) hg (Kd.R_ne HO1271.out BK1267.out (by decide))); have n2_ := ak (hb); have n3_ := ak (ho); clear HO3; clear BK1267; clear HB; clear HO1271; have HO3 := n0_; have BK1267 := n1_; have HB := n2_; have HO1274 := n3_; clear n0_ n1_ n2_ n3_; clear ho hb hg hat))
  go_ret2
  exact ⟨_, by first | rfl | (simp [errW_none, errW_some] <;> rfl) | (simp [*, errW_none, errW_some] <;> rfl), Kd.V_mono (Kd.R_V (rk HO1274)) (fun k_ hk => by first | exact ⟨(.inr (hk.1)), hk.2⟩ | exact (.inr (hk))), bl1 HB GE1267⟩
 rw [if_neg c6] at H
 have c6b0 : ((l2.length : Int) == 0) = false := beq_eq_false_iff_ne.mpr c6
 have c6b1 : ((l2.length : Int) != 0) = true := bne_iff_ne.mpr c6
 have c6b2 : ¬ (l2 = []) := fun h_ => c6 (by rw [h_]; rfl)
 have H' := ak H
 clear H
 go_enter Try.func108, Try.ntmps108
 go_wp2_with (first | ((with_reducible refine gate_dst (N := 5) rfl ?_); refine box_event ?hg (N := 5) ?hd (cs := #[.int .i64 a0_0, .slice A0_1 l0_1.length c0_1]) (t := 30) ?hr ?_; (case hd => rfl); (case hg => rfl); (case hr => first | (go_simp; done) | (go_simp; rfl)); intro gb1267 hg w19 hbox hb; replace HO3 := ak (Kd.V_below (Kd.V_elderB (by (with_reducible repeat (first | apply Kd.V_alloc | apply Kd.V_drewN | apply Kd.V_drew)); exact HO3.out) gb1267 (Nat.le_of_eq hg.symm)) hb); have BK1267 := ak (hbox); have GW1267 := ak ((by rw [hg]; exact (below_size (bl HB)) : w.heap.size ≤ gb1267)); have GE1267 := ak ((by rw [hg]; exact (below_size (bl HB)) : w.heap.size ≤ gb1267)); replace HB := ak (below_step (bl HB) hb); clear hb hbox hg))
 go_loopg [3, 4, 13] k (fun kq v3 v4 v13 w' => ∃ (x3_1 : List Int) (x4_1 : Int) (x13_1 : Int), v4 = .int .i64 x4_1 ∧ v13 = .int .i64 x13_1 ∧ Aside0 (spec_l17Try.l0 kq l1 l2 x3_1 x4_1 x13_1 a0_0 l0_1 = some (r1, r2)) ∧ Aside0 (kq ≤ k) ∧ Aside0 (Kd.V (Kd.int .i64) 3 w' w.heap.size (fun k_ => (P3_ k_ ∨ w.heap.size ≤ k_) ∧ k_ ≠ gb1267) v3 x3_1) ∧ Aside0 (w'.heap[gb1267]? = some (.cells #[.int .i64 a0_0, (.slice A0_1 l0_1.length c0_1)] 30 (0, 0))) ∧ Aside0 (Below w.heap.size w w'))
 case atStart => exact ⟨(l3), (a4), (0), (by first | rfl | (simp; done) | (simp [*]; done)), (by first | rfl | (simp; done) | (simp [*]; done)), H', ⟨Nat.le_refl _⟩, ⟨by (with_reducible repeat (first | apply Kd.V_alloc | apply Kd.V_drewN | apply Kd.V_drew)); exact HO3.out⟩, ⟨bk BK1267⟩, ⟨bl1 HB GE1267⟩⟩
 clear H'
 try clear c1
 try clear c2
 try clear p2
 try clear c3
 try clear c6
 try clear c6b0
 try clear c6b1
 try clear c6b2
 try clear c8
 try clear c8b0
 try clear c9
 try clear c10
 try clear hcz11_0
 try clear hcz11_1
 try clear hcz17_0
 try clear hcz17_1
 try clear hfz11_0
 try clear hfz11_1
 try clear hfz17_0
 try clear hfz17_1
 obtain ⟨x3_1, x4_1, x13_1, rfl, rfl, HA, HK1, HO_3, BK1267, HB⟩ := hrel
 cases gk with
 | zero => exact absurd HA.out (by simp [spec_l17Try.l0])
 | succ k1 =>
  have H := HA.out
  clear HA
  simp only [spec_l17Try.l0] at H
  by_cases c20 : x13_1 < (l2.length : Int)
  rotate_left
  ·rw [if_neg c20] at H
   have c20b0 : decide (x13_1 < (l2.length : Int)) = false := decide_eq_false c20
   clear c20
   simp only [Option.some.injEq, Prod.mk.injEq] at H
   obtain ⟨rfl, rfl⟩ := H
   go_wp2
   go_ret2
   exact ⟨_, by first | rfl | (simp [errW_none, errW_some] <;> rfl) | (simp [*, errW_none, errW_some] <;> rfl), by (with_reducible repeat (first | apply Kd.V_alloc | apply Kd.V_drewN | apply Kd.V_drew)); exact Kd.V_mono HO_3.out (fun _ hk => hk.1), bl1 HB GE1267⟩
  rw [if_pos c20] at H
  have c20b0 : decide (x13_1 < (l2.length : Int)) = true := decide_eq_true c20
  clear c20
  obtain ⟨y1275, hy1275⟩ : ∃ y_ : List Int, y_ = (([] : List Int)) := ⟨_, rfl⟩
  replace H : (if 0 ≤ x13_1 then (if x13_1 ≤ (l2.length : Int) then (if y1275.length + (l2.take (x13_1 : Int).toNat).length < 17592186044416 then ((some (y1275 ++ (l2.take (x13_1 : Int).toNat) : List Int)).bind fun y1279 => (if 0 ≤ (wrap64 (x13_1 + 1)) then (if (wrap64 (x13_1 + 1)) ≤ (l2.length : Int) then (if y1279.length + (l2.drop ((wrap64 (x13_1 + 1)) : Int).toNat).length < 17592186044416 then ((some (([] : List Int) : List Int)).bind fun y1286 => (if y1286.length + l1.length < 17592186044416 then ((some (y1286 ++ l1 : List Int)).bind fun y1289 => ((some (([rd l2 x13_1] : List Int) : List Int)).bind fun y1293 => (if y1289.length + y1293.length < 17592186044416 then ((spec_l17Try.f k1 a0_0 l0_1 (y1289 ++ y1293) (y1279 ++ (l2.drop ((wrap64 (x13_1 + 1)) : Int).toNat)) x3_1 x4_1).bind fun bt1299 => (spec_l17Try.l0 k1 l1 l2 bt1299.1 bt1299.2 (wrap64 (x13_1 + 1)) a0_0 l0_1)) else (none)))) else (none))) else (none)) else (none)) else (none))) else (none)) else (none)) else (none)) = some (r1, r2) := by first | (rw [hy1275]; with_reducible exact H) | (have H2_ := (Option.bind_some _ _).symm.trans H; rw [hy1275]; with_reducible exact H2_) | (have H2_ := (Option.bind_some _ _).symm.trans H; with_reducible exact H2_) | with_reducible exact H | (rw [hy1275]; exact H) | exact H
  have Ny1275 := ak hy1275
  clear hy1275
  by_cases c21 : 0 ≤ x13_1
  rotate_left
  ·rw [if_neg c21] at H
   exact absurd H (by simp)
  rw [if_pos c21] at H
  have c21b0 := eq_true c21
  have c21b1 : decide (0 ≤ x13_1) = true := decide_eq_true c21
  clear c21
  by_cases c22 : x13_1 ≤ (l2.length : Int)
  rotate_left
  ·rw [if_neg c22] at H
   exact absurd H (by simp)
  rw [if_pos c22] at H
  have c22b0 := eq_true c22
  have c22b1 : decide (x13_1 ≤ (l2.length : Int)) = true := decide_eq_true c22
  clear c22
  by_cases c23 : y1275.length + (l2.take (x13_1 : Int).toNat).length < 17592186044416
  rotate_left
  ·rw [if_neg c23] at H
   exact absurd H (by simp)
  rw [if_pos c23] at H
  have LMc23 := ak c23
  clear c23
  obtain ⟨y1279, hy1279⟩ : ∃ y_ : List Int, y_ = (y1275 ++ (l2.take (x13_1 : Int).toNat)) := ⟨_, rfl⟩
  replace H : (if 0 ≤ (wrap64 (x13_1 + 1)) then (if (wrap64 (x13_1 + 1)) ≤ (l2.length : Int) then (if y1279.length + (l2.drop ((wrap64 (x13_1 + 1)) : Int).toNat).length < 17592186044416 then ((some (([] : List Int) : List Int)).bind fun y1286 => (if y1286.length + l1.length < 17592186044416 then ((some (y1286 ++ l1 : List Int)).bind fun y1289 => ((some (([rd l2 x13_1] : List Int) : List Int)).bind fun y1293 => (if y1289.length + y1293.length < 17592186044416 then ((spec_l17Try.f k1 a0_0 l0_1 (y1289 ++ y1293) (y1279 ++ (l2.drop ((wrap64 (x13_1 + 1)) : Int).toNat)) x3_1 x4_1).bind fun bt1299 => (spec_l17Try.l0 k1 l1 l2 bt1299.1 bt1299.2 (wrap64 (x13_1 + 1)) a0_0 l0_1)) else (none)))) else (none))) else (none)) else (none)) else (none)) = some (r1, r2) := by first | (rw [hy1279]; with_reducible exact H) | (have H2_ := (Option.bind_some _ _).symm.trans H; rw [hy1279]; with_reducible exact H2_) | (have H2_ := (Option.bind_some _ _).symm.trans H; with_reducible exact H2_) | with_reducible exact H | (rw [hy1279]; exact H) | exact H
  have Ny1279 := ak hy1279
  clear hy1279
  obtain ⟨ji24, hji24⟩ : ∃ j_ : Int, (wrap64 (x13_1 + 1)) = j_ := ⟨_, rfl⟩
  replace H : (if 0 ≤ (ji24) then (if (ji24) ≤ (l2.length : Int) then (if y1279.length + (l2.drop ((ji24) : Int).toNat).length < 17592186044416 then ((some (([] : List Int) : List Int)).bind fun y1286 => (if y1286.length + l1.length < 17592186044416 then ((some (y1286 ++ l1 : List Int)).bind fun y1289 => ((some (([rd l2 x13_1] : List Int) : List Int)).bind fun y1293 => (if y1289.length + y1293.length < 17592186044416 then ((spec_l17Try.f k1 a0_0 l0_1 (y1289 ++ y1293) (y1279 ++ (l2.drop ((ji24) : Int).toNat)) x3_1 x4_1).bind fun bt1299 => (spec_l17Try.l0 k1 l1 l2 bt1299.1 bt1299.2 ji24 a0_0 l0_1)) else (none)))) else (none))) else (none)) else (none)) else (none)) = some (r1, r2) := by first | (rw [hji24] at H; exact H) | (simp only [hji24] at H ⊢; exact H)
  have hji24w : (IntKind.i64.wrap (x13_1 + 1)) = ji24 := (i64_w _).trans hji24
  by_cases c25 : 0 ≤ (ji24)
  rotate_left
  ·rw [if_neg c25] at H
   exact absurd H (by simp)
  rw [if_pos c25] at H
  have c25b0 := eq_true c25
  have c25b1 : decide (0 ≤ (ji24)) = true := decide_eq_true c25
  clear c25
  by_cases c26 : (ji24) ≤ (l2.length : Int)
  rotate_left
  ·rw [if_neg c26] at H
   exact absurd H (by simp)
  rw [if_pos c26] at H
  have c26b0 := eq_true c26
  have c26b1 : decide ((ji24) ≤ (l2.length : Int)) = true := decide_eq_true c26
  clear c26
  by_cases c27 : y1279.length + (l2.drop ((ji24) : Int).toNat).length < 17592186044416
  rotate_left
  ·rw [if_neg c27] at H
   exact absurd H (by simp)
  rw [if_pos c27] at H
  have LMc27 := ak c27
  clear c27
  obtain ⟨y1283, hy1283⟩ : ∃ y_ : List Int, y_ = (y1279 ++ (l2.drop ((ji24) : Int).toNat)) := ⟨_, rfl⟩
  replace H : ((some (([] : List Int) : List Int)).bind fun y1286 => (if y1286.length + l1.length < 17592186044416 then ((some (y1286 ++ l1 : List Int)).bind fun y1289 => ((some (([rd l2 x13_1] : List Int) : List Int)).bind fun y1293 => (if y1289.length + y1293.length < 17592186044416 then ((spec_l17Try.f k1 a0_0 l0_1 (y1289 ++ y1293) y1283 x3_1 x4_1).bind fun bt1299 => (spec_l17Try.l0 k1 l1 l2 bt1299.1 bt1299.2 ji24 a0_0 l0_1)) else (none)))) else (none))) = some (r1, r2) := by first | (rw [hy1283]; with_reducible exact H) | (have H2_ := (Option.bind_some _ _).symm.trans H; rw [hy1283]; with_reducible exact H2_) | (have H2_ := (Option.bind_some _ _).symm.trans H; with_reducible exact H2_) | with_reducible exact H | (rw [hy1283]; exact H) | exact H
  have Ny1283 := ak hy1283
  clear hy1283
  obtain ⟨y1286, hy1286⟩ : ∃ y_ : List Int, y_ = (([] : List Int)) := ⟨_, rfl⟩
  replace H : (if y1286.length + l1.length < 17592186044416 then ((some (y1286 ++ l1 : List Int)).bind fun y1289 => ((some (([rd l2 x13_1] : List Int) : List Int)).bind fun y1293 => (if y1289.length + y1293.length < 17592186044416 then ((spec_l17Try.f k1 a0_0 l0_1 (y1289 ++ y1293) y1283 x3_1 x4_1).bind fun bt1299 => (spec_l17Try.l0 k1 l1 l2 bt1299.1 bt1299.2 ji24 a0_0 l0_1)) else (none)))) else (none)) = some (r1, r2) := by first | (rw [hy1286]; with_reducible exact H) | (have H2_ := (Option.bind_some _ _).symm.trans H; rw [hy1286]; with_reducible exact H2_) | (have H2_ := (Option.bind_some _ _).symm.trans H; with_reducible exact H2_) | with_reducible exact H | (rw [hy1286]; exact H) | exact H
  have Ny1286 := ak hy1286
  clear hy1286
  by_cases c28 : y1286.length + l1.length < 17592186044416
  rotate_left
  ·rw [if_neg c28] at H
   exact absurd H (by simp)
  rw [if_pos c28] at H
  have LMc28 := ak c28
  clear c28
  obtain ⟨y1289, hy1289⟩ : ∃ y_ : List Int, y_ = (y1286 ++ l1) := ⟨_, rfl⟩
  replace H : ((some (([rd l2 x13_1] : List Int) : List Int)).bind fun y1293 => (if y1289.length + y1293.length < 17592186044416 then ((spec_l17Try.f k1 a0_0 l0_1 (y1289 ++ y1293) y1283 x3_1 x4_1).bind fun bt1299 => (spec_l17Try.l0 k1 l1 l2 bt1299.1 bt1299.2 ji24 a0_0 l0_1)) else (none))) = some (r1, r2) := by first | (rw [hy1289]; with_reducible exact H) | (have H2_ := (Option.bind_some _ _).symm.trans H; rw [hy1289]; with_reducible exact H2_) | (have H2_ := (Option.bind_some _ _).symm.trans H; with_reducible exact H2_) | with_reducible exact H | (rw [hy1289]; exact H) | exact H
  have Ny1289 := ak hy1289
  clear hy1289
  obtain ⟨y1293, hy1293⟩ : ∃ y_ : List Int, y_ = (([rd l2 x13_1] : List Int)) := ⟨_, rfl⟩
  replace H : (if y1289.length + y1293.length < 17592186044416 then ((spec_l17Try.f k1 a0_0 l0_1 (y1289 ++ y1293) y1283 x3_1 x4_1).bind fun bt1299 => (spec_l17Try.l0 k1 l1 l2 bt1299.1 bt1299.2 ji24 a0_0 l0_1)) else (none)) = some (r1, r2) := by first | (rw [hy1293]; with_reducible exact H) | (have H2_ := (Option.bind_some _ _).symm.trans H; rw [hy1293]; with_reducible exact H2_) | (have H2_ := (Option.bind_some _ _).symm.trans H; with_reducible exact H2_) | with_reducible exact H | (rw [hy1293]; exact H) | exact H
  have Ny1293 := ak hy1293
  clear hy1293
  by_cases c29 : y1289.length + y1293.length < 17592186044416
  rotate_left
  ·rw [if_neg c29] at H
   exact absurd H (by simp)
  rw [if_pos c29] at H
  have LMc29 := ak c29
  clear c29
  obtain ⟨y1296, hy1296⟩ : ∃ y_ : List Int, y_ = (y1289 ++ y1293) := ⟨_, rfl⟩
  replace H : ((spec_l17Try.f k1 a0_0 l0_1 y1296 y1283 x3_1 x4_1).bind fun bt1299 => (spec_l17Try.l0 k1 l1 l2 bt1299.1 bt1299.2 ji24 a0_0 l0_1)) = some (r1, r2) := by first | (rw [hy1296]; with_reducible exact H) | (have H2_ := (Option.bind_some _ _).symm.trans H; rw [hy1296]; with_reducible exact H2_) | (have H2_ := (Option.bind_some _ _).symm.trans H; with_reducible exact H2_) | with_reducible exact H | (rw [hy1296]; exact H) | exact H
  have Ny1296 := ak hy1296
  clear hy1296
  replace H := Option.bind_eq_some_iff.mp H
  obtain ⟨⟨t1299, t1302⟩, A300, H⟩ := H
  have A30 := ak A300
  clear A300
  have H' := ak H
  clear H
  try go_wp2
  replace HO_3 := ak (Kd.V_drew HO_3.out)
  replace BK1267 := ak (blk_drew BK1267.out)
  replace HB := ak (below_drew1 HB.out)
  obtain ⟨i032, hi032, _, hsz32, _⟩ := info_parts info3
  obtain ⟨hcut32, hA32, hC32⟩ := print_take_of (P := Try.prog) (Value.int .i64) 0 26 3 .i64 Try.underlying26 hi032 hsz32 A2 c2 l2 x13_1 (oT (by first | (with_reducible assumption) | assumption)) (oT (by first | (with_reducible assumption) | assumption)) HC2.out
  have HR1278 := ak (Kd.C_of_reads (h1 := fun _ => rfl) (hA32 _ (Kd.reads_of_C HR2.out)))
  have HC1278 := ak hC32
  clear hA32 hC32 hi032 hsz32
  obtain ⟨i033, hi033, _, hsz33, _⟩ := info_parts info3
  obtain ⟨A33, hcut33, hA33, hC33⟩ := print_drop_of (P := Try.prog) (Value.int .i64) 0 26 3 .i64 Try.underlying26 hi033 hsz33 A2 c2 l2 (ji24) (oT (by first | (with_reducible assumption) | assumption)) (oT (by first | (with_reducible assumption) | assumption)) HC2.out
  have HR1282 := ak (Kd.C_of_reads (h1 := fun _ => rfl) (hA33 _ (Kd.reads_of_C HR2.out)))
  have HC1282 := ak hC33
  clear hA33 hC33 hi033 hsz33
  refine start_ (n := 11) (S := fun w' => True) (ds := []) (ms 11 0) (by kernel_rfl) rfl (by kernel_rfl) trivial (fun hHeld => ?_); refine with_tabW spec_l17Try.tab9 spec_l17Try.bits9 (fun HT_ HW_ => ?_)
  generalize wr.drew = w31 at HO_3 BK1267 HB HR1278 HR1282 hHeld ⊢
  refine pu 1 37 ?_ (ms 11 2) rfl rfl HT_ (by kernel_rfl) (fun _ _ _ h => h) (by rfl) ?_ ?_ ?_ ?_
  rotate_left
  ·intro w'
   go_simp
   with_reducible rfl
  rotate_left
  ·simp only [SX]
   rfl
  refine pu 2 38 ?_ (ms 11 6) rfl rfl HT_ (by kernel_rfl) (fun _ _ _ h => h) (by rfl) ?_ ?_ ?_ ?_
  rotate_left
  ·intro w'
   go_simp
   with_reducible rfl
  rotate_left
  ·simp only [SX]
   rfl
  refine pu 3 39 ?_ (ms 11 14) rfl rfl HT_ (by kernel_rfl) (fun _ _ _ h => h) (by rfl) ?_ ?_ ?_ ?_
  rotate_left
  ·intro w'
   go_simp
   with_reducible rfl
  rotate_left
  ·simp only [SX]
   rfl
  refine pu 5 41 ?_ (ms 11 46) rfl rfl HT_ (by kernel_rfl) (fun _ _ _ h => h) (by rfl) ?_ ?_ ?_ ?_
  rotate_left
  ·intro w'
   go_simp
   with_reducible rfl
  rotate_left
  ·simp only [SX]
   rfl
  refine pu 6 42 ?_ (ms 11 110) rfl rfl HT_ (by kernel_rfl) (fun _ _ _ h => h) (by rfl) ?_ ?_ ?_ ?_
  rotate_left
  ·intro w'
   go_simp
   with_reducible rfl
  rotate_left
  ·simp only [SX]
   rfl
  refine pu 7 43 ?_ (ms 11 238) rfl rfl HT_ (by kernel_rfl) (fun _ _ _ h => h) (by rfl) ?_ ?_ ?_ ?_
  rotate_left
  ·intro w'
   go_simp
   with_reducible rfl
  rotate_left
  ·simp only [SX]
   rfl
  refine pu 8 44 ?_ (ms 11 494) rfl rfl HT_ (by kernel_rfl) (fun _ _ _ h => h) (by rfl) ?_ ?_ ?_ ?_
  rotate_left
  ·intro w'
   go_simp
   with_reducible rfl
  rotate_left
  ·simp only [SX]
   rfl
  refine one_ (i := 0) (N := some 36) (ms 11 495) rfl rfl (one_of HT_.out (by kernel_rfl)) (by decide) (fun K hK => ?_)
  refine Kd.R_lit_step (Kd.int .i64) _ 3 ?hg (N := 36) ?hd (xs := ([] : List Int)) (inner := []) (ok := fun _ => True) (okp := fun _ => True) ?hr ?hp (fun _ hk => hk) trivial (Below.refl _ _) (Nat.le_refl _) (by simp) ?_; (case hd => rfl); (case hg => rfl); (case hr => first | (go_simp; done) | (go_simp; rfl)); (case hp => exact (Reps.none _ _))
  intro v1276 w34 ho35 hb hg_ hnew_
  clear hg_ hnew_
  (first | rw [← Ny1275.out] at ho35 | (simp only [Int.reduceToNat] at ho35; rw [← Ny1275.out] at ho35))
  replace HO_3 := ak (Kd.V_elder' (by (with_reducible repeat (first | apply Kd.V_alloc | apply Kd.V_drewN | apply Kd.V_drew)); exact HO_3.out) (Kd.R_base ho35) hb)
  have HO1277 := ak (Kd.R_lower (Kd.R_newM (M := fun k_ => (w.heap.size ≤ k_)) ho35 (below_size (bl1 HB GE1267)) (fun k_ h_ => h_)) (below_size (bl1 HB GE1267)))
  replace BK1267 := ak (blk_below (bk BK1267) hb)
  replace HB := ak (below_step (bl1 HB GE1267) hb)
  clear hb ho35
  refine hK.out _ _ trivial (fun hHeld => ?_)
  clear hK K
  refine norm_ (a' := ?_) ?_ ?_
  rotate_left
  ·show Act.put _ (some 36) _ = _
   simp only [SX]
   rfl
  refine one_ (i := 4) (N := some 40) (ms 11 511) rfl rfl (one_of HT_.out (by kernel_rfl)) (by decide) (fun K hK => ?_)
  refine Kd.R_append_rows_step (Kd.int .i64) (w0 := w) w.heap.size (by rfl) (.tmp 36) (.tmp 39) 26 3 (.int .i64 0) 8 rfl Try.underlying26 info3 rfl (by decide) (by omega) v1276 y1275 (l2.take (x13_1 : Int).toNat) _ _ _ (fun k_ => (w.heap.size ≤ k_)) (fun _ => False) rfl rfl ?aO ?aR (fun _ _ h => h) (fun _ h => h.elim) ?aF ?aB ?aS ?aL ?_
  (case aR => first | (have e_ : (l2.take (x13_1 : Int).toNat).length = x13_1.toNat := (by rw [List.length_take]; have h_ : (x13_1 : Int) ≤ (l2.length : Int) := oT (by first | (with_reducible assumption) | assumption); omega); have hx_ := (Kd.C_below HR1278.out HB.out); rw [e_] at hx_; exact hx_) | (rw [← show (l2.take (x13_1 : Int).toNat).length = x13_1.toNat from (by rw [List.length_take]; have h_ : (x13_1 : Int) ≤ (l2.length : Int) := oT (by first | (with_reducible assumption) | assumption); omega)]; repeat (first | exact (Kd.C_below HR1278.out HB.out) | (with_reducible refine Kd.C_alloc ?_ _) | (with_reducible refine Kd.C_drewN ?_ _) | (with_reducible refine Kd.C_drew ?_))) | (repeat (first | exact (Kd.C_below HR1278.out HB.out) | (with_reducible refine Kd.C_alloc ?_ _) | (with_reducible refine Kd.C_drewN ?_ _) | (with_reducible refine Kd.C_drew ?_))))
  (case aB => exact (bl1 HB GE1267))
  (case aF => exact (fun k_ hk => (Nat.le_trans (below_size (bl1 HB GE1267)) hk)))
  (case aO => exact (by (with_reducible repeat (first | apply Kd.R_alloc | apply Kd.R_drewN | apply Kd.R_drew)); exact Kd.R_mono HO1277.out (fun _ hk => hk.1)))
  (case aS => exact (below_size (bl1 HB GE1267)))
  (case aL => have := LMc23.out; have hlx_ := (show (l2.take (x13_1 : Int).toNat).length = x13_1.toNat from (by rw [List.length_take]; have h_ : (x13_1 : Int) ≤ (l2.length : Int) := oT (by first | (with_reducible assumption) | assumption); omega)); omega)
  intro v1280 w36 ho hb hg hat
  rw [← Ny1279.out] at ho
  have n0_ := ak (Kd.V_afterv (ok := (fun k_ => (P3_ k_ ∨ w.heap.size ≤ k_) ∧ k_ ≠ gb1267)) (by (with_reducible repeat (first | apply Kd.V_alloc | apply Kd.V_drewN | apply Kd.V_drew)); exact HO_3.out) hg hat)
  have n1_ := ak (blk_grown (bk BK1267) hg (Kd.R_ne HO1277.out BK1267.out (by decide)))
  have n2_ := ak (hb)
  have n3_ := ak (ho)
  clear HO_3
  clear BK1267
  clear HB
  clear HO1277
  have HO_3 := n0_
  have BK1267 := n1_
  have HB := n2_
  have HO1281 := n3_
  clear n0_ n1_ n2_ n3_
  clear ho hb hg hat
  refine hK.out _ _ trivial (fun hHeld => ?_)
  clear hK K
  refine norm_ (a' := ?_) ?_ ?_
  rotate_left
  ·show Act.put _ (some 40) _ = _
   simp only [SX]
   rfl
  refine one_ (i := 9) (N := some 45) (ms 11 1023) rfl rfl (one_of HT_.out (by kernel_rfl)) (by decide) (fun K hK => ?_)
  refine Kd.R_append_rows_step (Kd.int .i64) (w0 := w) w.heap.size (by rfl) (.tmp 40) (.tmp 44) 26 3 (.int .i64 0) 8 rfl Try.underlying26 info3 rfl (by decide) (by omega) v1280 y1279 (l2.drop ((ji24) : Int).toNat) _ _ _ (fun k_ => (w.heap.size ≤ k_)) (fun _ => False) rfl rfl ?aO ?aR (fun _ _ h => h) (fun _ h => h.elim) ?aF ?aB ?aS ?aL ?_
  (case aR => first | (rw [← show (l2.drop ((ji24) : Int).toNat).length = (l2.length - (ji24).toNat) from List.length_drop]; repeat (first | exact (Kd.C_below HR1282.out HB.out) | (with_reducible refine Kd.C_alloc ?_ _) | (with_reducible refine Kd.C_drewN ?_ _) | (with_reducible refine Kd.C_drew ?_))) | (repeat (first | exact (Kd.C_below HR1282.out HB.out) | (with_reducible refine Kd.C_alloc ?_ _) | (with_reducible refine Kd.C_drewN ?_ _) | (with_reducible refine Kd.C_drew ?_))))
  (case aB => exact (bl1 HB GE1267))
  (case aF => exact (fun k_ hk => (Nat.le_trans (below_size (bl1 HB GE1267)) hk)))
  (case aO => exact (rk HO1281))
  (case aS => exact (below_size (bl1 HB GE1267)))
  (case aL => have := LMc27.out; have hlx_ := (show (l2.drop ((ji24) : Int).toNat).length = (l2.length - (ji24).toNat) from List.length_drop); omega)
  intro v1284 w37 ho hb hg hat
  rw [← Ny1283.out] at ho
  have n0_ := ak (Kd.V_afterv (ok := (fun k_ => (P3_ k_ ∨ w.heap.size ≤ k_) ∧ k_ ≠ gb1267)) (by (with_reducible repeat (first | apply Kd.V_alloc | apply Kd.V_drewN | apply Kd.V_drew)); exact HO_3.out) hg hat)
  have n1_ := ak (blk_grown (bk BK1267) hg (Kd.R_ne HO1281.out BK1267.out (by decide)))
  have n2_ := ak (hb)
  have n3_ := ak (ho)
  clear HO_3
  clear BK1267
  clear HB
  clear HO1281
  have HO_3 := n0_
  have BK1267 := n1_
  have HB := n2_
  have HO1285 := n3_
  clear n0_ n1_ n2_ n3_
  clear ho hb hg hat
  refine hK.out _ _ trivial (fun hHeld => ?_)
  clear hK K
  refine norm_ (a' := ?_) ?_ ?_
  rotate_left
  ·show Act.put _ (some 45) _ = _
   simp only [SX]
   rfl
  refine pu 10 14 ?_ (ms 11 2047) rfl rfl HT_ (by kernel_rfl) (fun _ _ _ h => h) (by rfl) ?_ ?_ ?_ ?_
  rotate_left
  ·intro w'
   go_simp
   with_reducible rfl
  rotate_left
  ·simp only [SX]
   rfl
  refine done_ (done_of HT_.out (by kernel_rfl)) ?_
  obtain ⟨Ao38, co38, eo38⟩ := Kd.R_slice HO1285.out
  subst eo38
  obtain ⟨Ao39, co39, eo39⟩ := Kd.V_slice HO_3.out
  subst eo39
  try go_wp2
  replace HO_3 := ak (Kd.V_drew HO_3.out)
  replace HO1285 := ak (Kd.R_drew HO1285.out)
  replace BK1267 := ak (blk_drew BK1267.out)
  replace HB := ak (below_drew1 HB.out)
  have p1292 : 0 ≤ (x13_1 : Int) := oT (by first | (with_reducible assumption) | assumption)
  have q1292 : x13_1 < (l2.length : Int) := oT (by first | (with_reducible assumption) | assumption)
  obtain ⟨ad1292, e1292, hx1292_0⟩ := Kd.at_int HR2.out x13_1 p1292 q1292
  have hw1292_0 := hx1292_0
  cases e1292
  replace hx1292_0 := hcb HB.out hx1292_0
  replace p1292 := eq_true p1292
  replace q1292 := eq_true q1292
  refine start_ (n := 19) (S := fun w' => w'.cell? ⟨gb1267, 0, none⟩ = some (.int .i64 a0_0) ∧ w'.cell? ⟨gb1267, 1, none⟩ = some (.slice A0_1 l0_1.length c0_1) ∧ w'.cell? (ad1292.add (x13_1).toNat) = some (.int .i64 (rd l2 x13_1))) (ds := []) (ms 19 0) (by kernel_rfl) rfl (by kernel_rfl) ⟨(blk_cell BK1267.out 0).trans rfl, (blk_cell BK1267.out 1).trans rfl, ((HB.out.cell (World.block_lt_of_cell? w _ hw1292_0)).trans hw1292_0)⟩ (fun hHeld => ?_); refine with_tabW spec_l17Try.tab10 spec_l17Try.bits10 (fun HT_ HW_ => ?_)
  generalize w37.drew = w40 at HO_3 HO1285 BK1267 HB hx1292_0 hHeld ⊢
  refine pu 2 49 ?_ (ms 19 4) rfl rfl HT_ (by kernel_rfl) (fun _ _ _ h => h) (by rfl) ?_ ?_ ?_ ?_
  rotate_left
  ·intro w'
   go_simp
   with_reducible rfl
  rotate_left
  ·simp only [SX]
   rfl
  refine pu 4 51 ?_ (ms 19 20) rfl rfl HT_ (by kernel_rfl) (fun _ _ _ h => h) (by rfl) ?_ ?_ ?_ ?_
  rotate_left
  ·intro w'
   go_simp
   with_reducible rfl
  rotate_left
  ·simp only [SX]
   rfl
  refine pu 5 52 ?_ (ms 19 52) rfl rfl HT_ (by kernel_rfl) (fun _ _ _ h => h) (by rfl) ?_ ?_ ?_ ?_
  rotate_left
  ·intro w'
   go_simp
   with_reducible rfl
  rotate_left
  ·simp only [SX]
   rfl
  refine pu 6 53 ?_ (ms 19 116) rfl rfl HT_ (by kernel_rfl) (fun _ _ _ h => h) (by rfl) ?_ ?_ ?_ ?_
  rotate_left
  ·intro w'
   go_simp
   with_reducible rfl
  rotate_left
  ·simp only [SX]
   rfl
  refine pu 10 57 ?_ (ms 19 1140) rfl rfl HT_ (by kernel_rfl) (fun _ _ _ h => h) (by rfl) ?_ ?_ ?_ ?_
  rotate_left
  ·intro w'
   go_simp
   with_reducible rfl
  rotate_left
  ·simp only [SX]
   rfl
  refine pu 11 58 ?_ (ms 19 3188) rfl rfl HT_ (by kernel_rfl) (fun _ _ _ h => h) (by rfl) ?_ ?_ ?_ ?_
  rotate_left
  ·intro w'
   go_simp
   with_reducible rfl
  rotate_left
  ·simp only [SX]
   rfl
  refine pu 12 59 ?_ (ms 19 7284) rfl rfl HT_ (by kernel_rfl) (fun _ _ _ h => h) (by rfl) ?_ ?_ ?_ ?_
  rotate_left
  ·intro w'
   go_simp
   with_reducible rfl
  rotate_left
  ·simp only [SX]
   rfl
  refine tk 0 47 ?_ (ms 19 7285) rfl rfl HT_ HW_ (by kernel_rfl) (fun _ _ _ h => h) (by rfl) ?_ hHeld ?_ ?_ ?_
  rotate_left
  ·rintro w' ⟨s0, s1, s2⟩
   go_simp
   with_reducible rfl
  rotate_left
  ·simp only [SX]
   rfl
  refine tk 7 54 ?_ (ms 19 7413) rfl rfl HT_ HW_ (by kernel_rfl) (fun _ _ _ h => h) (by rfl) ?_ hHeld ?_ ?_ ?_
  rotate_left
  ·rintro w' ⟨s0, s1, s2⟩
   go_simp
   with_reducible rfl
  rotate_left
  ·simp only [SX]
   rfl
  refine join_ (σ := Value × Value × Value) 7 (ms 19 7679) (fun s_ => [(48, s_.1), (50, s_.2.1), (55, s_.2.2)]) (fun s_ w' => (w'.cell? ⟨gb1267, 0, none⟩ = some (.int .i64 a0_0) ∧ w'.cell? ⟨gb1267, 1, none⟩ = some (.slice A0_1 l0_1.length c0_1) ∧ w'.cell? (ad1292.add (x13_1).toNat) = some (.int .i64 (rd l2 x13_1))) ∧ (Kd.R (Kd.int .i64) 3 w' w.heap.size (fun k_ => (w.heap.size ≤ k_) ∧ some k_ ≠ (s_.2.1 : Value).ownBlock ∧ some k_ ≠ (s_.2.2 : Value).ownBlock) (.slice Ao38 y1283.length co38) y1283) ∧ (Kd.R (Kd.int .i64) 3 w' w.heap.size (fun k_ => (w.heap.size ≤ k_) ∧ some k_ ≠ (.slice Ao38 y1283.length co38 : Value).ownBlock ∧ some k_ ≠ (s_.2.2 : Value).ownBlock) s_.2.1 y1289) ∧ (Kd.R (Kd.int .i64) 3 w' w.heap.size (fun k_ => (w.heap.size ≤ k_) ∧ some k_ ≠ (.slice Ao38 y1283.length co38 : Value).ownBlock ∧ some k_ ≠ (s_.2.1 : Value).ownBlock) s_.2.2 y1293) ∧ (Kd.V (Kd.int .i64) 3 w' w.heap.size (fun k_ => (P3_ k_ ∨ w.heap.size ≤ k_) ∧ some k_ ≠ (.slice Ao38 y1283.length co38 : Value).ownBlock ∧ some k_ ≠ (s_.2.1 : Value).ownBlock ∧ some k_ ≠ (s_.2.2 : Value).ownBlock ∧ k_ ≠ gb1267) (.slice Ao39 x3_1.length co39) x3_1) ∧ (w'.heap[gb1267]? = some (.cells #[.int .i64 a0_0, .slice A0_1 l0_1.length c0_1] 30 (0, 0))) ∧ (Below w.heap.size w w')) ?_ ?_
  rotate_left
  ·intro hCont
   refine two_ (i := 1) (j := 8) (Ni := some 48) (Nj := some 55) (ms 19 7415) (ms 19 7669) rfl rfl rfl rfl (two_of HT_.out (by kernel_rfl)) (by decide) (by decide) (fun K hK => ?_) (fun K hK => ?_)
   rotate_left
   ·skip
    refine Kd.R_lit_step (Kd.int .i64) _ 3 ?hg (N := 55) ?hd (xs := ([rd l2 x13_1] : List Int)) (inner := [.int .i64 (rd l2 x13_1)]) (ok := fun _ => True) (okp := fun _ => True) ?hr ?hp (fun _ hk => hk) trivial (Below.refl _ _) (Nat.le_refl _) (by simp) ?_; (case hd => rfl); (case hg => rfl); (case hr => first | (go_simp; done) | (go_simp; rfl)); (case hp => exact (Reps.one (show Kd.M (Kd.int .i64) _ _ _ (rd l2 x13_1) [.int .i64 (rd l2 x13_1)] from rfl) (Reps.none _ _)))
    intro v1294 w41 ho42 hb hg_ hnew_
    clear hg_ hnew_
    (first | rw [← Ny1293.out] at ho42 | (simp only [Int.reduceToNat] at ho42; rw [← Ny1293.out] at ho42))
    replace HO_3 := ak (Kd.V_elder' (by (with_reducible repeat (first | apply Kd.V_alloc | apply Kd.V_drewN | apply Kd.V_drew)); exact HO_3.out) (Kd.R_base ho42) hb)
    have HO1295 := ak (Kd.R_lower (Kd.R_new' (Kd.R_newM (M := fun k_ => (w.heap.size ≤ k_)) ho42 (below_size (bl1 HB GE1267)) (fun k_ h_ => h_)) (Kd.R_lt (rk HO1285))) (below_size (bl1 HB GE1267)))
    replace HO1285 := ak (Kd.R_elder' (rk HO1285) (Kd.R_base ho42) hb)
    replace BK1267 := ak (blk_below (bk BK1267) hb)
    replace HB := ak (below_step (bl1 HB GE1267) hb)
    clear hb ho42
    refine hK.out _ _ ⟨(blk_cell BK1267.out 0).trans rfl, (blk_cell BK1267.out 1).trans rfl, ((HB.out.cell (World.block_lt_of_cell? w _ hw1292_0)).trans hw1292_0)⟩ (fun hHeld => ?_)
    clear hK K
    refine norm_ (a' := ?_) ?_ ?_
    rotate_left
    ·show Act.put _ (some 55) _ = _
     simp only [SX]
     rfl
    refine one_ (i := 1) (N := some 48) (ms 19 7671) rfl rfl (one_of HT_.out (by kernel_rfl)) (by decide) (fun K hK => ?_)
    refine Kd.R_lit_step (Kd.int .i64) _ 3 ?hg (N := 48) ?hd (xs := ([] : List Int)) (inner := []) (ok := fun _ => True) (okp := fun _ => True) ?hr ?hp (fun _ hk => hk) trivial (Below.refl _ _) (Nat.le_refl _) (by simp) ?_; (case hd => rfl); (case hg => rfl); (case hr => first | (go_simp; done) | (go_simp; rfl)); (case hp => exact (Reps.none _ _))
    intro v1287 w43 ho44 hb hg_ hnew_
    clear hg_ hnew_
    (first | rw [← Ny1286.out] at ho44 | (simp only [Int.reduceToNat] at ho44; rw [← Ny1286.out] at ho44))
    replace HO_3 := ak (Kd.V_elder' (by (with_reducible repeat (first | apply Kd.V_alloc | apply Kd.V_drewN | apply Kd.V_drew)); exact HO_3.out) (Kd.R_base ho44) hb)
    have HO1288 := ak (Kd.R_lower (Kd.R_new' (Kd.R_new' (Kd.R_newM (M := fun k_ => (w.heap.size ≤ k_)) ho44 (below_size (bl1 HB GE1267)) (fun k_ h_ => h_)) (Kd.R_lt (rk HO1285))) (Kd.R_lt (rk HO1295))) (below_size (bl1 HB GE1267)))
    replace HO1285 := ak (Kd.R_elder' (rk HO1285) (Kd.R_base ho44) hb)
    replace HO1295 := ak (Kd.R_elder' (rk HO1295) (Kd.R_base ho44) hb)
    replace BK1267 := ak (blk_below (bk BK1267) hb)
    replace HB := ak (below_step (bl1 HB GE1267) hb)
    clear hb ho44
    refine hK.out _ _ ⟨(blk_cell BK1267.out 0).trans rfl, (blk_cell BK1267.out 1).trans rfl, ((HB.out.cell (World.block_lt_of_cell? w _ hw1292_0)).trans hw1292_0)⟩ (fun hHeld => ?_)
    clear hK K
    refine norm_ (a' := ?_) ?_ ?_
    rotate_left
    ·show Act.put _ (some 48) _ = _
     simp only [SX]
     rfl
    refine one_ (i := 3) (N := some 50) (ms 19 7679) rfl rfl (one_of HT_.out (by kernel_rfl)) (by decide) (fun K hK => ?_)
    refine Kd.R_append_rows_step (Kd.int .i64) (w0 := w) w.heap.size (by rfl) (.tmp 48) (.tmp 49) 26 3 (.int .i64 0) 8 rfl Try.underlying26 info3 rfl (by decide) (by omega) v1287 y1286 l1 _ _ _ (fun k_ => (w.heap.size ≤ k_) ∧ some k_ ≠ (.slice Ao38 y1283.length co38 : Value).ownBlock ∧ some k_ ≠ (v1294 : Value).ownBlock) (fun _ => False) rfl rfl ?aO ?aR (fun _ _ h => h) (fun _ h => h.elim) ?aF ?aB ?aS ?aL ?_
    (case aR => repeat (first | exact (Kd.C_below HR1.out HB.out) | (with_reducible refine Kd.C_alloc ?_ _) | (with_reducible refine Kd.C_drewN ?_ _) | (with_reducible refine Kd.C_drew ?_)))
    (case aB => exact (bl1 HB GE1267))
    (case aF => exact (fun k_ hk => ⟨(Nat.le_trans (below_size (bl1 HB GE1267)) hk), Kd.fresh' (Kd.R_lt (rk HO1285)) k_ hk, Kd.fresh' (Kd.R_lt (rk HO1295)) k_ hk⟩))
    (case aO => exact (by (with_reducible repeat (first | apply Kd.R_alloc | apply Kd.R_drewN | apply Kd.R_drew)); exact Kd.R_mono HO1288.out (fun _ hk => ⟨hk.1.1.1, ⟨hk.1.2, hk.2⟩⟩)))
    (case aS => exact (below_size (bl1 HB GE1267)))
    (case aL => have := LMc28.out; omega)
    intro v1290 w45 ho hb hg hat
    rw [← Ny1289.out] at ho
    have n0_ := ak (Kd.V_afterv (ok := (fun k_ => (P3_ k_ ∨ w.heap.size ≤ k_) ∧ some k_ ≠ (.slice Ao38 y1283.length co38 : Value).ownBlock ∧ some k_ ≠ (v1294 : Value).ownBlock ∧ k_ ≠ gb1267)) (by (with_reducible repeat (first | apply Kd.V_alloc | apply Kd.V_drewN | apply Kd.V_drew)); exact Kd.V_mono HO_3.out (fun _ hk => ⟨⟨hk.1.1.1.1, ⟨hk.1.1.2, ⟨hk.1.2, hk.1.1.1.2⟩⟩⟩, hk.2⟩)) hg hat)
    have n1_ := ak (blk_grown (bk BK1267) hg (Kd.R_ne HO1288.out BK1267.out (by decide)))
    have n2_ := ak (Kd.R_after (ok := (fun k_ => (w.heap.size ≤ k_) ∧ some k_ ≠ (v1294 : Value).ownBlock)) (rk HO1285) hg hat)
    have n3_ := ak (Kd.R_after (ok := (fun k_ => (w.heap.size ≤ k_) ∧ some k_ ≠ (.slice Ao38 y1283.length co38 : Value).ownBlock)) (by (with_reducible repeat (first | apply Kd.R_alloc | apply Kd.R_drewN | apply Kd.R_drew)); exact Kd.R_mono HO1295.out (fun _ hk => ⟨⟨hk.1.1.1, hk.1.2⟩, hk.2⟩)) hg hat)
    have n4_ := ak (hb)
    have n5_ := ak (ho)
    clear HO_3
    clear BK1267
    clear HO1285
    clear HO1295
    clear HB
    clear HO1288
    have HO_3 := n0_
    have BK1267 := n1_
    have HO1285 := n2_
    have HO1295 := n3_
    have HB := n4_
    have HO1291 := n5_
    clear n0_ n1_ n2_ n3_ n4_ n5_
    clear ho hb hg hat
    refine hK.out _ _ ⟨(blk_cell BK1267.out 0).trans rfl, (blk_cell BK1267.out 1).trans rfl, ((HB.out.cell (World.block_lt_of_cell? w _ hw1292_0)).trans hw1292_0)⟩ (fun hHeld => ?_)
    clear hK K
    refine norm_ (a' := ?_) ?_ ?_
    rotate_left
    ·show Act.put _ (some 50) _ = _
     simp only [SX]
     rfl
    exact norm_ (by simp only [putAll, Act.put, List.setIfInBounds_toArray, List.set_cons_zero, List.set_cons_succ]) (hCont (v1287, v1290, v1294) _ ⟨hHeld, (by (with_reducible repeat (first | apply Kd.R_alloc | apply Kd.R_drewN | apply Kd.R_drew)); exact Kd.R_mono HO1285.out (fun _ hk => ⟨hk.1.1, ⟨hk.2, hk.1.2⟩⟩)), (rk HO1291), (by (with_reducible repeat (first | apply Kd.R_alloc | apply Kd.R_drewN | apply Kd.R_drew)); exact Kd.R_mono HO1295.out (fun _ hk => ⟨hk.1.1, ⟨hk.1.2, hk.2⟩⟩)), (by (with_reducible repeat (first | apply Kd.V_alloc | apply Kd.V_drewN | apply Kd.V_drew)); exact Kd.V_mono HO_3.out (fun _ hk => ⟨hk.1.1, ⟨hk.1.2.1, ⟨hk.2, ⟨hk.1.2.2.1, hk.1.2.2.2⟩⟩⟩⟩)), (bk BK1267), (bl1 HB GE1267)⟩)
   skip
   refine Kd.R_lit_step (Kd.int .i64) _ 3 ?hg (N := 48) ?hd (xs := ([] : List Int)) (inner := []) (ok := fun _ => True) (okp := fun _ => True) ?hr ?hp (fun _ hk => hk) trivial (Below.refl _ _) (Nat.le_refl _) (by simp) ?_; (case hd => rfl); (case hg => rfl); (case hr => first | (go_simp; done) | (go_simp; rfl)); (case hp => exact (Reps.none _ _))
   intro v1287 w41 ho42 hb hg_ hnew_
   clear hg_ hnew_
   (first | rw [← Ny1286.out] at ho42 | (simp only [Int.reduceToNat] at ho42; rw [← Ny1286.out] at ho42))
   replace HO_3 := ak (Kd.V_elder' (by (with_reducible repeat (first | apply Kd.V_alloc | apply Kd.V_drewN | apply Kd.V_drew)); exact HO_3.out) (Kd.R_base ho42) hb)
   have HO1288 := ak (Kd.R_lower (Kd.R_new' (Kd.R_newM (M := fun k_ => (w.heap.size ≤ k_)) ho42 (below_size (bl1 HB GE1267)) (fun k_ h_ => h_)) (Kd.R_lt (rk HO1285))) (below_size (bl1 HB GE1267)))
   replace HO1285 := ak (Kd.R_elder' (rk HO1285) (Kd.R_base ho42) hb)
   replace BK1267 := ak (blk_below (bk BK1267) hb)
   replace HB := ak (below_step (bl1 HB GE1267) hb)
   clear hb ho42
   refine hK.out _ _ ⟨(blk_cell BK1267.out 0).trans rfl, (blk_cell BK1267.out 1).trans rfl, ((HB.out.cell (World.block_lt_of_cell? w _ hw1292_0)).trans hw1292_0)⟩ (fun hHeld => ?_)
   clear hK K
   refine norm_ (a' := ?_) ?_ ?_
   rotate_left
   ·show Act.put _ (some 48) _ = _
    simp only [SX]
    rfl
   refine two_ (i := 3) (j := 8) (Ni := some 50) (Nj := some 55) (ms 19 7423) (ms 19 7671) rfl rfl rfl rfl (two_of HT_.out (by kernel_rfl)) (by decide) (by decide) (fun K hK => ?_) (fun K hK => ?_)
   ·skip
    refine Kd.R_append_rows_step (Kd.int .i64) (w0 := w) w.heap.size (by rfl) (.tmp 48) (.tmp 49) 26 3 (.int .i64 0) 8 rfl Try.underlying26 info3 rfl (by decide) (by omega) v1287 y1286 l1 _ _ _ (fun k_ => (w.heap.size ≤ k_) ∧ some k_ ≠ (.slice Ao38 y1283.length co38 : Value).ownBlock) (fun _ => False) rfl rfl ?aO ?aR (fun _ _ h => h) (fun _ h => h.elim) ?aF ?aB ?aS ?aL ?_
    (case aR => repeat (first | exact (Kd.C_below HR1.out HB.out) | (with_reducible refine Kd.C_alloc ?_ _) | (with_reducible refine Kd.C_drewN ?_ _) | (with_reducible refine Kd.C_drew ?_)))
    (case aB => exact (bl1 HB GE1267))
    (case aF => exact (fun k_ hk => ⟨(Nat.le_trans (below_size (bl1 HB GE1267)) hk), Kd.fresh' (Kd.R_lt (rk HO1285)) k_ hk⟩))
    (case aO => exact (by (with_reducible repeat (first | apply Kd.R_alloc | apply Kd.R_drewN | apply Kd.R_drew)); exact Kd.R_mono HO1288.out (fun _ hk => ⟨hk.1.1, hk.2⟩)))
    (case aS => exact (below_size (bl1 HB GE1267)))
    (case aL => have := LMc28.out; omega)
    intro v1290 w43 ho hb hg hat
    rw [← Ny1289.out] at ho
    have n0_ := ak (Kd.V_afterv (ok := (fun k_ => (P3_ k_ ∨ w.heap.size ≤ k_) ∧ some k_ ≠ (.slice Ao38 y1283.length co38 : Value).ownBlock ∧ k_ ≠ gb1267)) (by (with_reducible repeat (first | apply Kd.V_alloc | apply Kd.V_drewN | apply Kd.V_drew)); exact Kd.V_mono HO_3.out (fun _ hk => ⟨⟨hk.1.1.1, ⟨hk.1.2, hk.1.1.2⟩⟩, hk.2⟩)) hg hat)
    have n1_ := ak (blk_grown (bk BK1267) hg (Kd.R_ne HO1288.out BK1267.out (by decide)))
    have n2_ := ak (Kd.R_after (ok := (fun k_ => (w.heap.size ≤ k_))) (rk HO1285) hg hat)
    have n3_ := ak (hb)
    have n4_ := ak (ho)
    clear HO_3
    clear BK1267
    clear HO1285
    clear HB
    clear HO1288
    have HO_3 := n0_
    have BK1267 := n1_
    have HO1285 := n2_
    have HB := n3_
    have HO1291 := n4_
    clear n0_ n1_ n2_ n3_ n4_
    clear ho hb hg hat
    refine hK.out _ _ ⟨(blk_cell BK1267.out 0).trans rfl, (blk_cell BK1267.out 1).trans rfl, ((HB.out.cell (World.block_lt_of_cell? w _ hw1292_0)).trans hw1292_0)⟩ (fun hHeld => ?_)
    clear hK K
    refine norm_ (a' := ?_) ?_ ?_
    rotate_left
    ·show Act.put _ (some 50) _ = _
     simp only [SX]
     rfl
    refine one_ (i := 8) (N := some 55) (ms 19 7679) rfl rfl (one_of HT_.out (by kernel_rfl)) (by decide) (fun K hK => ?_)
    refine Kd.R_lit_step (Kd.int .i64) _ 3 ?hg (N := 55) ?hd (xs := ([rd l2 x13_1] : List Int)) (inner := [.int .i64 (rd l2 x13_1)]) (ok := fun _ => True) (okp := fun _ => True) ?hr ?hp (fun _ hk => hk) trivial (Below.refl _ _) (Nat.le_refl _) (by simp) ?_; (case hd => rfl); (case hg => rfl); (case hr => first | (go_simp; done) | (go_simp; rfl)); (case hp => exact (Reps.one (show Kd.M (Kd.int .i64) _ _ _ (rd l2 x13_1) [.int .i64 (rd l2 x13_1)] from rfl) (Reps.none _ _)))
    intro v1294 w44 ho45 hb hg_ hnew_
    clear hg_ hnew_
    (first | rw [← Ny1293.out] at ho45 | (simp only [Int.reduceToNat] at ho45; rw [← Ny1293.out] at ho45))
    replace HO_3 := ak (Kd.V_elder' (by (with_reducible repeat (first | apply Kd.V_alloc | apply Kd.V_drewN | apply Kd.V_drew)); exact HO_3.out) (Kd.R_base ho45) hb)
    have HO1295 := ak (Kd.R_lower (Kd.R_new' (Kd.R_new' (Kd.R_newM (M := fun k_ => (w.heap.size ≤ k_)) ho45 (below_size (bl1 HB GE1267)) (fun k_ h_ => h_)) (Kd.R_lt (rk HO1285))) (Kd.R_lt (rk HO1291))) (below_size (bl1 HB GE1267)))
    replace HO1285 := ak (Kd.R_elder' (rk HO1285) (Kd.R_base ho45) hb)
    replace HO1291 := ak (Kd.R_elder' (rk HO1291) (Kd.R_base ho45) hb)
    replace BK1267 := ak (blk_below (bk BK1267) hb)
    replace HB := ak (below_step (bl1 HB GE1267) hb)
    clear hb ho45
    refine hK.out _ _ ⟨(blk_cell BK1267.out 0).trans rfl, (blk_cell BK1267.out 1).trans rfl, ((HB.out.cell (World.block_lt_of_cell? w _ hw1292_0)).trans hw1292_0)⟩ (fun hHeld => ?_)
    clear hK K
    refine norm_ (a' := ?_) ?_ ?_
    rotate_left
    ·show Act.put _ (some 55) _ = _
     simp only [SX]
     rfl
    exact norm_ (by simp only [putAll, Act.put, List.setIfInBounds_toArray, List.set_cons_zero, List.set_cons_succ]) (hCont (v1287, v1290, v1294) _ ⟨hHeld, (by (with_reducible repeat (first | apply Kd.R_alloc | apply Kd.R_drewN | apply Kd.R_drew)); exact Kd.R_mono HO1285.out (fun _ hk => ⟨hk.1.1, ⟨hk.1.2, hk.2⟩⟩)), (by (with_reducible repeat (first | apply Kd.R_alloc | apply Kd.R_drewN | apply Kd.R_drew)); exact Kd.R_mono HO1291.out (fun _ hk => ⟨hk.1.1, ⟨hk.1.2, hk.2⟩⟩)), (by (with_reducible repeat (first | apply Kd.R_alloc | apply Kd.R_drewN | apply Kd.R_drew)); exact Kd.R_mono HO1295.out (fun _ hk => ⟨hk.1.1.1, ⟨hk.1.2, hk.2⟩⟩)), (by (with_reducible repeat (first | apply Kd.V_alloc | apply Kd.V_drewN | apply Kd.V_drew)); exact Kd.V_mono HO_3.out (fun _ hk => ⟨hk.1.1.1, ⟨hk.1.1.2.1, ⟨hk.1.2, ⟨hk.2, hk.1.1.2.2⟩⟩⟩⟩)), (bk BK1267), (bl1 HB GE1267)⟩)
   skip
   refine Kd.R_lit_step (Kd.int .i64) _ 3 ?hg (N := 55) ?hd (xs := ([rd l2 x13_1] : List Int)) (inner := [.int .i64 (rd l2 x13_1)]) (ok := fun _ => True) (okp := fun _ => True) ?hr ?hp (fun _ hk => hk) trivial (Below.refl _ _) (Nat.le_refl _) (by simp) ?_; (case hd => rfl); (case hg => rfl); (case hr => first | (go_simp; done) | (go_simp; rfl)); (case hp => exact (Reps.one (show Kd.M (Kd.int .i64) _ _ _ (rd l2 x13_1) [.int .i64 (rd l2 x13_1)] from rfl) (Reps.none _ _)))
   intro v1294 w43 ho44 hb hg_ hnew_
   clear hg_ hnew_
   (first | rw [← Ny1293.out] at ho44 | (simp only [Int.reduceToNat] at ho44; rw [← Ny1293.out] at ho44))
   replace HO_3 := ak (Kd.V_elder' (by (with_reducible repeat (first | apply Kd.V_alloc | apply Kd.V_drewN | apply Kd.V_drew)); exact HO_3.out) (Kd.R_base ho44) hb)
   have HO1295 := ak (Kd.R_lower (Kd.R_new' (Kd.R_new' (Kd.R_newM (M := fun k_ => (w.heap.size ≤ k_)) ho44 (below_size (bl1 HB GE1267)) (fun k_ h_ => h_)) (Kd.R_lt (rk HO1285))) (Kd.R_lt (rk HO1288))) (below_size (bl1 HB GE1267)))
   replace HO1285 := ak (Kd.R_elder' (rk HO1285) (Kd.R_base ho44) hb)
   replace HO1288 := ak (Kd.R_elder' (rk HO1288) (Kd.R_base ho44) hb)
   replace BK1267 := ak (blk_below (bk BK1267) hb)
   replace HB := ak (below_step (bl1 HB GE1267) hb)
   clear hb ho44
   refine hK.out _ _ ⟨(blk_cell BK1267.out 0).trans rfl, (blk_cell BK1267.out 1).trans rfl, ((HB.out.cell (World.block_lt_of_cell? w _ hw1292_0)).trans hw1292_0)⟩ (fun hHeld => ?_)
   clear hK K
   refine norm_ (a' := ?_) ?_ ?_
   rotate_left
   ·show Act.put _ (some 55) _ = _
    simp only [SX]
    rfl
   refine one_ (i := 3) (N := some 50) (ms 19 7679) rfl rfl (one_of HT_.out (by kernel_rfl)) (by decide) (fun K hK => ?_)
   refine Kd.R_append_rows_step (Kd.int .i64) (w0 := w) w.heap.size (by rfl) (.tmp 48) (.tmp 49) 26 3 (.int .i64 0) 8 rfl Try.underlying26 info3 rfl (by decide) (by omega) v1287 y1286 l1 _ _ _ (fun k_ => (w.heap.size ≤ k_) ∧ some k_ ≠ (.slice Ao38 y1283.length co38 : Value).ownBlock ∧ some k_ ≠ (v1294 : Value).ownBlock) (fun _ => False) rfl rfl ?aO ?aR (fun _ _ h => h) (fun _ h => h.elim) ?aF ?aB ?aS ?aL ?_
   (case aR => repeat (first | exact (Kd.C_below HR1.out HB.out) | (with_reducible refine Kd.C_alloc ?_ _) | (with_reducible refine Kd.C_drewN ?_ _) | (with_reducible refine Kd.C_drew ?_)))
   (case aB => exact (bl1 HB GE1267))
   (case aF => exact (fun k_ hk => ⟨(Nat.le_trans (below_size (bl1 HB GE1267)) hk), Kd.fresh' (Kd.R_lt (rk HO1285)) k_ hk, Kd.fresh' (Kd.R_lt (rk HO1295)) k_ hk⟩))
   (case aO => exact (by (with_reducible repeat (first | apply Kd.R_alloc | apply Kd.R_drewN | apply Kd.R_drew)); exact Kd.R_mono HO1288.out (fun _ hk => ⟨hk.1.1.1, ⟨hk.1.2, hk.2⟩⟩)))
   (case aS => exact (below_size (bl1 HB GE1267)))
   (case aL => have := LMc28.out; omega)
   intro v1290 w45 ho hb hg hat
   rw [← Ny1289.out] at ho
   have n0_ := ak (Kd.V_afterv (ok := (fun k_ => (P3_ k_ ∨ w.heap.size ≤ k_) ∧ some k_ ≠ (.slice Ao38 y1283.length co38 : Value).ownBlock ∧ some k_ ≠ (v1294 : Value).ownBlock ∧ k_ ≠ gb1267)) (by (with_reducible repeat (first | apply Kd.V_alloc | apply Kd.V_drewN | apply Kd.V_drew)); exact Kd.V_mono HO_3.out (fun _ hk => ⟨⟨hk.1.1.1.1, ⟨hk.1.1.2, ⟨hk.2, hk.1.1.1.2⟩⟩⟩, hk.1.2⟩)) hg hat)
   have n1_ := ak (blk_grown (bk BK1267) hg (Kd.R_ne HO1288.out BK1267.out (by decide)))
   have n2_ := ak (Kd.R_after (ok := (fun k_ => (w.heap.size ≤ k_) ∧ some k_ ≠ (v1294 : Value).ownBlock)) (by (with_reducible repeat (first | apply Kd.R_alloc | apply Kd.R_drewN | apply Kd.R_drew)); exact Kd.R_mono HO1285.out (fun _ hk => ⟨⟨hk.1.1, hk.2⟩, hk.1.2⟩)) hg hat)
   have n3_ := ak (Kd.R_after (ok := (fun k_ => (w.heap.size ≤ k_) ∧ some k_ ≠ (.slice Ao38 y1283.length co38 : Value).ownBlock)) (by (with_reducible repeat (first | apply Kd.R_alloc | apply Kd.R_drewN | apply Kd.R_drew)); exact Kd.R_mono HO1295.out (fun _ hk => ⟨⟨hk.1.1.1, hk.1.2⟩, hk.2⟩)) hg hat)
   have n4_ := ak (hb)
   have n5_ := ak (ho)
   clear HO_3
   clear BK1267
   clear HO1285
   clear HO1295
   clear HB
   clear HO1288
   have HO_3 := n0_
   have BK1267 := n1_
   have HO1285 := n2_
   have HO1295 := n3_
   have HB := n4_
   have HO1291 := n5_
   clear n0_ n1_ n2_ n3_ n4_ n5_
   clear ho hb hg hat
   refine hK.out _ _ ⟨(blk_cell BK1267.out 0).trans rfl, (blk_cell BK1267.out 1).trans rfl, ((HB.out.cell (World.block_lt_of_cell? w _ hw1292_0)).trans hw1292_0)⟩ (fun hHeld => ?_)
   clear hK K
   refine norm_ (a' := ?_) ?_ ?_
   rotate_left
   ·show Act.put _ (some 50) _ = _
    simp only [SX]
    rfl
   exact norm_ (by simp only [putAll, Act.put, List.setIfInBounds_toArray, List.set_cons_zero, List.set_cons_succ]) (hCont (v1287, v1290, v1294) _ ⟨hHeld, (by (with_reducible repeat (first | apply Kd.R_alloc | apply Kd.R_drewN | apply Kd.R_drew)); exact Kd.R_mono HO1285.out (fun _ hk => ⟨hk.1.1, ⟨hk.2, hk.1.2⟩⟩)), (rk HO1291), (by (with_reducible repeat (first | apply Kd.R_alloc | apply Kd.R_drewN | apply Kd.R_drew)); exact Kd.R_mono HO1295.out (fun _ hk => ⟨hk.1.1, ⟨hk.1.2, hk.2⟩⟩)), (by (with_reducible repeat (first | apply Kd.V_alloc | apply Kd.V_drewN | apply Kd.V_drew)); exact Kd.V_mono HO_3.out (fun _ hk => ⟨hk.1.1, ⟨hk.1.2.1, ⟨hk.2, ⟨hk.1.2.2.1, hk.1.2.2.2⟩⟩⟩⟩)), (bk BK1267), (bl1 HB GE1267)⟩)
  rintro ⟨v1287, v1290, v1294⟩ w46 ⟨hS_, h0_, h1_, h2_, h3_, h4_, h5_⟩
  replace HO1285 : Aside0 (Kd.R (Kd.int .i64) 3 w46 w.heap.size (fun k_ => (w.heap.size ≤ k_) ∧ some k_ ≠ (v1290 : Value).ownBlock ∧ some k_ ≠ (v1294 : Value).ownBlock) (.slice Ao38 y1283.length co38) y1283) := ⟨h0_⟩
  have HO1291 : Aside0 (Kd.R (Kd.int .i64) 3 w46 w.heap.size (fun k_ => (w.heap.size ≤ k_) ∧ some k_ ≠ (.slice Ao38 y1283.length co38 : Value).ownBlock ∧ some k_ ≠ (v1294 : Value).ownBlock) v1290 y1289) := ⟨h1_⟩
  have HO1295 : Aside0 (Kd.R (Kd.int .i64) 3 w46 w.heap.size (fun k_ => (w.heap.size ≤ k_) ∧ some k_ ≠ (.slice Ao38 y1283.length co38 : Value).ownBlock ∧ some k_ ≠ (v1290 : Value).ownBlock) v1294 y1293) := ⟨h2_⟩
  replace HO_3 : Aside0 (Kd.V (Kd.int .i64) 3 w46 w.heap.size (fun k_ => (P3_ k_ ∨ w.heap.size ≤ k_) ∧ some k_ ≠ (.slice Ao38 y1283.length co38 : Value).ownBlock ∧ some k_ ≠ (v1290 : Value).ownBlock ∧ some k_ ≠ (v1294 : Value).ownBlock ∧ k_ ≠ gb1267) (.slice Ao39 x3_1.length co39) x3_1) := ⟨h3_⟩
  replace BK1267 : Aside0 (w46.heap[gb1267]? = some (.cells #[.int .i64 a0_0, .slice A0_1 l0_1.length c0_1] 30 (0, 0))) := ⟨h4_⟩
  replace HB : Aside0 (Below w.heap.size w w46) := ⟨h5_⟩
  clear h0_ h1_ h2_ h3_ h4_ h5_
  have hHeld : w46.cell? ⟨gb1267, 0, none⟩ = some (.int .i64 a0_0) ∧ w46.cell? ⟨gb1267, 1, none⟩ = some (.slice A0_1 l0_1.length c0_1) ∧ w46.cell? (ad1292.add (x13_1).toNat) = some (.int .i64 (rd l2 x13_1)) := hS_
  obtain ⟨Ao48, co48, eo48⟩ := Kd.R_slice HO1295.out
  (first | subst eo48 | (injection eo48 with f1_ f2_ f3_; have f4_ := f1_.symm; have f5_ := f3_.symm; clear f1_ f2_ f3_; subst f4_; subst f5_))
  refine norm_ (a' := ?_) ?_ ?_
  rotate_left
  ·simp only [putAll, Act.put, List.setIfInBounds_toArray, List.set_cons_zero, List.set_cons_succ]
   rfl
  refine one_ (i := 9) (N := some 56) (ms 19 8191) rfl rfl (one_of HT_.out (by kernel_rfl)) (by decide) (fun K hK => ?_)
  refine Kd.R_append_rows_step (Kd.int .i64) (w0 := w) w.heap.size (by rfl) (.tmp 50) (.tmp 55) 26 3 (.int .i64 0) 8 rfl Try.underlying26 info3 rfl (by decide) (by omega) v1290 y1289 y1293 _ _ _ (fun k_ => (w.heap.size ≤ k_) ∧ some k_ ≠ (.slice Ao38 y1283.length co38 : Value).ownBlock ∧ some k_ ≠ (.slice Ao48 y1293.length co48 : Value).ownBlock) (fun _ => False) rfl rfl ?aO ?aR (fun _ _ h => h) (fun _ h => h.elim) ?aF ?aB ?aS ?aL ?_
  (case aR => repeat (first | exact (Kd.R_reads' HO1295.out).2.2 | (with_reducible refine Kd.C_alloc ?_ _) | (with_reducible refine Kd.C_drewN ?_ _) | (with_reducible refine Kd.C_drew ?_)))
  (case aB => exact (bl1 HB GE1267))
  (case aF => exact (fun k_ hk => ⟨(Nat.le_trans (below_size (bl1 HB GE1267)) hk), Kd.fresh' (Kd.R_lt (rk HO1285)) k_ hk, Kd.fresh' (Kd.R_lt (rk HO1295)) k_ hk⟩))
  (case aO => exact (rk HO1291))
  (case aS => exact (below_size (bl1 HB GE1267)))
  (case aL => have := LMc29.out; omega)
  intro v1297 w47 ho hb hg hat
  rw [← Ny1296.out] at ho
  have n0_ := ak (Kd.V_afterv (ok := (fun k_ => (P3_ k_ ∨ w.heap.size ≤ k_) ∧ some k_ ≠ (.slice Ao38 y1283.length co38 : Value).ownBlock ∧ some k_ ≠ (.slice Ao48 y1293.length co48 : Value).ownBlock ∧ k_ ≠ gb1267)) (by (with_reducible repeat (first | apply Kd.V_alloc | apply Kd.V_drewN | apply Kd.V_drew)); exact Kd.V_mono HO_3.out (fun _ hk => ⟨⟨hk.1, ⟨hk.2.1, ⟨hk.2.2.2.1, hk.2.2.2.2⟩⟩⟩, hk.2.2.1⟩)) hg hat)
  have n1_ := ak (blk_grown (bk BK1267) hg (Kd.R_ne HO1291.out BK1267.out (by decide)))
  have n2_ := ak (Kd.R_after (ok := (fun k_ => (w.heap.size ≤ k_) ∧ some k_ ≠ (.slice Ao48 y1293.length co48 : Value).ownBlock)) (by (with_reducible repeat (first | apply Kd.R_alloc | apply Kd.R_drewN | apply Kd.R_drew)); exact Kd.R_mono HO1285.out (fun _ hk => ⟨⟨hk.1, hk.2.2⟩, hk.2.1⟩)) hg hat)
  have n3_ := ak (Kd.R_after (ok := (fun k_ => (w.heap.size ≤ k_) ∧ some k_ ≠ (.slice Ao38 y1283.length co38 : Value).ownBlock)) (by (with_reducible repeat (first | apply Kd.R_alloc | apply Kd.R_drewN | apply Kd.R_drew)); exact Kd.R_mono HO1295.out (fun _ hk => ⟨⟨hk.1, hk.2.1⟩, hk.2.2⟩)) hg hat)
  have n4_ := ak (hb)
  have n5_ := ak (ho)
  clear HO_3
  clear BK1267
  clear HO1285
  clear HO1295
  clear HB
  clear HO1291
  have HO_3 := n0_
  have BK1267 := n1_
  have HO1285 := n2_
  have HO1295 := n3_
  have HB := n4_
  have HO1298 := n5_
  clear n0_ n1_ n2_ n3_ n4_ n5_
  clear ho hb hg hat
  obtain ⟨Ao49, co49, eo49⟩ := Kd.R_slice HO1298.out
  (first | subst eo49 | (injection eo49 with f1_ f2_ f3_; have f4_ := f1_.symm; have f5_ := f3_.symm; clear f1_ f2_ f3_; subst f4_; subst f5_))
  refine hK.out _ _ ⟨(blk_cell BK1267.out 0).trans rfl, (blk_cell BK1267.out 1).trans rfl, ((HB.out.cell (World.block_lt_of_cell? w _ hw1292_0)).trans hw1292_0)⟩ (fun hHeld => ?_)
  clear hK K
  refine norm_ (a' := ?_) ?_ ?_
  rotate_left
  ·show Act.put _ (some 56) _ = _
   simp only [SX]
   rfl
  refine one_ (i := 13) (N := some 60) (ms 19 16383) rfl rfl (one_of HT_.out (by kernel_rfl)) (by decide) (fun K hK => ?_)
  refine goes_ Try.func108 (by kernel_rfl) rfl #[.agg #[.int .i64 a0_0, .slice A0_1 l0_1.length c0_1], .slice Ao49 y1296.length co49, .slice Ao38 y1283.length co38, .slice Ao39 x3_1.length co39, .int .i64 x4_1] (by rfl) rfl rfl (by (try simp only [List.map_toArray, List.map_cons, List.map_nil]); first | done | rfl | (simp only [List.length_drop, List.length_take]; rfl)) ?_
  with_reducible refine (ih k1 (by have := HK1.out; omega) a0_0 _ _ l0_1 _ _ y1296 _ _ y1283 (fun k_ => (((P3_ k_ ∨ w.heap.size ≤ k_) ∧ (some k_ ≠ (.slice Ao38 y1283.length co38 : Value).ownBlock ∧ (some k_ ≠ (.slice Ao48 y1293.length co48 : Value).ownBlock ∧ k_ ≠ gb1267))) ∧ some k_ ≠ (.slice Ao49 y1296.length co49 : Value).ownBlock)) _ _ x3_1 x4_1 t1299 t1302 _ ?side1 ?side2 ?side3 ?side4 ?side5 ?side6 ?side7 A30.out).mono ?_
  (case side1 => repeat (first | exact (Kd.C_below HR0_1.out HB.out) | (with_reducible refine Kd.C_alloc ?_ _) | (with_reducible refine Kd.C_drewN ?_ _) | (with_reducible refine Kd.C_drew ?_)))
  (case side2 => exact HC0_1.out)
  (case side3 => repeat (first | exact (Kd.R_reads' HO1298.out).2.2 | (with_reducible refine Kd.C_alloc ?_ _) | (with_reducible refine Kd.C_drewN ?_ _) | (with_reducible refine Kd.C_drew ?_)))
  (case side4 => exact (Kd.R_reads' HO1298.out).2.1)
  (case side5 => repeat (first | exact (Kd.R_reads' HO1285.out).2.2 | (with_reducible refine Kd.C_alloc ?_ _) | (with_reducible refine Kd.C_drewN ?_ _) | (with_reducible refine Kd.C_drew ?_)))
  (case side6 => exact (Kd.R_reads' HO1285.out).2.1)
  (case side7 => exact HO_3.out)
  rintro e w50 ⟨v1300, rfl, ho0, hb⟩
  refine ⟨_, rfl, ?_⟩
  replace HO_3 := ak (Kd.V_below (by (with_reducible repeat (first | apply Kd.V_alloc | apply Kd.V_drewN | apply Kd.V_drew)); exact HO_3.out) hb)
  have HO1301 := ak (Kd.V_lower (Kd.V_mono (ok' := fun k_ => (P3_ k_ ∨ w.heap.size ≤ k_) ∧ some k_ ≠ (.slice Ao38 y1283.length co38 : Value).ownBlock ∧ some k_ ≠ (.slice Ao48 y1293.length co48 : Value).ownBlock ∧ some k_ ≠ (.slice Ao49 y1296.length co49 : Value).ownBlock ∧ k_ ≠ gb1267) ho0 (fun k_ hk_ => ⟨Or.elim hk_ (fun hs_ => hs_.1.1) (fun hn_ => (.inr (Nat.le_trans (below_size (bl1 HB GE1267)) hn_))), Or.elim hk_ (fun hs_ => hs_.1.2.1) (fun hn_ => (Kd.fresh' (Kd.R_lt (rk HO1285)) k_ hn_)), Or.elim hk_ (fun hs_ => hs_.1.2.2.1) (fun hn_ => (Kd.fresh' (Kd.R_lt (rk HO1295)) k_ hn_)), Or.elim hk_ (fun hs_ => hs_.2) (fun hn_ => (Kd.fresh' (Kd.R_lt (rk HO1298)) k_ hn_)), Or.elim hk_ (fun hs_ => hs_.1.2.2.2) (fun hn_ => (Kd.freshB (bk BK1267) k_ hn_))⟩)) (below_size (bl1 HB GE1267)))
  replace HO1285 := ak (Kd.R_below (rk HO1285) hb)
  replace HO1295 := ak (Kd.R_below (rk HO1295) hb)
  replace HO1298 := ak (Kd.R_below (rk HO1298) hb)
  replace BK1267 := ak (blk_below (bk BK1267) hb)
  replace HB := ak (below_step (bl1 HB GE1267) hb)
  (try clear hb)
  (try clear hb2)
  (try clear hk)
  (try clear hi)
  (try clear ho0)
  refine hK.out _ _ ⟨(blk_cell BK1267.out 0).trans rfl, (blk_cell BK1267.out 1).trans rfl, ((HB.out.cell (World.block_lt_of_cell? w _ hw1292_0)).trans hw1292_0)⟩ (fun hHeld => ?_)
  clear hK K
  refine norm_ (a' := ?_) ?_ ?_
  rotate_left
  ·show Act.put _ (some 60) _ = _
   simp only [SX]
   rfl
  refine pu 14 46 ?_ (ms 19 32767) rfl rfl HT_ (by kernel_rfl) (fun _ _ _ h => h) (by rfl) ?_ ?_ ?_ ?_
  rotate_left
  ·intro w'
   go_simp
   with_reducible rfl
  rotate_left
  ·simp only [SX]
   rfl
  refine pu 15 61 ?_ (ms 19 65535) rfl rfl HT_ (by kernel_rfl) (fun _ _ _ h => h) (by rfl) ?_ ?_ ?_ ?_
  rotate_left
  ·intro w'
   go_simp
   with_reducible rfl
  rotate_left
  ·simp only [SX]
   rfl
  refine pu 16 62 ?_ (ms 19 131071) rfl rfl HT_ (by kernel_rfl) (fun _ _ _ h => h) (by rfl) ?_ ?_ ?_ ?_
  rotate_left
  ·intro w'
   go_simp
   with_reducible rfl
  rotate_left
  ·simp only [SX]
   rfl
  refine pu 17 3 ?_ (ms 19 262143) rfl rfl HT_ (by kernel_rfl) (fun _ _ _ h => h) (by rfl) ?_ ?_ ?_ ?_
  rotate_left
  ·intro w'
   go_simp
   with_reducible rfl
  rotate_left
  ·simp only [SX]
   rfl
  refine pu 18 4 ?_ (ms 19 524287) rfl rfl HT_ (by kernel_rfl) (fun _ _ _ h => h) (by rfl) ?_ ?_ ?_ ?_
  rotate_left
  ·intro w'
   go_simp
   with_reducible rfl
  rotate_left
  ·simp only [SX]
   rfl
  refine done_ (done_of HT_.out (by kernel_rfl)) ?_
  try go_wp2
  go_roundg k1
  case measure => have := HK1.out; omega
  case rel => exact ⟨(t1299), (t1302), (ji24), (by first | rfl | (simp; done) | (simp [*]; done)), (by first | rfl | (simp; done) | (simp only [← hji24] <;> (first | rfl | simp)) | (simp [*]; done)), H', ⟨by have := HK1.out; omega⟩, ⟨by (with_reducible repeat (first | apply Kd.V_alloc | apply Kd.V_drewN | apply Kd.V_drew)); exact Kd.V_mono HO1301.out (fun _ hk => ⟨hk.1, hk.2.2.2.2⟩)⟩, ⟨bk BK1267⟩, ⟨bl1 HB GE1267⟩⟩

end Go.Proofs.Ytbappbbljncdeaa.F
