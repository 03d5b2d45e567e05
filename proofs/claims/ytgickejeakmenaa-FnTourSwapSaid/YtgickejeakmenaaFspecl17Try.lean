-- Printed by wip/px/px.py of this claim's repository (the kit's printer, extended there). Lean checks it.
import Derived.Test.YtgickejeakmenaaFKinds
import Derived.Test.YtgickejeakmenaaFspecl17Cost
namespace Go.Proofs.Ytgickejeakmenaa.F
open Go.RowKit Go.Proofs.YtgickejeakmenaaW.PrintWords Go.Proofs.YtgickejeakmenaaW.PrintLast Go.Proofs.YtgickejeakmenaaW.PrintMore
attribute [local go_sem] max2_int min2_int max_two min_two max_three min_three max_four min_four   -- for this text's walks alone
set_option linter.unusedVariables false
set_option linter.unusedSimpArgs false

/-! ### spec_l17Try: function 95 -/
mutual
def spec_l17Try.l0 : Nat → List Int → List Int → List Int → Int → Int → Int → List (S41) → Option (List Int × Int)
 | 0, _, _, _, _, _, _, _ => none
 | k + 1, x1, x2, x3, x4, x13, x1197000, x1197001 => if x13 < (x2.length : Int) then ((some (([] : List Int) : List Int)).bind fun y1204 => (if 0 ≤ x13 then (if x13 ≤ (x2.length : Int) then (if y1204.length + (x2.take (x13 : Int).toNat).length < 17592186044416 then ((some (y1204 ++ (x2.take (x13 : Int).toNat) : List Int)).bind fun y1208 => (if 0 ≤ (wrap64 (x13 + 1)) then (if (wrap64 (x13 + 1)) ≤ (x2.length : Int) then (if y1208.length + (x2.drop ((wrap64 (x13 + 1)) : Int).toNat).length < 17592186044416 then ((some (([] : List Int) : List Int)).bind fun y1215 => (if y1215.length + x1.length < 17592186044416 then ((some (y1215 ++ x1 : List Int)).bind fun y1218 => ((some (([rd x2 x13] : List Int) : List Int)).bind fun y1222 => (if y1218.length + y1222.length < 17592186044416 then ((spec_l17Try.f k x1197000 x1197001 (y1218 ++ y1222) (y1208 ++ (x2.drop ((wrap64 (x13 + 1)) : Int).toNat)) x3 x4).bind fun bt1228 => (spec_l17Try.l0 k x1 x2 bt1228.1 bt1228.2 (wrap64 (x13 + 1)) x1197000 x1197001)) else (none)))) else (none))) else (none)) else (none)) else (none))) else (none)) else (none)) else (none))) else (some (x3, x4))
def spec_l17Try.f : Nat → Int → List (S41) → List Int → List Int → List Int → Int → Option (List Int × Int)
 | 0, _, _, _, _, _, _ => none
 | k + 1, a0_0, l0_1, l1, l2, l3, a4 => if (l2.length : Int) = 0 then ((spec_l17Cost.f k a0_0 l0_1 l1).bind fun t1197 => (if t1197 < a4 then ((some (([] : List Int) : List Int)).bind fun y1198 => (if y1198.length + l1.length < 17592186044416 then (some ((y1198 ++ l1), t1197)) else (none))) else (some (l3, a4)))) else (spec_l17Try.l0 k l1 l2 l3 a4 0 a0_0 l0_1)
end
theorem spec_l17Try.mono_l : ∀ k, (∀ y0 y1 y2 y3 y4 y5, LeO (spec_l17Try.f k y0 y1 y2 y3 y4 y5) (spec_l17Try.f (k + 1) y0 y1 y2 y3 y4 y5)) ∧ (∀ y0 y1 y2 y3 y4 y5 y6, LeO (spec_l17Try.l0 k y0 y1 y2 y3 y4 y5 y6) (spec_l17Try.l0 (k + 1) y0 y1 y2 y3 y4 y5 y6))
 | 0 => ⟨fun _ _ _ _ _ _ r h => by simp [spec_l17Try.f] at h, fun _ _ _ _ _ _ _ r h => by simp [spec_l17Try.l0] at h⟩
 | k + 1 => by
  obtain ⟨ih0, ih1⟩ := spec_l17Try.mono_l k
  refine ⟨?_, ?_⟩
  ·intro y0 y1 y2 y3 y4 y5
   unfold spec_l17Try.f
   repeat' first | (with_reducible exact ih1 _ _ _ _ _ _ _) | (with_reducible exact spec_l17Cost.mono _ _ _ _) | (with_reducible exact LeO.refl _) | (with_reducible refine LeO.ite ?_ ?_) | (with_reducible refine LeO.bind ?_ (fun _ => ?_))
  ·intro y0 y1 y2 y3 y4 y5 y6
   unfold spec_l17Try.l0
   repeat' first | (with_reducible exact ih0 _ _ _ _ _ _) | (with_reducible exact ih1 _ _ _ _ _ _ _) | (with_reducible exact LeO.refl _) | (with_reducible refine LeO.ite ?_ ?_) | (with_reducible refine LeO.bind ?_ (fun _ => ?_))
theorem spec_l17Try.mono : ∀ a0 a1 a2 a3 a4 a5 k, LeO (spec_l17Try.f k a0 a1 a2 a3 a4 a5) (spec_l17Try.f (k + 1) a0 a1 a2 a3 a4 a5) := by
 intro a0 a1 a2 a3 a4 a5 k
 obtain ⟨ih0, ih1⟩ := spec_l17Try.mono_l k
 exact ih0 a0 a1 a2 a3 a4 a5
def spec_l17Try.T9 : Bool × List (List Nat × List Nat) := (true, [([], []), ([], []), ([], []), ([1, 2], [1, 2]), ([0, 3], [0, 3]), ([], []), ([], []), ([6], [6]), ([5, 7], [5, 7]), ([4, 8, 4], [4, 8]), ([9, 9, 0, 1, 2, 3, 4, 5, 6, 7, 8, 9], [9])])
def spec_l17Try.B9 : List Nat := [0, 0, 0, 6, 15, 0, 0, 64, 224, 511, 1023]
theorem spec_l17Try.tab9 : rtab .any (opsOf Try.f95 9) = spec_l17Try.T9 := by kernel_rfl
theorem spec_l17Try.bits9 : waitsOk spec_l17Try.T9.2 spec_l17Try.B9 = true := by kernel_rfl
def spec_l17Try.T10 : Bool × List (List Nat × List Nat) := (true, [([], []), ([], []), ([], []), ([1, 2], [1, 2]), ([], []), ([], []), ([4, 5], [4, 5]), ([6], [6]), ([7], [7]), ([3, 8, 3], [3, 8]), ([], []), ([], []), ([], []), ([0, 9, 10, 11, 12, 9], [0, 9, 10, 11, 12]), ([13], [13]), ([14], [14]), ([14], [14]), ([15, 13, 0, 1, 2, 3, 4, 5, 6, 7, 8, 9, 10, 11, 12, 13, 14, 15], [11, 15]), ([16, 17, 0, 1, 2, 3, 4, 5, 6, 7, 8, 9, 10, 11, 12, 13, 14, 15, 16, 17], [12, 16])])
def spec_l17Try.B10 : List Nat := [0, 0, 0, 6, 0, 0, 48, 112, 240, 510, 0, 0, 0, 8191, 16383, 32767, 32767, 65535, 262143]
theorem spec_l17Try.tab10 : rtab .any (opsOf Try.f95 10) = spec_l17Try.T10 := by kernel_rfl
theorem spec_l17Try.bits10 : waitsOk spec_l17Try.T10.2 spec_l17Try.B10 = true := by kernel_rfl
set_option maxHeartbeats 8000000 in
set_option maxRecDepth 100000 in
theorem spec_l17Try.calls (k : Nat) : ∀ (a0_0 : Int) (A0_1 : Option Addr) (c0_1 : Nat) (l0_1 : List (S41)) (A1 : Option Addr) (c1 : Nat) (l1 : List Int) (A2 : Option Addr) (c2 : Nat) (l2 : List Int) (P3_ : Nat → Prop) (A3 : Option Addr) (c3 : Nat) (l3 : List Int) (a4 : Int) (r1 : List Int) (r2 : Int) (w : World) (hr0_1 : Kd.C k41 w A0_1 l0_1.length l0_1) (hc0_1 : l0_1.length ≤ c0_1) (hr1 : Kd.C (Kd.int .i64) w A1 l1.length l1) (hc1 : l1.length ≤ c1) (hr2 : Kd.C (Kd.int .i64) w A2 l2.length l2) (hc2 : l2.length ≤ c2) (hs3 : Kd.V (Kd.int .i64) 3 w w.heap.size (fun k_ => P3_ k_) (.slice A3 l3.length c3) l3) (h : spec_l17Try.f k a0_0 l0_1 l1 l2 l3 a4 = some (r1, r2)),
  Calls Try.prog 95 #[.agg #[.int .i64 a0_0, .slice A0_1 l0_1.length c0_1], .slice A1 l1.length c1, .slice A2 l2.length c2, .slice A3 l3.length c3, .int .i64 a4] w fun e w' => ∃ v0_ : Value, e = .returned (.tuple #[v0_, .int .i64 r2]) ∧ Kd.V (Kd.int .i64) 3 w' w.heap.size (fun k_ => (P3_ k_ ∨ w.heap.size ≤ k_)) v0_ r1 ∧ Below w.heap.size w w' := by
 induction k using Nat.strongRecOn with
 | _ k ih =>
 intro a0_0 A0_1 c0_1 l0_1 A1 c1 l1 A2 c2 l2 P3_ A3 c3 l3 a4 r1 r2 w hr0_1 hc0_1 hr1 hc1 hr2 hc2 hs3 h
 cases k with
 | zero => exact absurd h (by simp [spec_l17Try.f])
 | succ k =>
 simp only [spec_l17Try.f] at h
 have hu25 := Try.underlying25
 have HR0_1 := ak hr0_1
 have HC0_1 := ak hc0_1
 clear hr0_1 hc0_1
 have HR1 := ak hr1
 have HC1 := ak hc1
 clear hr1 hc1
 have HR2 := ak hr2
 have HC2 := ak hc2
 clear hr2 hc2
 have HO3 := ak (show Kd.V (Kd.int .i64) 3 w w.heap.size (fun k_ => (P3_ k_ ∨ w.heap.size ≤ k_)) (.slice A3 l3.length c3) l3 from Kd.V_mono hs3 (fun k_ hk => .inl hk))
 have HB := ak (Below.refl w.heap.size w)
 have H : (if (l2.length : Int) = 0 then ((spec_l17Cost.f k a0_0 l0_1 l1).bind fun t1197 => (if t1197 < a4 then ((some (([] : List Int) : List Int)).bind fun y1198 => (if y1198.length + l1.length < 17592186044416 then (some ((y1198 ++ l1), t1197)) else (none))) else (some (l3, a4)))) else (spec_l17Try.l0 k l1 l2 l3 a4 0 a0_0 l0_1)) = some (r1, r2) := h
 clear h
 by_cases c6 : (l2.length : Int) = 0
 ·rw [if_pos c6] at H
  have c6b0 : ((l2.length : Int) == 0) = true := beq_iff_eq.mpr c6
  have c6b1 : ((l2.length : Int) != 0) = false := bne_eq_false_iff_eq.mpr c6
  clear c6
  replace H := Option.bind_eq_some_iff.mp H
  obtain ⟨t1197, A70, H⟩ := H
  have A7 := ak A70
  clear A70
  by_cases c8 : t1197 < a4
  rotate_left
  ·rw [if_neg c8] at H
   have c8b0 : decide (t1197 < a4) = false := decide_eq_false c8
   clear c8
   simp only [Option.some.injEq, Prod.mk.injEq] at H
   obtain ⟨rfl, rfl⟩ := H
   go_enter Try.func95, Try.ntmps95
   go_wp2_with (first | ((with_reducible refine gate_dst (N := 5) rfl ?_); refine box_event ?hg (N := 5) ?hd (cs := #[.int .i64 a0_0, .slice A0_1 l0_1.length c0_1]) (t := 25) ?hr ?_; (case hd => rfl); (case hg => rfl); (case hr => (go_simp; done)); intro gb1196 hg w16 hbox hb; replace HO3 := ak (Kd.V_below (Kd.V_elderB (by exact HO3.out) gb1196 (Nat.le_of_eq hg.symm)) hb); have BK1196 := ak (hbox); have GW1196 := ak ((by rw [hg]; exact (below_size (bl HB)) : w.heap.size ≤ gb1196)); have GE1196 := ak ((by rw [hg]; exact (below_size (bl HB)) : w.heap.size ≤ gb1196)); replace HB := ak (below_step (bl HB) hb); clear hb hbox hg; have hcz17_0 := bc w16 BK1196 0 (.int .i64 a0_0) rfl; have hcz17_1 := bc w16 BK1196 1 (.slice A0_1 l0_1.length c0_1) rfl; have hfz17_0 := fz BK1196 0; have hfz17_1 := fz BK1196 1) | ((with_reducible refine gate_callee (f := 57) rfl ?_); refine goesL_ (some 20) rfl rfl Try.func57 (by kernel_rfl) rfl #[.agg #[.int .i64 a0_0, .slice A0_1 l0_1.length c0_1], .slice A1 l1.length c1] rfl (by (try simp only [List.map_toArray, List.map_cons, List.map_nil]); rfl) ?_; (with_reducible refine (spec_l17Cost.calls k a0_0 _ _ l0_1 _ _ l1 t1197 _ ?side1 ?side2 ?side3 ?side4 A7.out).mono ?_); (case side1 => repeat (exact (Kd.C_below HR0_1.out HB.out))); (case side2 => exact HC0_1.out); (case side3 => repeat (exact (Kd.C_below HR1.out HB.out))); (case side4 => exact HC1.out); rintro e w18 ⟨rfl, hb⟩; refine ⟨_, rfl, ?_⟩; replace HO3 := ak (Kd.V_below (by exact HO3.out) hb); replace BK1196 := ak (blk_below (bk BK1196) hb); replace HB := ak (below_step (bl1 HB GE1196) hb); (try clear hb); (try clear hb2); (try clear hk); (try clear hi)))
   go_ret2
   exact ⟨_, by rfl, by exact Kd.V_mono HO3.out (fun _ hk => hk.1), bl1 HB GE1196⟩
  rw [if_pos c8] at H
  have c8b0 : decide (t1197 < a4) = true := decide_eq_true c8
  clear c8
  obtain ⟨y1198, hy1198⟩ : ∃ y_ : List Int, y_ = (([] : List Int)) := ⟨_, rfl⟩
  replace H : (if y1198.length + l1.length < 17592186044416 then (some ((y1198 ++ l1), t1197)) else (none)) = some (r1, r2) := by (have H2_ := (Option.bind_some _ _).symm.trans H; rw [hy1198]; with_reducible exact H2_)
  have Ny1198 := ak hy1198
  clear hy1198
  by_cases c9 : y1198.length + l1.length < 17592186044416
  rotate_left
  ·rw [if_neg c9] at H
   exact absurd H (by simp)
  rw [if_pos c9] at H
  have LMc9 := ak c9
  clear c9
  obtain ⟨y1201, hy1201⟩ : ∃ y_ : List Int, y_ = (y1198 ++ l1) := ⟨_, rfl⟩
  replace H : (some (y1201, t1197)) = some (r1, r2) := by (rw [hy1201]; with_reducible exact H)
  have Ny1201 := ak hy1201
  clear hy1201
  simp only [Option.some.injEq, Prod.mk.injEq] at H
  obtain ⟨rfl, rfl⟩ := H
  go_enter Try.func95, Try.ntmps95
  go_wp2_with (first | ((with_reducible refine gate_dst (N := 5) rfl ?_); refine box_event ?hg (N := 5) ?hd (cs := #[.int .i64 a0_0, .slice A0_1 l0_1.length c0_1]) (t := 25) ?hr ?_; (case hd => rfl); (case hg => rfl); (case hr => (go_simp; done)); intro gb1196 hg w10 hbox hb; replace HO3 := ak (Kd.V_below (Kd.V_elderB (by exact HO3.out) gb1196 (Nat.le_of_eq hg.symm)) hb); have BK1196 := ak (hbox); have GW1196 := ak ((by rw [hg]; exact (below_size (bl HB)) : w.heap.size ≤ gb1196)); have GE1196 := ak ((by rw [hg]; exact (below_size (bl HB)) : w.heap.size ≤ gb1196)); replace HB := ak (below_step (bl HB) hb); clear hb hbox hg; have hcz11_0 := bc w10 BK1196 0 (.int .i64 a0_0) rfl; have hcz11_1 := bc w10 BK1196 1 (.slice A0_1 l0_1.length c0_1) rfl; have hfz11_0 := fz BK1196 0; have hfz11_1 := fz BK1196 1) | ((with_reducible refine gate_callee (f := 57) rfl ?_); refine goesL_ (some 20) rfl rfl Try.func57 (by kernel_rfl) rfl #[.agg #[.int .i64 a0_0, .slice A0_1 l0_1.length c0_1], .slice A1 l1.length c1] rfl (by (try simp only [List.map_toArray, List.map_cons, List.map_nil]); rfl) ?_; (with_reducible refine (spec_l17Cost.calls k a0_0 _ _ l0_1 _ _ l1 t1197 _ ?side1 ?side2 ?side3 ?side4 A7.out).mono ?_); (case side1 => repeat (exact (Kd.C_below HR0_1.out HB.out))); (case side2 => exact HC0_1.out); (case side3 => repeat (exact (Kd.C_below HR1.out HB.out))); (case side4 => exact HC1.out); rintro e w12 ⟨rfl, hb⟩; refine ⟨_, rfl, ?_⟩; replace HO3 := ak (Kd.V_below (by exact HO3.out) hb); replace BK1196 := ak (blk_below (bk BK1196) hb); replace HB := ak (below_step (bl1 HB GE1196) hb); (try clear hb); (try clear hb2); (try clear hk); (try clear hi)) | ((with_reducible refine gate_dst (N := 24) rfl ?_); refine Kd.R_lit (Kd.int .i64) _ 3 ?hg (N := 24) ?hd (xs := ([] : List Int)) (inner := []) (ok := fun _ => True) (okp := fun _ => True) ?hr ?hp (fun _ hk => hk) trivial (Below.refl _ _) (Nat.le_refl _) (by simp) ?_; (case hd => rfl); (case hg => rfl); (case hr => (go_simp; done)); (case hp => exact (Reps.none _ _)); intro v1199 w13 ho14 hb hg_ hnew_; clear hg_ hnew_; (rw [← Ny1198.out] at ho14); replace HO3 := ak (Kd.V_elder' (by exact HO3.out) (Kd.R_base ho14) hb); have HO1200 := ak (Kd.R_lower (Kd.R_newM (M := fun k_ => (w.heap.size ≤ k_)) ho14 (below_size (bl1 HB GE1196)) (fun k_ h_ => h_)) (below_size (bl1 HB GE1196))); replace BK1196 := ak (blk_below (bk BK1196) hb); replace HB := ak (below_step (bl1 HB GE1196) hb); clear hb ho14) | ((with_reducible refine gate_builtin (b := .append) (xs := #[.tmp 24, .tmp 25]) rfl ?_); at_builtin; refine Kd.R_append_rows (Kd.int .i64) (w0 := w) w.heap.size rfl (.tmp 24) (.tmp 25) 26 3 (.int .i64 0) 8 rfl Try.underlying26 info3 rfl (by decide) (by omega) v1199 y1198 l1 _ _ _ (fun k_ => (w.heap.size ≤ k_)) (fun _ => False) rfl rfl ?aO ?aR (fun _ _ h => h) (fun _ h => h.elim) ?aF ?aB ?aS ?aL ?_; (case aR => repeat (exact (Kd.C_below HR1.out HB.out))); (case aB => exact (bl1 HB GE1196)); (case aF => exact (fun k_ hk => (Nat.le_trans (below_size (bl1 HB GE1196)) hk))); (case aO => exact (by exact Kd.R_mono HO1200.out (fun _ hk => hk.1))); (case aS => exact (below_size (bl1 HB GE1196))); (case aL => have := LMc9.out; omega); intro v1202 w15 ho hb hg hat; rw [← Ny1201.out] at ho; have n0_ := ak (Kd.V_afterv (ok := (fun k_ => (P3_ k_ ∨ w.heap.size ≤ k_) ∧ k_ ≠ gb1196)) (by exact HO3.out) hg hat); have n1_ := ak (blk_grown (bk BK1196) hg (Kd.R_ne HO1200.out BK1196.out (by decide))); have n2_ := ak (hb); have n3_ := ak (ho); clear HO3; clear BK1196; clear HB; clear HO1200; have HO3 := n0_; have BK1196 := n1_; have HB := n2_; have HO1203 := n3_; clear n0_ n1_ n2_ n3_; clear ho hb hg hat))
  go_ret2
  exact ⟨_, by rfl, Kd.V_mono (Kd.R_V (rk HO1203)) (fun k_ hk => by exact (.inr (hk))), bl1 HB GE1196⟩
 rw [if_neg c6] at H
 have c6b0 : ((l2.length : Int) == 0) = false := beq_eq_false_iff_ne.mpr c6
 have c6b1 : ((l2.length : Int) != 0) = true := bne_iff_ne.mpr c6
 have c6b2 : ¬ (l2 = []) := fun h_ => c6 (by rw [h_]; rfl)
 have H' := ak H
 clear H
 go_enter Try.func95, Try.ntmps95
 go_wp2_with (((with_reducible refine gate_dst (N := 5) rfl ?_); refine box_event ?hg (N := 5) ?hd (cs := #[.int .i64 a0_0, .slice A0_1 l0_1.length c0_1]) (t := 25) ?hr ?_; (case hd => rfl); (case hg => rfl); (case hr => (go_simp; done)); intro gb1196 hg w19 hbox hb; replace HO3 := ak (Kd.V_below (Kd.V_elderB (by exact HO3.out) gb1196 (Nat.le_of_eq hg.symm)) hb); have BK1196 := ak (hbox); have GW1196 := ak ((by rw [hg]; exact (below_size (bl HB)) : w.heap.size ≤ gb1196)); have GE1196 := ak ((by rw [hg]; exact (below_size (bl HB)) : w.heap.size ≤ gb1196)); replace HB := ak (below_step (bl HB) hb); clear hb hbox hg))
 go_loopg [3, 4, 13] k (fun kq v3 v4 v13 w' => ∃ (x3_1 : List Int) (x4_1 : Int) (x13_1 : Int), v4 = .int .i64 x4_1 ∧ v13 = .int .i64 x13_1 ∧ Aside0 (spec_l17Try.l0 kq l1 l2 x3_1 x4_1 x13_1 a0_0 l0_1 = some (r1, r2)) ∧ Aside0 (kq ≤ k) ∧ Aside0 (Kd.V (Kd.int .i64) 3 w' w.heap.size (fun k_ => (P3_ k_ ∨ w.heap.size ≤ k_) ∧ k_ ≠ gb1196) v3 x3_1) ∧ Aside0 (w'.heap[gb1196]? = some (.cells #[.int .i64 a0_0, (.slice A0_1 l0_1.length c0_1)] 25 (0, 0))) ∧ Aside0 (Below w.heap.size w w'))
 case atStart => exact ⟨(l3), (a4), (0), (by rfl), (by rfl), H', ⟨Nat.le_refl _⟩, ⟨by exact HO3.out⟩, ⟨bk BK1196⟩, ⟨bl1 HB GE1196⟩⟩
 clear H'
 try clear c1
 try clear c2
 try clear p2
 try clear c3
 try clear c5
 try clear c6
 try clear c6b0
 try clear c6b1
 try clear c6b2
 try clear c8
 try clear c8b0
 try clear c9
 try clear hcz11_0
 try clear hcz11_1
 try clear hcz17_0
 try clear hcz17_1
 try clear hfz11_0
 try clear hfz11_1
 try clear hfz17_0
 try clear hfz17_1
 obtain ⟨x3_1, x4_1, x13_1, rfl, rfl, HA, HK1, HO_3, BK1196, HB⟩ := hrel
 cases gk with
 | zero => exact absurd HA.out (by simp [spec_l17Try.l0])
 | succ k1 =>
  have H := HA.out
  clear HA
  simp only [spec_l17Try.l0] at H
  by_cases c20 : x13_1 < (l2.length : Int)
  rotate_left
  ·rw [if_neg c20] at H
   have c20b0 : decide (x13_1 < (l2.length : Int)) = false := decide_eq_false c20
   clear c20
   simp only [Option.some.injEq, Prod.mk.injEq] at H
   obtain ⟨rfl, rfl⟩ := H
   go_wp2
   go_ret2
   exact ⟨_, by rfl, by exact Kd.V_mono HO_3.out (fun _ hk => hk.1), bl1 HB GE1196⟩
  rw [if_pos c20] at H
  have c20b0 : decide (x13_1 < (l2.length : Int)) = true := decide_eq_true c20
  clear c20
  obtain ⟨y1204, hy1204⟩ : ∃ y_ : List Int, y_ = (([] : List Int)) := ⟨_, rfl⟩
  replace H : (if 0 ≤ x13_1 then (if x13_1 ≤ (l2.length : Int) then (if y1204.length + (l2.take (x13_1 : Int).toNat).length < 17592186044416 then ((some (y1204 ++ (l2.take (x13_1 : Int).toNat) : List Int)).bind fun y1208 => (if 0 ≤ (wrap64 (x13_1 + 1)) then (if (wrap64 (x13_1 + 1)) ≤ (l2.length : Int) then (if y1208.length + (l2.drop ((wrap64 (x13_1 + 1)) : Int).toNat).length < 17592186044416 then ((some (([] : List Int) : List Int)).bind fun y1215 => (if y1215.length + l1.length < 17592186044416 then ((some (y1215 ++ l1 : List Int)).bind fun y1218 => ((some (([rd l2 x13_1] : List Int) : List Int)).bind fun y1222 => (if y1218.length + y1222.length < 17592186044416 then ((spec_l17Try.f k1 a0_0 l0_1 (y1218 ++ y1222) (y1208 ++ (l2.drop ((wrap64 (x13_1 + 1)) : Int).toNat)) x3_1 x4_1).bind fun bt1228 => (spec_l17Try.l0 k1 l1 l2 bt1228.1 bt1228.2 (wrap64 (x13_1 + 1)) a0_0 l0_1)) else (none)))) else (none))) else (none)) else (none)) else (none))) else (none)) else (none)) else (none)) = some (r1, r2) := by (have H2_ := (Option.bind_some _ _).symm.trans H; rw [hy1204]; with_reducible exact H2_)
  have Ny1204 := ak hy1204
  clear hy1204
  by_cases c21 : 0 ≤ x13_1
  rotate_left
  ·rw [if_neg c21] at H
   exact absurd H (by simp)
  rw [if_pos c21] at H
  have c21b0 := eq_true c21
  have c21b1 : decide (0 ≤ x13_1) = true := decide_eq_true c21
  clear c21
  by_cases c22 : x13_1 ≤ (l2.length : Int)
  rotate_left
  ·rw [if_neg c22] at H
   exact absurd H (by simp)
  rw [if_pos c22] at H
  have c22b0 := eq_true c22
  have c22b1 : decide (x13_1 ≤ (l2.length : Int)) = true := decide_eq_true c22
  clear c22
  by_cases c23 : y1204.length + (l2.take (x13_1 : Int).toNat).length < 17592186044416
  rotate_left
  ·rw [if_neg c23] at H
   exact absurd H (by simp)
  rw [if_pos c23] at H
  have LMc23 := ak c23
  clear c23
  obtain ⟨y1208, hy1208⟩ : ∃ y_ : List Int, y_ = (y1204 ++ (l2.take (x13_1 : Int).toNat)) := ⟨_, rfl⟩
  replace H : (if 0 ≤ (wrap64 (x13_1 + 1)) then (if (wrap64 (x13_1 + 1)) ≤ (l2.length : Int) then (if y1208.length + (l2.drop ((wrap64 (x13_1 + 1)) : Int).toNat).length < 17592186044416 then ((some (([] : List Int) : List Int)).bind fun y1215 => (if y1215.length + l1.length < 17592186044416 then ((some (y1215 ++ l1 : List Int)).bind fun y1218 => ((some (([rd l2 x13_1] : List Int) : List Int)).bind fun y1222 => (if y1218.length + y1222.length < 17592186044416 then ((spec_l17Try.f k1 a0_0 l0_1 (y1218 ++ y1222) (y1208 ++ (l2.drop ((wrap64 (x13_1 + 1)) : Int).toNat)) x3_1 x4_1).bind fun bt1228 => (spec_l17Try.l0 k1 l1 l2 bt1228.1 bt1228.2 (wrap64 (x13_1 + 1)) a0_0 l0_1)) else (none)))) else (none))) else (none)) else (none)) else (none)) = some (r1, r2) := by (have H2_ := (Option.bind_some _ _).symm.trans H; rw [hy1208]; with_reducible exact H2_)
  have Ny1208 := ak hy1208
  clear hy1208
  obtain ⟨ji24, hji24⟩ : ∃ j_ : Int, (wrap64 (x13_1 + 1)) = j_ := ⟨_, rfl⟩
  replace H : (if 0 ≤ (ji24) then (if (ji24) ≤ (l2.length : Int) then (if y1208.length + (l2.drop ((ji24) : Int).toNat).length < 17592186044416 then ((some (([] : List Int) : List Int)).bind fun y1215 => (if y1215.length + l1.length < 17592186044416 then ((some (y1215 ++ l1 : List Int)).bind fun y1218 => ((some (([rd l2 x13_1] : List Int) : List Int)).bind fun y1222 => (if y1218.length + y1222.length < 17592186044416 then ((spec_l17Try.f k1 a0_0 l0_1 (y1218 ++ y1222) (y1208 ++ (l2.drop ((ji24) : Int).toNat)) x3_1 x4_1).bind fun bt1228 => (spec_l17Try.l0 k1 l1 l2 bt1228.1 bt1228.2 ji24 a0_0 l0_1)) else (none)))) else (none))) else (none)) else (none)) else (none)) = some (r1, r2) := by (rw [hji24] at H; exact H)
  have hji24w : (IntKind.i64.wrap (x13_1 + 1)) = ji24 := (i64_w _).trans hji24
  by_cases c25 : 0 ≤ (ji24)
  rotate_left
  ·rw [if_neg c25] at H
   exact absurd H (by simp)
  rw [if_pos c25] at H
  have c25b0 := eq_true c25
  have c25b1 : decide (0 ≤ (ji24)) = true := decide_eq_true c25
  clear c25
  by_cases c26 : (ji24) ≤ (l2.length : Int)
  rotate_left
  ·rw [if_neg c26] at H
   exact absurd H (by simp)
  rw [if_pos c26] at H
  have c26b0 := eq_true c26
  have c26b1 : decide ((ji24) ≤ (l2.length : Int)) = true := decide_eq_true c26
  clear c26
  by_cases c27 : y1208.length + (l2.drop ((ji24) : Int).toNat).length < 17592186044416
  rotate_left
  ·rw [if_neg c27] at H
   exact absurd H (by simp)
  rw [if_pos c27] at H
  have LMc27 := ak c27
  clear c27
  obtain ⟨y1212, hy1212⟩ : ∃ y_ : List Int, y_ = (y1208 ++ (l2.drop ((ji24) : Int).toNat)) := ⟨_, rfl⟩
  replace H : ((some (([] : List Int) : List Int)).bind fun y1215 => (if y1215.length + l1.length < 17592186044416 then ((some (y1215 ++ l1 : List Int)).bind fun y1218 => ((some (([rd l2 x13_1] : List Int) : List Int)).bind fun y1222 => (if y1218.length + y1222.length < 17592186044416 then ((spec_l17Try.f k1 a0_0 l0_1 (y1218 ++ y1222) y1212 x3_1 x4_1).bind fun bt1228 => (spec_l17Try.l0 k1 l1 l2 bt1228.1 bt1228.2 ji24 a0_0 l0_1)) else (none)))) else (none))) = some (r1, r2) := by (rw [hy1212]; with_reducible exact H)
  have Ny1212 := ak hy1212
  clear hy1212
  obtain ⟨y1215, hy1215⟩ : ∃ y_ : List Int, y_ = (([] : List Int)) := ⟨_, rfl⟩
  replace H : (if y1215.length + l1.length < 17592186044416 then ((some (y1215 ++ l1 : List Int)).bind fun y1218 => ((some (([rd l2 x13_1] : List Int) : List Int)).bind fun y1222 => (if y1218.length + y1222.length < 17592186044416 then ((spec_l17Try.f k1 a0_0 l0_1 (y1218 ++ y1222) y1212 x3_1 x4_1).bind fun bt1228 => (spec_l17Try.l0 k1 l1 l2 bt1228.1 bt1228.2 ji24 a0_0 l0_1)) else (none)))) else (none)) = some (r1, r2) := by (have H2_ := (Option.bind_some _ _).symm.trans H; rw [hy1215]; with_reducible exact H2_)
  have Ny1215 := ak hy1215
  clear hy1215
  by_cases c28 : y1215.length + l1.length < 17592186044416
  rotate_left
  ·rw [if_neg c28] at H
   exact absurd H (by simp)
  rw [if_pos c28] at H
  have LMc28 := ak c28
  clear c28
  obtain ⟨y1218, hy1218⟩ : ∃ y_ : List Int, y_ = (y1215 ++ l1) := ⟨_, rfl⟩
  replace H : ((some (([rd l2 x13_1] : List Int) : List Int)).bind fun y1222 => (if y1218.length + y1222.length < 17592186044416 then ((spec_l17Try.f k1 a0_0 l0_1 (y1218 ++ y1222) y1212 x3_1 x4_1).bind fun bt1228 => (spec_l17Try.l0 k1 l1 l2 bt1228.1 bt1228.2 ji24 a0_0 l0_1)) else (none))) = some (r1, r2) := by (have H2_ := (Option.bind_some _ _).symm.trans H; rw [hy1218]; with_reducible exact H2_)
  have Ny1218 := ak hy1218
  clear hy1218
  obtain ⟨y1222, hy1222⟩ : ∃ y_ : List Int, y_ = (([rd l2 x13_1] : List Int)) := ⟨_, rfl⟩
  replace H : (if y1218.length + y1222.length < 17592186044416 then ((spec_l17Try.f k1 a0_0 l0_1 (y1218 ++ y1222) y1212 x3_1 x4_1).bind fun bt1228 => (spec_l17Try.l0 k1 l1 l2 bt1228.1 bt1228.2 ji24 a0_0 l0_1)) else (none)) = some (r1, r2) := by (have H2_ := (Option.bind_some _ _).symm.trans H; rw [hy1222]; with_reducible exact H2_)
  have Ny1222 := ak hy1222
  clear hy1222
  by_cases c29 : y1218.length + y1222.length < 17592186044416
  rotate_left
  ·rw [if_neg c29] at H
   exact absurd H (by simp)
  rw [if_pos c29] at H
  have LMc29 := ak c29
  clear c29
  obtain ⟨y1225, hy1225⟩ : ∃ y_ : List Int, y_ = (y1218 ++ y1222) := ⟨_, rfl⟩
  replace H : ((spec_l17Try.f k1 a0_0 l0_1 y1225 y1212 x3_1 x4_1).bind fun bt1228 => (spec_l17Try.l0 k1 l1 l2 bt1228.1 bt1228.2 ji24 a0_0 l0_1)) = some (r1, r2) := by (rw [hy1225]; with_reducible exact H)
  have Ny1225 := ak hy1225
  clear hy1225
  replace H := Option.bind_eq_some_iff.mp H
  obtain ⟨⟨t1228, t1231⟩, A300, H⟩ := H
  have A30 := ak A300
  clear A300
  have H' := ak H
  clear H
  try go_wp2
  replace HO_3 := ak (Kd.V_drew HO_3.out)
  replace BK1196 := ak (blk_drew BK1196.out)
  replace HB := ak (below_drew1 HB.out)
  obtain ⟨i032, hi032, _, hsz32, _⟩ := info_parts info3
  obtain ⟨hcut32, hA32, hC32⟩ := print_take_of (P := Try.prog) (Value.int .i64) 0 26 3 .i64 Try.underlying26 hi032 hsz32 A2 c2 l2 x13_1 (oT (by (with_reducible assumption))) (oT (by (with_reducible assumption))) HC2.out
  have HR1207 := ak (Kd.C_of_reads (h1 := fun _ => rfl) (hA32 _ (Kd.reads_of_C HR2.out)))
  have HC1207 := ak hC32
  clear hA32 hC32 hi032 hsz32
  obtain ⟨i033, hi033, _, hsz33, _⟩ := info_parts info3
  obtain ⟨A33, hcut33, hA33, hC33⟩ := print_drop_of (P := Try.prog) (Value.int .i64) 0 26 3 .i64 Try.underlying26 hi033 hsz33 A2 c2 l2 (ji24) (oT (by (with_reducible assumption))) (oT (by (with_reducible assumption))) HC2.out
  have HR1211 := ak (Kd.C_of_reads (h1 := fun _ => rfl) (hA33 _ (Kd.reads_of_C HR2.out)))
  have HC1211 := ak hC33
  clear hA33 hC33 hi033 hsz33
  refine start_ (n := 11) (S := fun w' => True) (ds := []) (ms 11 0) (by kernel_rfl) rfl (by kernel_rfl) trivial (fun hHeld => ?_); refine with_tabW spec_l17Try.tab9 spec_l17Try.bits9 (fun HT_ HW_ => ?_)
  generalize wr.drew = w31 at HO_3 BK1196 HB HR1207 HR1211 hHeld ⊢
  refine pu 1 37 ?_ (ms 11 2) rfl rfl HT_ (by kernel_rfl) (fun _ _ _ h => h) (by rfl) ?_ ?_ ?_ ?_
  rotate_left
  ·intro w'
   go_simp
   with_reducible rfl
  rotate_left
  ·simp only [SX]
   rfl
  refine pu 2 38 ?_ (ms 11 6) rfl rfl HT_ (by kernel_rfl) (fun _ _ _ h => h) (by rfl) ?_ ?_ ?_ ?_
  rotate_left
  ·intro w'
   go_simp
   with_reducible rfl
  rotate_left
  ·simp only [SX]
   rfl
  refine pu 3 39 ?_ (ms 11 14) rfl rfl HT_ (by kernel_rfl) (fun _ _ _ h => h) (by rfl) ?_ ?_ ?_ ?_
  rotate_left
  ·intro w'
   go_simp
   with_reducible rfl
  rotate_left
  ·simp only [SX]
   rfl
  refine pu 5 41 ?_ (ms 11 46) rfl rfl HT_ (by kernel_rfl) (fun _ _ _ h => h) (by rfl) ?_ ?_ ?_ ?_
  rotate_left
  ·intro w'
   go_simp
   with_reducible rfl
  rotate_left
  ·simp only [SX]
   rfl
  refine pu 6 42 ?_ (ms 11 110) rfl rfl HT_ (by kernel_rfl) (fun _ _ _ h => h) (by rfl) ?_ ?_ ?_ ?_
  rotate_left
  ·intro w'
   go_simp
   with_reducible rfl
  rotate_left
  ·simp only [SX]
   rfl
  refine pu 7 43 ?_ (ms 11 238) rfl rfl HT_ (by kernel_rfl) (fun _ _ _ h => h) (by rfl) ?_ ?_ ?_ ?_
  rotate_left
  ·intro w'
   go_simp
   with_reducible rfl
  rotate_left
  ·simp only [SX]
   rfl
  refine pu 8 44 ?_ (ms 11 494) rfl rfl HT_ (by kernel_rfl) (fun _ _ _ h => h) (by rfl) ?_ ?_ ?_ ?_
  rotate_left
  ·intro w'
   go_simp
   with_reducible rfl
  rotate_left
  ·simp only [SX]
   rfl
  refine one_ (i := 0) (N := some 36) (ms 11 495) rfl rfl (one_of HT_.out (by kernel_rfl)) (by decide) (fun K hK => ?_)
  refine Kd.R_lit_step (Kd.int .i64) _ 3 ?hg (N := 36) ?hd (xs := ([] : List Int)) (inner := []) (ok := fun _ => True) (okp := fun _ => True) ?hr ?hp (fun _ hk => hk) trivial (Below.refl _ _) (Nat.le_refl _) (by simp) ?_; (case hd => rfl); (case hg => rfl); (case hr => (go_simp; done)); (case hp => exact (Reps.none _ _))
  intro v1205 w34 ho35 hb hg_ hnew_
  clear hg_ hnew_
  (rw [← Ny1204.out] at ho35)
  replace HO_3 := ak (Kd.V_elder' (by exact HO_3.out) (Kd.R_base ho35) hb)
  have HO1206 := ak (Kd.R_lower (Kd.R_newM (M := fun k_ => (w.heap.size ≤ k_)) ho35 (below_size (bl1 HB GE1196)) (fun k_ h_ => h_)) (below_size (bl1 HB GE1196)))
  replace BK1196 := ak (blk_below (bk BK1196) hb)
  replace HB := ak (below_step (bl1 HB GE1196) hb)
  clear hb ho35
  refine hK.out _ _ trivial (fun hHeld => ?_)
  clear hK K
  refine norm_ (a' := ?_) ?_ ?_
  rotate_left
  ·show Act.put _ (some 36) _ = _
   simp only [SX]
   rfl
  refine one_ (i := 4) (N := some 40) (ms 11 511) rfl rfl (one_of HT_.out (by kernel_rfl)) (by decide) (fun K hK => ?_)
  refine Kd.R_append_rows_step (Kd.int .i64) (w0 := w) w.heap.size (by rfl) (.tmp 36) (.tmp 39) 26 3 (.int .i64 0) 8 rfl Try.underlying26 info3 rfl (by decide) (by omega) v1205 y1204 (l2.take (x13_1 : Int).toNat) _ _ _ (fun k_ => (w.heap.size ≤ k_)) (fun _ => False) rfl rfl ?aO ?aR (fun _ _ h => h) (fun _ h => h.elim) ?aF ?aB ?aS ?aL ?_
  (case aR => (have e_ : (l2.take (x13_1 : Int).toNat).length = x13_1.toNat := (by rw [List.length_take]; have h_ : (x13_1 : Int) ≤ (l2.length : Int) := oT (by (with_reducible assumption)); omega); have hx_ := (Kd.C_below HR1207.out HB.out); rw [e_] at hx_; exact hx_))
  (case aB => exact (bl1 HB GE1196))
  (case aF => exact (fun k_ hk => (Nat.le_trans (below_size (bl1 HB GE1196)) hk)))
  (case aO => exact (by exact Kd.R_mono HO1206.out (fun _ hk => hk.1)))
  (case aS => exact (below_size (bl1 HB GE1196)))
  (case aL => have := LMc23.out; have hlx_ := (show (l2.take (x13_1 : Int).toNat).length = x13_1.toNat from (by rw [List.length_take]; have h_ : (x13_1 : Int) ≤ (l2.length : Int) := oT (by (with_reducible assumption)); omega)); omega)
  intro v1209 w36 ho hb hg hat
  rw [← Ny1208.out] at ho
  have n0_ := ak (Kd.V_afterv (ok := (fun k_ => (P3_ k_ ∨ w.heap.size ≤ k_) ∧ k_ ≠ gb1196)) (by exact HO_3.out) hg hat)
  have n1_ := ak (blk_grown (bk BK1196) hg (Kd.R_ne HO1206.out BK1196.out (by decide)))
  have n2_ := ak (hb)
  have n3_ := ak (ho)
  clear HO_3
  clear BK1196
  clear HB
  clear HO1206
  have HO_3 := n0_
  have BK1196 := n1_
  have HB := n2_
  have HO1210 := n3_
  clear n0_ n1_ n2_ n3_
  clear ho hb hg hat
  refine hK.out _ _ trivial (fun hHeld => ?_)
  clear hK K
  refine norm_ (a' := ?_) ?_ ?_
  rotate_left
  ·show Act.put _ (some 40) _ = _
   simp only [SX]
   rfl
  refine one_ (i := 9) (N := some 45) (ms 11 1023) rfl rfl (one_of HT_.out (by kernel_rfl)) (by decide) (fun K hK => ?_)
  refine Kd.R_append_rows_step (Kd.int .i64) (w0 := w) w.heap.size (by rfl) (.tmp 40) (.tmp 44) 26 3 (.int .i64 0) 8 rfl Try.underlying26 info3 rfl (by decide) (by omega) v1209 y1208 (l2.drop ((ji24) : Int).toNat) _ _ _ (fun k_ => (w.heap.size ≤ k_)) (fun _ => False) rfl rfl ?aO ?aR (fun _ _ h => h) (fun _ h => h.elim) ?aF ?aB ?aS ?aL ?_
  (case aR => (rw [← show (l2.drop ((ji24) : Int).toNat).length = (l2.length - (ji24).toNat) from List.length_drop]; repeat (exact (Kd.C_below HR1211.out HB.out))))
  (case aB => exact (bl1 HB GE1196))
  (case aF => exact (fun k_ hk => (Nat.le_trans (below_size (bl1 HB GE1196)) hk)))
  (case aO => exact (rk HO1210))
  (case aS => exact (below_size (bl1 HB GE1196)))
  (case aL => have := LMc27.out; have hlx_ := (show (l2.drop ((ji24) : Int).toNat).length = (l2.length - (ji24).toNat) from List.length_drop); omega)
  intro v1213 w37 ho hb hg hat
  rw [← Ny1212.out] at ho
  have n0_ := ak (Kd.V_afterv (ok := (fun k_ => (P3_ k_ ∨ w.heap.size ≤ k_) ∧ k_ ≠ gb1196)) (by exact HO_3.out) hg hat)
  have n1_ := ak (blk_grown (bk BK1196) hg (Kd.R_ne HO1210.out BK1196.out (by decide)))
  have n2_ := ak (hb)
  have n3_ := ak (ho)
  clear HO_3
  clear BK1196
  clear HB
  clear HO1210
  have HO_3 := n0_
  have BK1196 := n1_
  have HB := n2_
  have HO1214 := n3_
  clear n0_ n1_ n2_ n3_
  clear ho hb hg hat
  refine hK.out _ _ trivial (fun hHeld => ?_)
  clear hK K
  refine norm_ (a' := ?_) ?_ ?_
  rotate_left
  ·show Act.put _ (some 45) _ = _
   simp only [SX]
   rfl
  refine pu 10 14 ?_ (ms 11 2047) rfl rfl HT_ (by kernel_rfl) (fun _ _ _ h => h) (by rfl) ?_ ?_ ?_ ?_
  rotate_left
  ·intro w'
   go_simp
   with_reducible rfl
  rotate_left
  ·simp only [SX]
   rfl
  refine done_ (done_of HT_.out (by kernel_rfl)) ?_
  obtain ⟨Ao38, co38, eo38⟩ := Kd.R_slice HO1214.out
  subst eo38
  obtain ⟨Ao39, co39, eo39⟩ := Kd.V_slice HO_3.out
  subst eo39
  try go_wp2
  replace HO_3 := ak (Kd.V_drew HO_3.out)
  replace HO1214 := ak (Kd.R_drew HO1214.out)
  replace BK1196 := ak (blk_drew BK1196.out)
  replace HB := ak (below_drew1 HB.out)
  have p1221 : 0 ≤ (x13_1 : Int) := oT (by (with_reducible assumption))
  have q1221 : x13_1 < (l2.length : Int) := oT (by (with_reducible assumption))
  obtain ⟨ad1221, e1221, hx1221_0⟩ := Kd.at_int HR2.out x13_1 p1221 q1221
  have hw1221_0 := hx1221_0
  cases e1221
  replace hx1221_0 := hcb HB.out hx1221_0
  replace p1221 := eq_true p1221
  replace q1221 := eq_true q1221
  refine start_ (n := 19) (S := fun w' => w'.cell? ⟨gb1196, 0, none⟩ = some (.int .i64 a0_0) ∧ w'.cell? ⟨gb1196, 1, none⟩ = some (.slice A0_1 l0_1.length c0_1) ∧ w'.cell? (ad1221.add (x13_1).toNat) = some (.int .i64 (rd l2 x13_1))) (ds := []) (ms 19 0) (by kernel_rfl) rfl (by kernel_rfl) ⟨(blk_cell BK1196.out 0).trans rfl, (blk_cell BK1196.out 1).trans rfl, ((HB.out.cell (World.block_lt_of_cell? w _ hw1221_0)).trans hw1221_0)⟩ (fun hHeld => ?_); refine with_tabW spec_l17Try.tab10 spec_l17Try.bits10 (fun HT_ HW_ => ?_)
  generalize w37.drew = w40 at HO_3 HO1214 BK1196 HB hx1221_0 hHeld ⊢
  refine pu 2 49 ?_ (ms 19 4) rfl rfl HT_ (by kernel_rfl) (fun _ _ _ h => h) (by rfl) ?_ ?_ ?_ ?_
  rotate_left
  ·intro w'
   go_simp
   with_reducible rfl
  rotate_left
  ·simp only [SX]
   rfl
  refine pu 4 51 ?_ (ms 19 20) rfl rfl HT_ (by kernel_rfl) (fun _ _ _ h => h) (by rfl) ?_ ?_ ?_ ?_
  rotate_left
  ·intro w'
   go_simp
   with_reducible rfl
  rotate_left
  ·simp only [SX]
   rfl
  refine pu 5 52 ?_ (ms 19 52) rfl rfl HT_ (by kernel_rfl) (fun _ _ _ h => h) (by rfl) ?_ ?_ ?_ ?_
  rotate_left
  ·intro w'
   go_simp
   with_reducible rfl
  rotate_left
  ·simp only [SX]
   rfl
  refine pu 6 53 ?_ (ms 19 116) rfl rfl HT_ (by kernel_rfl) (fun _ _ _ h => h) (by rfl) ?_ ?_ ?_ ?_
  rotate_left
  ·intro w'
   go_simp
   with_reducible rfl
  rotate_left
  ·simp only [SX]
   rfl
  refine pu 10 57 ?_ (ms 19 1140) rfl rfl HT_ (by kernel_rfl) (fun _ _ _ h => h) (by rfl) ?_ ?_ ?_ ?_
  rotate_left
  ·intro w'
   go_simp
   with_reducible rfl
  rotate_left
  ·simp only [SX]
   rfl
  refine pu 11 58 ?_ (ms 19 3188) rfl rfl HT_ (by kernel_rfl) (fun _ _ _ h => h) (by rfl) ?_ ?_ ?_ ?_
  rotate_left
  ·intro w'
   go_simp
   with_reducible rfl
  rotate_left
  ·simp only [SX]
   rfl
  refine pu 12 59 ?_ (ms 19 7284) rfl rfl HT_ (by kernel_rfl) (fun _ _ _ h => h) (by rfl) ?_ ?_ ?_ ?_
  rotate_left
  ·intro w'
   go_simp
   with_reducible rfl
  rotate_left
  ·simp only [SX]
   rfl
  refine tk 0 47 ?_ (ms 19 7285) rfl rfl HT_ HW_ (by kernel_rfl) (fun _ _ _ h => h) (by rfl) ?_ hHeld ?_ ?_ ?_
  rotate_left
  ·rintro w' ⟨s0, s1, s2⟩
   go_simp
   with_reducible rfl
  rotate_left
  ·simp only [SX]
   rfl
  refine tk 7 54 ?_ (ms 19 7413) rfl rfl HT_ HW_ (by kernel_rfl) (fun _ _ _ h => h) (by rfl) ?_ hHeld ?_ ?_ ?_
  rotate_left
  ·rintro w' ⟨s0, s1, s2⟩
   go_simp
   with_reducible rfl
  rotate_left
  ·simp only [SX]
   rfl
  refine join_ (σ := Value × Value × Value) 7 (ms 19 7679) (fun s_ => [(48, s_.1), (50, s_.2.1), (55, s_.2.2)]) (fun s_ w' => (w'.cell? ⟨gb1196, 0, none⟩ = some (.int .i64 a0_0) ∧ w'.cell? ⟨gb1196, 1, none⟩ = some (.slice A0_1 l0_1.length c0_1) ∧ w'.cell? (ad1221.add (x13_1).toNat) = some (.int .i64 (rd l2 x13_1))) ∧ (Kd.R (Kd.int .i64) 3 w' w.heap.size (fun k_ => (w.heap.size ≤ k_) ∧ some k_ ≠ (s_.2.1 : Value).ownBlock ∧ some k_ ≠ (s_.2.2 : Value).ownBlock) (.slice Ao38 y1212.length co38) y1212) ∧ (Kd.R (Kd.int .i64) 3 w' w.heap.size (fun k_ => (w.heap.size ≤ k_) ∧ some k_ ≠ (.slice Ao38 y1212.length co38 : Value).ownBlock ∧ some k_ ≠ (s_.2.2 : Value).ownBlock) s_.2.1 y1218) ∧ (Kd.R (Kd.int .i64) 3 w' w.heap.size (fun k_ => (w.heap.size ≤ k_) ∧ some k_ ≠ (.slice Ao38 y1212.length co38 : Value).ownBlock ∧ some k_ ≠ (s_.2.1 : Value).ownBlock) s_.2.2 y1222) ∧ (Kd.V (Kd.int .i64) 3 w' w.heap.size (fun k_ => (P3_ k_ ∨ w.heap.size ≤ k_) ∧ some k_ ≠ (.slice Ao38 y1212.length co38 : Value).ownBlock ∧ some k_ ≠ (s_.2.1 : Value).ownBlock ∧ some k_ ≠ (s_.2.2 : Value).ownBlock ∧ k_ ≠ gb1196) (.slice Ao39 x3_1.length co39) x3_1) ∧ (w'.heap[gb1196]? = some (.cells #[.int .i64 a0_0, .slice A0_1 l0_1.length c0_1] 25 (0, 0))) ∧ (Below w.heap.size w w')) ?_ ?_
  rotate_left
  ·intro hCont
   refine two_ (i := 1) (j := 8) (Ni := some 48) (Nj := some 55) (ms 19 7415) (ms 19 7669) rfl rfl rfl rfl (two_of HT_.out (by kernel_rfl)) (by decide) (by decide) (fun K hK => ?_) (fun K hK => ?_)
   rotate_left
   ·skip
    refine Kd.R_lit_step (Kd.int .i64) _ 3 ?hg (N := 55) ?hd (xs := ([rd l2 x13_1] : List Int)) (inner := [.int .i64 (rd l2 x13_1)]) (ok := fun _ => True) (okp := fun _ => True) ?hr ?hp (fun _ hk => hk) trivial (Below.refl _ _) (Nat.le_refl _) (by simp) ?_; (case hd => rfl); (case hg => rfl); (case hr => (go_simp; done)); (case hp => exact (Reps.one (show Kd.M (Kd.int .i64) _ _ _ (rd l2 x13_1) [.int .i64 (rd l2 x13_1)] from rfl) (Reps.none _ _)))
    intro v1223 w41 ho42 hb hg_ hnew_
    clear hg_ hnew_
    (rw [← Ny1222.out] at ho42)
    replace HO_3 := ak (Kd.V_elder' (by exact HO_3.out) (Kd.R_base ho42) hb)
    have HO1224 := ak (Kd.R_lower (Kd.R_new' (Kd.R_newM (M := fun k_ => (w.heap.size ≤ k_)) ho42 (below_size (bl1 HB GE1196)) (fun k_ h_ => h_)) (Kd.R_lt (rk HO1214))) (below_size (bl1 HB GE1196)))
    replace HO1214 := ak (Kd.R_elder' (rk HO1214) (Kd.R_base ho42) hb)
    replace BK1196 := ak (blk_below (bk BK1196) hb)
    replace HB := ak (below_step (bl1 HB GE1196) hb)
    clear hb ho42
    refine hK.out _ _ ⟨(blk_cell BK1196.out 0).trans rfl, (blk_cell BK1196.out 1).trans rfl, ((HB.out.cell (World.block_lt_of_cell? w _ hw1221_0)).trans hw1221_0)⟩ (fun hHeld => ?_)
    clear hK K
    refine norm_ (a' := ?_) ?_ ?_
    rotate_left
    ·show Act.put _ (some 55) _ = _
     simp only [SX]
     rfl
    refine one_ (i := 1) (N := some 48) (ms 19 7671) rfl rfl (one_of HT_.out (by kernel_rfl)) (by decide) (fun K hK => ?_)
    refine Kd.R_lit_step (Kd.int .i64) _ 3 ?hg (N := 48) ?hd (xs := ([] : List Int)) (inner := []) (ok := fun _ => True) (okp := fun _ => True) ?hr ?hp (fun _ hk => hk) trivial (Below.refl _ _) (Nat.le_refl _) (by simp) ?_; (case hd => rfl); (case hg => rfl); (case hr => (go_simp; done)); (case hp => exact (Reps.none _ _))
    intro v1216 w43 ho44 hb hg_ hnew_
    clear hg_ hnew_
    (rw [← Ny1215.out] at ho44)
    replace HO_3 := ak (Kd.V_elder' (by exact HO_3.out) (Kd.R_base ho44) hb)
    have HO1217 := ak (Kd.R_lower (Kd.R_new' (Kd.R_new' (Kd.R_newM (M := fun k_ => (w.heap.size ≤ k_)) ho44 (below_size (bl1 HB GE1196)) (fun k_ h_ => h_)) (Kd.R_lt (rk HO1214))) (Kd.R_lt (rk HO1224))) (below_size (bl1 HB GE1196)))
    replace HO1214 := ak (Kd.R_elder' (rk HO1214) (Kd.R_base ho44) hb)
    replace HO1224 := ak (Kd.R_elder' (rk HO1224) (Kd.R_base ho44) hb)
    replace BK1196 := ak (blk_below (bk BK1196) hb)
    replace HB := ak (below_step (bl1 HB GE1196) hb)
    clear hb ho44
    refine hK.out _ _ ⟨(blk_cell BK1196.out 0).trans rfl, (blk_cell BK1196.out 1).trans rfl, ((HB.out.cell (World.block_lt_of_cell? w _ hw1221_0)).trans hw1221_0)⟩ (fun hHeld => ?_)
    clear hK K
    refine norm_ (a' := ?_) ?_ ?_
    rotate_left
    ·show Act.put _ (some 48) _ = _
     simp only [SX]
     rfl
    refine one_ (i := 3) (N := some 50) (ms 19 7679) rfl rfl (one_of HT_.out (by kernel_rfl)) (by decide) (fun K hK => ?_)
    refine Kd.R_append_rows_step (Kd.int .i64) (w0 := w) w.heap.size (by rfl) (.tmp 48) (.tmp 49) 26 3 (.int .i64 0) 8 rfl Try.underlying26 info3 rfl (by decide) (by omega) v1216 y1215 l1 _ _ _ (fun k_ => (w.heap.size ≤ k_) ∧ some k_ ≠ (.slice Ao38 y1212.length co38 : Value).ownBlock ∧ some k_ ≠ (v1223 : Value).ownBlock) (fun _ => False) rfl rfl ?aO ?aR (fun _ _ h => h) (fun _ h => h.elim) ?aF ?aB ?aS ?aL ?_
    (case aR => repeat (exact (Kd.C_below HR1.out HB.out)))
    (case aB => exact (bl1 HB GE1196))
    (case aF => exact (fun k_ hk => ⟨(Nat.le_trans (below_size (bl1 HB GE1196)) hk), Kd.fresh' (Kd.R_lt (rk HO1214)) k_ hk, Kd.fresh' (Kd.R_lt (rk HO1224)) k_ hk⟩))
    (case aO => exact (by exact Kd.R_mono HO1217.out (fun _ hk => ⟨hk.1.1.1, ⟨hk.1.2, hk.2⟩⟩)))
    (case aS => exact (below_size (bl1 HB GE1196)))
    (case aL => have := LMc28.out; omega)
    intro v1219 w45 ho hb hg hat
    rw [← Ny1218.out] at ho
    have n0_ := ak (Kd.V_afterv (ok := (fun k_ => (P3_ k_ ∨ w.heap.size ≤ k_) ∧ some k_ ≠ (.slice Ao38 y1212.length co38 : Value).ownBlock ∧ some k_ ≠ (v1223 : Value).ownBlock ∧ k_ ≠ gb1196)) (by exact Kd.V_mono HO_3.out (fun _ hk => ⟨⟨hk.1.1.1.1, ⟨hk.1.1.2, ⟨hk.1.2, hk.1.1.1.2⟩⟩⟩, hk.2⟩)) hg hat)
    have n1_ := ak (blk_grown (bk BK1196) hg (Kd.R_ne HO1217.out BK1196.out (by decide)))
    have n2_ := ak (Kd.R_after (ok := (fun k_ => (w.heap.size ≤ k_) ∧ some k_ ≠ (v1223 : Value).ownBlock)) (rk HO1214) hg hat)
    have n3_ := ak (Kd.R_after (ok := (fun k_ => (w.heap.size ≤ k_) ∧ some k_ ≠ (.slice Ao38 y1212.length co38 : Value).ownBlock)) (by exact Kd.R_mono HO1224.out (fun _ hk => ⟨⟨hk.1.1.1, hk.1.2⟩, hk.2⟩)) hg hat)
    have n4_ := ak (hb)
    have n5_ := ak (ho)
    clear HO_3
    clear BK1196
    clear HO1214
    clear HO1224
    clear HB
    clear HO1217
    have HO_3 := n0_
    have BK1196 := n1_
    have HO1214 := n2_
    have HO1224 := n3_
    have HB := n4_
    have HO1220 := n5_
    clear n0_ n1_ n2_ n3_ n4_ n5_
    clear ho hb hg hat
    refine hK.out _ _ ⟨(blk_cell BK1196.out 0).trans rfl, (blk_cell BK1196.out 1).trans rfl, ((HB.out.cell (World.block_lt_of_cell? w _ hw1221_0)).trans hw1221_0)⟩ (fun hHeld => ?_)
    clear hK K
    refine norm_ (a' := ?_) ?_ ?_
    rotate_left
    ·show Act.put _ (some 50) _ = _
     simp only [SX]
     rfl
    exact norm_ (by simp only [putAll, Act.put, List.setIfInBounds_toArray, List.set_cons_zero, List.set_cons_succ]) (hCont (v1216, v1219, v1223) _ ⟨hHeld, (by exact Kd.R_mono HO1214.out (fun _ hk => ⟨hk.1.1, ⟨hk.2, hk.1.2⟩⟩)), (rk HO1220), (by exact Kd.R_mono HO1224.out (fun _ hk => ⟨hk.1.1, ⟨hk.1.2, hk.2⟩⟩)), (by exact Kd.V_mono HO_3.out (fun _ hk => ⟨hk.1.1, ⟨hk.1.2.1, ⟨hk.2, ⟨hk.1.2.2.1, hk.1.2.2.2⟩⟩⟩⟩)), (bk BK1196), (bl1 HB GE1196)⟩)
   skip
   refine Kd.R_lit_step (Kd.int .i64) _ 3 ?hg (N := 48) ?hd (xs := ([] : List Int)) (inner := []) (ok := fun _ => True) (okp := fun _ => True) ?hr ?hp (fun _ hk => hk) trivial (Below.refl _ _) (Nat.le_refl _) (by simp) ?_; (case hd => rfl); (case hg => rfl); (case hr => (go_simp; done)); (case hp => exact (Reps.none _ _))
   intro v1216 w41 ho42 hb hg_ hnew_
   clear hg_ hnew_
   (rw [← Ny1215.out] at ho42)
   replace HO_3 := ak (Kd.V_elder' (by exact HO_3.out) (Kd.R_base ho42) hb)
   have HO1217 := ak (Kd.R_lower (Kd.R_new' (Kd.R_newM (M := fun k_ => (w.heap.size ≤ k_)) ho42 (below_size (bl1 HB GE1196)) (fun k_ h_ => h_)) (Kd.R_lt (rk HO1214))) (below_size (bl1 HB GE1196)))
   replace HO1214 := ak (Kd.R_elder' (rk HO1214) (Kd.R_base ho42) hb)
   replace BK1196 := ak (blk_below (bk BK1196) hb)
   replace HB := ak (below_step (bl1 HB GE1196) hb)
   clear hb ho42
   refine hK.out _ _ ⟨(blk_cell BK1196.out 0).trans rfl, (blk_cell BK1196.out 1).trans rfl, ((HB.out.cell (World.block_lt_of_cell? w _ hw1221_0)).trans hw1221_0)⟩ (fun hHeld => ?_)
   clear hK K
   refine norm_ (a' := ?_) ?_ ?_
   rotate_left
   ·show Act.put _ (some 48) _ = _
    simp only [SX]
    rfl
   refine two_ (i := 3) (j := 8) (Ni := some 50) (Nj := some 55) (ms 19 7423) (ms 19 7671) rfl rfl rfl rfl (two_of HT_.out (by kernel_rfl)) (by decide) (by decide) (fun K hK => ?_) (fun K hK => ?_)
   ·skip
    refine Kd.R_append_rows_step (Kd.int .i64) (w0 := w) w.heap.size (by rfl) (.tmp 48) (.tmp 49) 26 3 (.int .i64 0) 8 rfl Try.underlying26 info3 rfl (by decide) (by omega) v1216 y1215 l1 _ _ _ (fun k_ => (w.heap.size ≤ k_) ∧ some k_ ≠ (.slice Ao38 y1212.length co38 : Value).ownBlock) (fun _ => False) rfl rfl ?aO ?aR (fun _ _ h => h) (fun _ h => h.elim) ?aF ?aB ?aS ?aL ?_
    (case aR => repeat (exact (Kd.C_below HR1.out HB.out)))
    (case aB => exact (bl1 HB GE1196))
    (case aF => exact (fun k_ hk => ⟨(Nat.le_trans (below_size (bl1 HB GE1196)) hk), Kd.fresh' (Kd.R_lt (rk HO1214)) k_ hk⟩))
    (case aO => exact (by exact Kd.R_mono HO1217.out (fun _ hk => ⟨hk.1.1, hk.2⟩)))
    (case aS => exact (below_size (bl1 HB GE1196)))
    (case aL => have := LMc28.out; omega)
    intro v1219 w43 ho hb hg hat
    rw [← Ny1218.out] at ho
    have n0_ := ak (Kd.V_afterv (ok := (fun k_ => (P3_ k_ ∨ w.heap.size ≤ k_) ∧ some k_ ≠ (.slice Ao38 y1212.length co38 : Value).ownBlock ∧ k_ ≠ gb1196)) (by exact Kd.V_mono HO_3.out (fun _ hk => ⟨⟨hk.1.1.1, ⟨hk.1.2, hk.1.1.2⟩⟩, hk.2⟩)) hg hat)
    have n1_ := ak (blk_grown (bk BK1196) hg (Kd.R_ne HO1217.out BK1196.out (by decide)))
    have n2_ := ak (Kd.R_after (ok := (fun k_ => (w.heap.size ≤ k_))) (rk HO1214) hg hat)
    have n3_ := ak (hb)
    have n4_ := ak (ho)
    clear HO_3
    clear BK1196
    clear HO1214
    clear HB
    clear HO1217
    have HO_3 := n0_
    have BK1196 := n1_
    have HO1214 := n2_
    have HB := n3_
    have HO1220 := n4_
    clear n0_ n1_ n2_ n3_ n4_
    clear ho hb hg hat
    refine hK.out _ _ ⟨(blk_cell BK1196.out 0).trans rfl, (blk_cell BK1196.out 1).trans rfl, ((HB.out.cell (World.block_lt_of_cell? w _ hw1221_0)).trans hw1221_0)⟩ (fun hHeld => ?_)
    clear hK K
    refine norm_ (a' := ?_) ?_ ?_
    rotate_left
    ·show Act.put _ (some 50) _ = _
     simp only [SX]
     rfl
    refine one_ (i := 8) (N := some 55) (ms 19 7679) rfl rfl (one_of HT_.out (by kernel_rfl)) (by decide) (fun K hK => ?_)
    refine Kd.R_lit_step (Kd.int .i64) _ 3 ?hg (N := 55) ?hd (xs := ([rd l2 x13_1] : List Int)) (inner := [.int .i64 (rd l2 x13_1)]) (ok := fun _ => True) (okp := fun _ => True) ?hr ?hp (fun _ hk => hk) trivial (Below.refl _ _) (Nat.le_refl _) (by simp) ?_; (case hd => rfl); (case hg => rfl); (case hr => (go_simp; done)); (case hp => exact (Reps.one (show Kd.M (Kd.int .i64) _ _ _ (rd l2 x13_1) [.int .i64 (rd l2 x13_1)] from rfl) (Reps.none _ _)))
    intro v1223 w44 ho45 hb hg_ hnew_
    clear hg_ hnew_
    (rw [← Ny1222.out] at ho45)
    replace HO_3 := ak (Kd.V_elder' (by exact HO_3.out) (Kd.R_base ho45) hb)
    have HO1224 := ak (Kd.R_lower (Kd.R_new' (Kd.R_new' (Kd.R_newM (M := fun k_ => (w.heap.size ≤ k_)) ho45 (below_size (bl1 HB GE1196)) (fun k_ h_ => h_)) (Kd.R_lt (rk HO1214))) (Kd.R_lt (rk HO1220))) (below_size (bl1 HB GE1196)))
    replace HO1214 := ak (Kd.R_elder' (rk HO1214) (Kd.R_base ho45) hb)
    replace HO1220 := ak (Kd.R_elder' (rk HO1220) (Kd.R_base ho45) hb)
    replace BK1196 := ak (blk_below (bk BK1196) hb)
    replace HB := ak (below_step (bl1 HB GE1196) hb)
    clear hb ho45
    refine hK.out _ _ ⟨(blk_cell BK1196.out 0).trans rfl, (blk_cell BK1196.out 1).trans rfl, ((HB.out.cell (World.block_lt_of_cell? w _ hw1221_0)).trans hw1221_0)⟩ (fun hHeld => ?_)
    clear hK K
    refine norm_ (a' := ?_) ?_ ?_
    rotate_left
    ·show Act.put _ (some 55) _ = _
     simp only [SX]
     rfl
    exact norm_ (by simp only [putAll, Act.put, List.setIfInBounds_toArray, List.set_cons_zero, List.set_cons_succ]) (hCont (v1216, v1219, v1223) _ ⟨hHeld, (by exact Kd.R_mono HO1214.out (fun _ hk => ⟨hk.1.1, ⟨hk.1.2, hk.2⟩⟩)), (by exact Kd.R_mono HO1220.out (fun _ hk => ⟨hk.1.1, ⟨hk.1.2, hk.2⟩⟩)), (by exact Kd.R_mono HO1224.out (fun _ hk => ⟨hk.1.1.1, ⟨hk.1.2, hk.2⟩⟩)), (by exact Kd.V_mono HO_3.out (fun _ hk => ⟨hk.1.1.1, ⟨hk.1.1.2.1, ⟨hk.1.2, ⟨hk.2, hk.1.1.2.2⟩⟩⟩⟩)), (bk BK1196), (bl1 HB GE1196)⟩)
   skip
   refine Kd.R_lit_step (Kd.int .i64) _ 3 ?hg (N := 55) ?hd (xs := ([rd l2 x13_1] : List Int)) (inner := [.int .i64 (rd l2 x13_1)]) (ok := fun _ => True) (okp := fun _ => True) ?hr ?hp (fun _ hk => hk) trivial (Below.refl _ _) (Nat.le_refl _) (by simp) ?_; (case hd => rfl); (case hg => rfl); (case hr => (go_simp; done)); (case hp => exact (Reps.one (show Kd.M (Kd.int .i64) _ _ _ (rd l2 x13_1) [.int .i64 (rd l2 x13_1)] from rfl) (Reps.none _ _)))
   intro v1223 w43 ho44 hb hg_ hnew_
   clear hg_ hnew_
   (rw [← Ny1222.out] at ho44)
   replace HO_3 := ak (Kd.V_elder' (by exact HO_3.out) (Kd.R_base ho44) hb)
   have HO1224 := ak (Kd.R_lower (Kd.R_new' (Kd.R_new' (Kd.R_newM (M := fun k_ => (w.heap.size ≤ k_)) ho44 (below_size (bl1 HB GE1196)) (fun k_ h_ => h_)) (Kd.R_lt (rk HO1214))) (Kd.R_lt (rk HO1217))) (below_size (bl1 HB GE1196)))
   replace HO1214 := ak (Kd.R_elder' (rk HO1214) (Kd.R_base ho44) hb)
   replace HO1217 := ak (Kd.R_elder' (rk HO1217) (Kd.R_base ho44) hb)
   replace BK1196 := ak (blk_below (bk BK1196) hb)
   replace HB := ak (below_step (bl1 HB GE1196) hb)
   clear hb ho44
   refine hK.out _ _ ⟨(blk_cell BK1196.out 0).trans rfl, (blk_cell BK1196.out 1).trans rfl, ((HB.out.cell (World.block_lt_of_cell? w _ hw1221_0)).trans hw1221_0)⟩ (fun hHeld => ?_)
   clear hK K
   refine norm_ (a' := ?_) ?_ ?_
   rotate_left
   ·show Act.put _ (some 55) _ = _
    simp only [SX]
    rfl
   refine one_ (i := 3) (N := some 50) (ms 19 7679) rfl rfl (one_of HT_.out (by kernel_rfl)) (by decide) (fun K hK => ?_)
   refine Kd.R_append_rows_step (Kd.int .i64) (w0 := w) w.heap.size (by rfl) (.tmp 48) (.tmp 49) 26 3 (.int .i64 0) 8 rfl Try.underlying26 info3 rfl (by decide) (by omega) v1216 y1215 l1 _ _ _ (fun k_ => (w.heap.size ≤ k_) ∧ some k_ ≠ (.slice Ao38 y1212.length co38 : Value).ownBlock ∧ some k_ ≠ (v1223 : Value).ownBlock) (fun _ => False) rfl rfl ?aO ?aR (fun _ _ h => h) (fun _ h => h.elim) ?aF ?aB ?aS ?aL ?_
   (case aR => repeat (exact (Kd.C_below HR1.out HB.out)))
   (case aB => exact (bl1 HB GE1196))
   (case aF => exact (fun k_ hk => ⟨(Nat.le_trans (below_size (bl1 HB GE1196)) hk), Kd.fresh' (Kd.R_lt (rk HO1214)) k_ hk, Kd.fresh' (Kd.R_lt (rk HO1224)) k_ hk⟩))
   (case aO => exact (by exact Kd.R_mono HO1217.out (fun _ hk => ⟨hk.1.1.1, ⟨hk.1.2, hk.2⟩⟩)))
   (case aS => exact (below_size (bl1 HB GE1196)))
   (case aL => have := LMc28.out; omega)
   intro v1219 w45 ho hb hg hat
   rw [← Ny1218.out] at ho
   have n0_ := ak (Kd.V_afterv (ok := (fun k_ => (P3_ k_ ∨ w.heap.size ≤ k_) ∧ some k_ ≠ (.slice Ao38 y1212.length co38 : Value).ownBlock ∧ some k_ ≠ (v1223 : Value).ownBlock ∧ k_ ≠ gb1196)) (by exact Kd.V_mono HO_3.out (fun _ hk => ⟨⟨hk.1.1.1.1, ⟨hk.1.1.2, ⟨hk.2, hk.1.1.1.2⟩⟩⟩, hk.1.2⟩)) hg hat)
   have n1_ := ak (blk_grown (bk BK1196) hg (Kd.R_ne HO1217.out BK1196.out (by decide)))
   have n2_ := ak (Kd.R_after (ok := (fun k_ => (w.heap.size ≤ k_) ∧ some k_ ≠ (v1223 : Value).ownBlock)) (by exact Kd.R_mono HO1214.out (fun _ hk => ⟨⟨hk.1.1, hk.2⟩, hk.1.2⟩)) hg hat)
   have n3_ := ak (Kd.R_after (ok := (fun k_ => (w.heap.size ≤ k_) ∧ some k_ ≠ (.slice Ao38 y1212.length co38 : Value).ownBlock)) (by exact Kd.R_mono HO1224.out (fun _ hk => ⟨⟨hk.1.1.1, hk.1.2⟩, hk.2⟩)) hg hat)
   have n4_ := ak (hb)
   have n5_ := ak (ho)
   clear HO_3
   clear BK1196
   clear HO1214
   clear HO1224
   clear HB
   clear HO1217
   have HO_3 := n0_
   have BK1196 := n1_
   have HO1214 := n2_
   have HO1224 := n3_
   have HB := n4_
   have HO1220 := n5_
   clear n0_ n1_ n2_ n3_ n4_ n5_
   clear ho hb hg hat
   refine hK.out _ _ ⟨(blk_cell BK1196.out 0).trans rfl, (blk_cell BK1196.out 1).trans rfl, ((HB.out.cell (World.block_lt_of_cell? w _ hw1221_0)).trans hw1221_0)⟩ (fun hHeld => ?_)
   clear hK K
   refine norm_ (a' := ?_) ?_ ?_
   rotate_left
   ·show Act.put _ (some 50) _ = _
    simp only [SX]
    rfl
   exact norm_ (by simp only [putAll, Act.put, List.setIfInBounds_toArray, List.set_cons_zero, List.set_cons_succ]) (hCont (v1216, v1219, v1223) _ ⟨hHeld, (by exact Kd.R_mono HO1214.out (fun _ hk => ⟨hk.1.1, ⟨hk.2, hk.1.2⟩⟩)), (rk HO1220), (by exact Kd.R_mono HO1224.out (fun _ hk => ⟨hk.1.1, ⟨hk.1.2, hk.2⟩⟩)), (by exact Kd.V_mono HO_3.out (fun _ hk => ⟨hk.1.1, ⟨hk.1.2.1, ⟨hk.2, ⟨hk.1.2.2.1, hk.1.2.2.2⟩⟩⟩⟩)), (bk BK1196), (bl1 HB GE1196)⟩)
  rintro ⟨v1216, v1219, v1223⟩ w46 ⟨hS_, h0_, h1_, h2_, h3_, h4_, h5_⟩
  replace HO1214 : Aside0 (Kd.R (Kd.int .i64) 3 w46 w.heap.size (fun k_ => (w.heap.size ≤ k_) ∧ some k_ ≠ (v1219 : Value).ownBlock ∧ some k_ ≠ (v1223 : Value).ownBlock) (.slice Ao38 y1212.length co38) y1212) := ⟨h0_⟩
  have HO1220 : Aside0 (Kd.R (Kd.int .i64) 3 w46 w.heap.size (fun k_ => (w.heap.size ≤ k_) ∧ some k_ ≠ (.slice Ao38 y1212.length co38 : Value).ownBlock ∧ some k_ ≠ (v1223 : Value).ownBlock) v1219 y1218) := ⟨h1_⟩
  have HO1224 : Aside0 (Kd.R (Kd.int .i64) 3 w46 w.heap.size (fun k_ => (w.heap.size ≤ k_) ∧ some k_ ≠ (.slice Ao38 y1212.length co38 : Value).ownBlock ∧ some k_ ≠ (v1219 : Value).ownBlock) v1223 y1222) := ⟨h2_⟩
  replace HO_3 : Aside0 (Kd.V (Kd.int .i64) 3 w46 w.heap.size (fun k_ => (P3_ k_ ∨ w.heap.size ≤ k_) ∧ some k_ ≠ (.slice Ao38 y1212.length co38 : Value).ownBlock ∧ some k_ ≠ (v1219 : Value).ownBlock ∧ some k_ ≠ (v1223 : Value).ownBlock ∧ k_ ≠ gb1196) (.slice Ao39 x3_1.length co39) x3_1) := ⟨h3_⟩
  replace BK1196 : Aside0 (w46.heap[gb1196]? = some (.cells #[.int .i64 a0_0, .slice A0_1 l0_1.length c0_1] 25 (0, 0))) := ⟨h4_⟩
  replace HB : Aside0 (Below w.heap.size w w46) := ⟨h5_⟩
  clear h0_ h1_ h2_ h3_ h4_ h5_
  have hHeld : w46.cell? ⟨gb1196, 0, none⟩ = some (.int .i64 a0_0) ∧ w46.cell? ⟨gb1196, 1, none⟩ = some (.slice A0_1 l0_1.length c0_1) ∧ w46.cell? (ad1221.add (x13_1).toNat) = some (.int .i64 (rd l2 x13_1)) := hS_
  obtain ⟨Ao48, co48, eo48⟩ := Kd.R_slice HO1224.out
  (subst eo48)
  refine norm_ (a' := ?_) ?_ ?_
  rotate_left
  ·simp only [putAll, Act.put, List.setIfInBounds_toArray, List.set_cons_zero, List.set_cons_succ]
   rfl
  refine one_ (i := 9) (N := some 56) (ms 19 8191) rfl rfl (one_of HT_.out (by kernel_rfl)) (by decide) (fun K hK => ?_)
  refine Kd.R_append_rows_step (Kd.int .i64) (w0 := w) w.heap.size (by rfl) (.tmp 50) (.tmp 55) 26 3 (.int .i64 0) 8 rfl Try.underlying26 info3 rfl (by decide) (by omega) v1219 y1218 y1222 _ _ _ (fun k_ => (w.heap.size ≤ k_) ∧ some k_ ≠ (.slice Ao38 y1212.length co38 : Value).ownBlock ∧ some k_ ≠ (.slice Ao48 y1222.length co48 : Value).ownBlock) (fun _ => False) rfl rfl ?aO ?aR (fun _ _ h => h) (fun _ h => h.elim) ?aF ?aB ?aS ?aL ?_
  (case aR => repeat (exact (Kd.R_reads' HO1224.out).2.2))
  (case aB => exact (bl1 HB GE1196))
  (case aF => exact (fun k_ hk => ⟨(Nat.le_trans (below_size (bl1 HB GE1196)) hk), Kd.fresh' (Kd.R_lt (rk HO1214)) k_ hk, Kd.fresh' (Kd.R_lt (rk HO1224)) k_ hk⟩))
  (case aO => exact (rk HO1220))
  (case aS => exact (below_size (bl1 HB GE1196)))
  (case aL => have := LMc29.out; omega)
  intro v1226 w47 ho hb hg hat
  rw [← Ny1225.out] at ho
  have n0_ := ak (Kd.V_afterv (ok := (fun k_ => (P3_ k_ ∨ w.heap.size ≤ k_) ∧ some k_ ≠ (.slice Ao38 y1212.length co38 : Value).ownBlock ∧ some k_ ≠ (.slice Ao48 y1222.length co48 : Value).ownBlock ∧ k_ ≠ gb1196)) (by exact Kd.V_mono HO_3.out (fun _ hk => ⟨⟨hk.1, ⟨hk.2.1, ⟨hk.2.2.2.1, hk.2.2.2.2⟩⟩⟩, hk.2.2.1⟩)) hg hat)
  have n1_ := ak (blk_grown (bk BK1196) hg (Kd.R_ne HO1220.out BK1196.out (by decide)))
  have n2_ := ak (Kd.R_after (ok := (fun k_ => (w.heap.size ≤ k_) ∧ some k_ ≠ (.slice Ao48 y1222.length co48 : Value).ownBlock)) (by exact Kd.R_mono HO1214.out (fun _ hk => ⟨⟨hk.1, hk.2.2⟩, hk.2.1⟩)) hg hat)
  have n3_ := ak (Kd.R_after (ok := (fun k_ => (w.heap.size ≤ k_) ∧ some k_ ≠ (.slice Ao38 y1212.length co38 : Value).ownBlock)) (by exact Kd.R_mono HO1224.out (fun _ hk => ⟨⟨hk.1, hk.2.1⟩, hk.2.2⟩)) hg hat)
  have n4_ := ak (hb)
  have n5_ := ak (ho)
  clear HO_3
  clear BK1196
  clear HO1214
  clear HO1224
  clear HB
  clear HO1220
  have HO_3 := n0_
  have BK1196 := n1_
  have HO1214 := n2_
  have HO1224 := n3_
  have HB := n4_
  have HO1227 := n5_
  clear n0_ n1_ n2_ n3_ n4_ n5_
  clear ho hb hg hat
  obtain ⟨Ao49, co49, eo49⟩ := Kd.R_slice HO1227.out
  (subst eo49)
  refine hK.out _ _ ⟨(blk_cell BK1196.out 0).trans rfl, (blk_cell BK1196.out 1).trans rfl, ((HB.out.cell (World.block_lt_of_cell? w _ hw1221_0)).trans hw1221_0)⟩ (fun hHeld => ?_)
  clear hK K
  refine norm_ (a' := ?_) ?_ ?_
  rotate_left
  ·show Act.put _ (some 56) _ = _
   simp only [SX]
   rfl
  refine one_ (i := 13) (N := some 60) (ms 19 16383) rfl rfl (one_of HT_.out (by kernel_rfl)) (by decide) (fun K hK => ?_)
  refine goes_ Try.func95 (by kernel_rfl) rfl #[.agg #[.int .i64 a0_0, .slice A0_1 l0_1.length c0_1], .slice Ao49 y1225.length co49, .slice Ao38 y1212.length co38, .slice Ao39 x3_1.length co39, .int .i64 x4_1] (by rfl) rfl rfl (by (try simp only [List.map_toArray, List.map_cons, List.map_nil]); rfl) ?_
  with_reducible refine (ih k1 (by have := HK1.out; omega) a0_0 _ _ l0_1 _ _ y1225 _ _ y1212 (fun k_ => (((P3_ k_ ∨ w.heap.size ≤ k_) ∧ (some k_ ≠ (.slice Ao38 y1212.length co38 : Value).ownBlock ∧ (some k_ ≠ (.slice Ao48 y1222.length co48 : Value).ownBlock ∧ k_ ≠ gb1196))) ∧ some k_ ≠ (.slice Ao49 y1225.length co49 : Value).ownBlock)) _ _ x3_1 x4_1 t1228 t1231 _ ?side1 ?side2 ?side3 ?side4 ?side5 ?side6 ?side7 A30.out).mono ?_
  (case side1 => repeat (exact (Kd.C_below HR0_1.out HB.out)))
  (case side2 => exact HC0_1.out)
  (case side3 => repeat (exact (Kd.R_reads' HO1227.out).2.2))
  (case side4 => exact (Kd.R_reads' HO1227.out).2.1)
  (case side5 => repeat (exact (Kd.R_reads' HO1214.out).2.2))
  (case side6 => exact (Kd.R_reads' HO1214.out).2.1)
  (case side7 => exact HO_3.out)
  rintro e w50 ⟨v1229, rfl, ho0, hb⟩
  refine ⟨_, rfl, ?_⟩
  replace HO_3 := ak (Kd.V_below (by exact HO_3.out) hb)
  have HO1230 := ak (Kd.V_lower (Kd.V_mono (ok' := fun k_ => (P3_ k_ ∨ w.heap.size ≤ k_) ∧ some k_ ≠ (.slice Ao38 y1212.length co38 : Value).ownBlock ∧ some k_ ≠ (.slice Ao48 y1222.length co48 : Value).ownBlock ∧ some k_ ≠ (.slice Ao49 y1225.length co49 : Value).ownBlock ∧ k_ ≠ gb1196) ho0 (fun k_ hk_ => ⟨Or.elim hk_ (fun hs_ => hs_.1.1) (fun hn_ => (.inr (Nat.le_trans (below_size (bl1 HB GE1196)) hn_))), Or.elim hk_ (fun hs_ => hs_.1.2.1) (fun hn_ => (Kd.fresh' (Kd.R_lt (rk HO1214)) k_ hn_)), Or.elim hk_ (fun hs_ => hs_.1.2.2.1) (fun hn_ => (Kd.fresh' (Kd.R_lt (rk HO1224)) k_ hn_)), Or.elim hk_ (fun hs_ => hs_.2) (fun hn_ => (Kd.fresh' (Kd.R_lt (rk HO1227)) k_ hn_)), Or.elim hk_ (fun hs_ => hs_.1.2.2.2) (fun hn_ => (Kd.freshB (bk BK1196) k_ hn_))⟩)) (below_size (bl1 HB GE1196)))
  replace HO1214 := ak (Kd.R_below (rk HO1214) hb)
  replace HO1224 := ak (Kd.R_below (rk HO1224) hb)
  replace HO1227 := ak (Kd.R_below (rk HO1227) hb)
  replace BK1196 := ak (blk_below (bk BK1196) hb)
  replace HB := ak (below_step (bl1 HB GE1196) hb)
  (try clear hb)
  (try clear hb2)
  (try clear hk)
  (try clear hi)
  (try clear ho0)
  refine hK.out _ _ ⟨(blk_cell BK1196.out 0).trans rfl, (blk_cell BK1196.out 1).trans rfl, ((HB.out.cell (World.block_lt_of_cell? w _ hw1221_0)).trans hw1221_0)⟩ (fun hHeld => ?_)
  clear hK K
  refine norm_ (a' := ?_) ?_ ?_
  rotate_left
  ·show Act.put _ (some 60) _ = _
   simp only [SX]
   rfl
  refine pu 14 46 ?_ (ms 19 32767) rfl rfl HT_ (by kernel_rfl) (fun _ _ _ h => h) (by rfl) ?_ ?_ ?_ ?_
  rotate_left
  ·intro w'
   go_simp
   with_reducible rfl
  rotate_left
  ·simp only [SX]
   rfl
  refine pu 15 61 ?_ (ms 19 65535) rfl rfl HT_ (by kernel_rfl) (fun _ _ _ h => h) (by rfl) ?_ ?_ ?_ ?_
  rotate_left
  ·intro w'
   go_simp
   with_reducible rfl
  rotate_left
  ·simp only [SX]
   rfl
  refine pu 16 62 ?_ (ms 19 131071) rfl rfl HT_ (by kernel_rfl) (fun _ _ _ h => h) (by rfl) ?_ ?_ ?_ ?_
  rotate_left
  ·intro w'
   go_simp
   with_reducible rfl
  rotate_left
  ·simp only [SX]
   rfl
  refine pu 17 3 ?_ (ms 19 262143) rfl rfl HT_ (by kernel_rfl) (fun _ _ _ h => h) (by rfl) ?_ ?_ ?_ ?_
  rotate_left
  ·intro w'
   go_simp
   with_reducible rfl
  rotate_left
  ·simp only [SX]
   rfl
  refine pu 18 4 ?_ (ms 19 524287) rfl rfl HT_ (by kernel_rfl) (fun _ _ _ h => h) (by rfl) ?_ ?_ ?_ ?_
  rotate_left
  ·intro w'
   go_simp
   with_reducible rfl
  rotate_left
  ·simp only [SX]
   rfl
  refine done_ (done_of HT_.out (by kernel_rfl)) ?_
  try go_wp2
  go_roundg k1
  case measure => have := HK1.out; omega
  case rel => exact ⟨(t1228), (t1231), (ji24), (by rfl), (by rfl), H', ⟨by have := HK1.out; omega⟩, ⟨by exact Kd.V_mono HO1230.out (fun _ hk => ⟨hk.1, hk.2.2.2.2⟩)⟩, ⟨bk BK1196⟩, ⟨bl1 HB GE1196⟩⟩

end Go.Proofs.Ytgickejeakmenaa.F
