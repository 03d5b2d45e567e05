-- Printed by wip/px/px.py of this claim's repository (the kit's printer, extended there). Lean checks it.
import Derived.Test.YtddkaiegnohkcaaFKinds
import Derived.Test.YtddkaiegnohkcaaFimplnodesIn
import Derived.Test.YtddkaiegnohkcaaFimplNetpairs
namespace Go.Proofs.Ytddkaiegnohkcaa.F
open Go.RowKit Go.Proofs.YtddkaiegnohkcaaW.PrintWords Go.Proofs.YtddkaiegnohkcaaW.PrintLast Go.Proofs.YtddkaiegnohkcaaW.PrintMore
attribute [local go_sem] max2_int min2_int max_two min_two max_three min_three max_four min_four   -- for this text's walks alone
set_option linter.unusedVariables false
set_option linter.unusedSimpArgs false

/-! ### impl_PairWith: function 20 -/
def impl_PairWith.l0 : Nat → Int → List (S35) → Int → Int → Option (Int)
 | 0, _, _, _, _ => none
 | k + 1, x3, x20, x21, x22 => if x22 < x21 then (if 0 ≤ x22 then (if x22 < (x20.length : Int) then (if ((rd_T35 x20 x22).f1) ≤ x3 then (some ((rd_T35 x20 x22).f0)) else (impl_PairWith.l0 k x3 x20 x21 (wrap64 (x22 + 1)))) else (none)) else (none)) else (some 99999)
def impl_PairWith.f (k : Nat) (a0_0 : Int) (l0_1 : List (S33)) (a1 : Int) (a2 : Int) (a3 : Int) : Option (Int) := (impl_nodesIn.f a0_0 l0_1 (([a1, a2] : List Int))).bind fun t396 => (if t396 = true then ((impl_Net_pairs.f k a0_0 l0_1 a1 a2).bind fun t397 => (impl_PairWith.l0 k a3 t397 (t397.length : Int) 0)) else (some (-1)))
theorem impl_PairWith.mono_l : ∀ k, (∀ y0 y1 y2 y3, LeO (impl_PairWith.l0 k y0 y1 y2 y3) (impl_PairWith.l0 (k + 1) y0 y1 y2 y3))
 | 0 => fun _ _ _ _ r h => by simp [impl_PairWith.l0] at h
 | k + 1 => by
  have ih0 := impl_PairWith.mono_l k
  ·intro y0 y1 y2 y3
   unfold impl_PairWith.l0
   repeat' first | (with_reducible exact ih0 _ _ _ _) | (with_reducible exact LeO.refl _) | (with_reducible refine LeO.ite ?_ ?_)
theorem impl_PairWith.mono : ∀ a0 a1 a2 a3 a4 k, LeO (impl_PairWith.f k a0 a1 a2 a3 a4) (impl_PairWith.f (k + 1) a0 a1 a2 a3 a4) := by
 intro a0 a1 a2 a3 a4 k
 have ih0 := impl_PairWith.mono_l k
 unfold impl_PairWith.f
 repeat' first | (with_reducible exact ih0 _ _ _ _) | (with_reducible exact impl_Net_pairs.mono _ _ _ _ _) | (with_reducible exact LeO.refl _) | (with_reducible refine LeO.ite ?_ ?_) | (with_reducible refine LeO.bind ?_ (fun _ => ?_))
set_option maxHeartbeats 8000000 in
set_option maxRecDepth 100000 in
theorem impl_PairWith.calls (k : Nat) (a0_0 : Int) (A0_1 : Option Addr) (c0_1 : Nat) (l0_1 : List (S33)) (a1 : Int) (a2 : Int) (a3 : Int) (r : Int) (w : World) (hr0_1 : Kd.C k33 w A0_1 l0_1.length l0_1) (hc0_1 : l0_1.length ≤ c0_1) (h : impl_PairWith.f k a0_0 l0_1 a1 a2 a3 = some r) :
  Calls Try.prog 20 #[.agg #[.int .i64 a0_0, .slice A0_1 l0_1.length c0_1], .int .i64 a1, .int .i64 a2, .int .i64 a3] w fun e w' => e = .returned (.int .i64 r) ∧ Below w.heap.size w w' := by
 have hu25 := Try.underlying25
 have hu35 := Try.underlying35
 have HR0_1 := ak hr0_1
 have HC0_1 := ak hc0_1
 clear hr0_1 hc0_1
 have HB := ak (Below.refl w.heap.size w)
 have H : ((impl_nodesIn.f a0_0 l0_1 (([a1, a2] : List Int))).bind fun t396 => (if t396 = true then ((impl_Net_pairs.f k a0_0 l0_1 a1 a2).bind fun t397 => (impl_PairWith.l0 k a3 t397 (t397.length : Int) 0)) else (some (-1)))) = some r := h
 clear h
 obtain ⟨y393, hy393⟩ : ∃ y_ : List Int, y_ = (([a1, a2] : List Int)) := ⟨_, rfl⟩
 replace H : ((impl_nodesIn.f a0_0 l0_1 y393).bind fun t396 => (if t396 = true then ((impl_Net_pairs.f k a0_0 l0_1 a1 a2).bind fun t397 => (impl_PairWith.l0 k a3 t397 (t397.length : Int) 0)) else (some (-1)))) = some r := by (rw [hy393]; with_reducible exact H)
 have Ny393 := ak hy393
 clear hy393
 replace H := Option.bind_eq_some_iff.mp H
 obtain ⟨t396, A50, H⟩ := H
 have A5 := ak A50
 clear A50
 by_cases c6 : t396 = true
 rotate_left
 ·replace c6 := Bool.eq_false_iff.mpr c6
  subst c6
  rw [if_neg (show ¬ (false = true) by decide)] at H
  obtain rfl := Option.some.inj H
  go_enter Try.func20, Try.ntmps20
  go_wp2_with (first | ((with_reducible refine gate_dst (N := 4) rfl ?_); refine box_event ?hg (N := 4) ?hd (cs := #[.int .i64 a0_0, .slice A0_1 l0_1.length c0_1]) (t := 25) ?hr ?_; (case hd => rfl); (case hg => rfl); (case hr => (go_simp; done)); intro gb392 hg w27 hbox hb; have BK392 := ak (hbox); have GW392 := ak ((by rw [hg]; exact (below_size (bl HB)) : w.heap.size ≤ gb392)); have GE392 := ak ((by rw [hg]; exact (below_size (bl HB)) : w.heap.size ≤ gb392)); replace HB := ak (below_step (bl HB) hb); clear hb hbox hg; have hcz28_0 := bc w27 BK392 0 (.int .i64 a0_0) rfl; have hcz28_1 := bc w27 BK392 1 (.slice A0_1 l0_1.length c0_1) rfl; have hfz28_0 := fz BK392 0; have hfz28_1 := fz BK392 1) | ((with_reducible refine gate_dst (N := 14) rfl ?_); refine Kd.R_lit (Kd.int .i64) _ 3 ?hg (N := 14) ?hd (xs := ([a1, a2] : List Int)) (inner := [.int .i64 a1, .int .i64 a2]) (ok := fun _ => True) (okp := fun _ => True) ?hr ?hp (fun _ hk => hk) trivial (Below.refl _ _) (Nat.le_refl _) (by simp) ?_; (case hd => rfl); (case hg => rfl); (case hr => (go_simp; done)); (case hp => exact (Reps.one (show Kd.M (Kd.int .i64) _ _ _ a1 [.int .i64 a1] from rfl) (Reps.one (show Kd.M (Kd.int .i64) _ _ _ a2 [.int .i64 a2] from rfl) (Reps.none _ _)))); intro v394 w29 ho30 hb hg_ hnew_; clear hg_ hnew_; (rw [← Ny393.out] at ho30); have HO395 := ak (Kd.R_lower ho30 (below_size (bl1 HB GE392))); replace BK392 := ak (blk_below (bk BK392) hb); replace HB := ak (below_step (bl1 HB GE392) hb); clear hb ho30; obtain ⟨Ao31, co31, eo31⟩ := Kd.R_slice HO395.out; subst eo31) | ((with_reducible refine gate_callee (f := 44) rfl ?_); refine goesL_ (some 15) rfl rfl Try.func44 (by kernel_rfl) rfl #[.agg #[.int .i64 a0_0, .slice A0_1 l0_1.length c0_1], .slice Ao31 y393.length co31] rfl (by (try simp only [List.map_toArray, List.map_cons, List.map_nil]); rfl) ?_; (with_reducible refine (impl_nodesIn.calls a0_0 _ _ l0_1 _ _ y393 false _ ?side1 ?side2 ?side3 ?side4 A5.out).mono ?_); (case side1 => repeat (exact (Kd.C_below HR0_1.out HB.out))); (case side2 => exact HC0_1.out); (case side3 => repeat (exact (Kd.R_reads' HO395.out).2.2)); (case side4 => exact (Kd.R_reads' HO395.out).2.1); rintro e w32 ⟨rfl, hb⟩; refine ⟨_, rfl, ?_⟩; replace HO395 := ak (Kd.R_below (rk HO395) hb); replace BK392 := ak (blk_below (bk BK392) hb); replace HB := ak (below_step (bl1 HB GE392) hb); (try clear hb); (try clear hb2); (try clear hk); (try clear hi)))
  go_ret
  exact ⟨by rfl, bl1 HB GE392⟩
 subst c6
 rw [if_pos rfl] at H
 replace H := Option.bind_eq_some_iff.mp H
 obtain ⟨t397, A70, H⟩ := H
 have A7 := ak A70
 clear A70
 have H' := ak H
 clear H
 go_enter Try.func20, Try.ntmps20
 go_wp2_with (first | ((with_reducible refine gate_dst (N := 4) rfl ?_); refine box_event ?hg (N := 4) ?hd (cs := #[.int .i64 a0_0, .slice A0_1 l0_1.length c0_1]) (t := 25) ?hr ?_; (case hd => rfl); (case hg => rfl); (case hr => (go_simp; done)); intro gb392 hg w8 hbox hb; have BK392 := ak (hbox); have GW392 := ak ((by rw [hg]; exact (below_size (bl HB)) : w.heap.size ≤ gb392)); have GE392 := ak ((by rw [hg]; exact (below_size (bl HB)) : w.heap.size ≤ gb392)); replace HB := ak (below_step (bl HB) hb); clear hb hbox hg; have hcz9_0 := bc w8 BK392 0 (.int .i64 a0_0) rfl; have hcz9_1 := bc w8 BK392 1 (.slice A0_1 l0_1.length c0_1) rfl; have hfz9_0 := fz BK392 0; have hfz9_1 := fz BK392 1) | ((with_reducible refine gate_dst (N := 14) rfl ?_); refine Kd.R_lit (Kd.int .i64) _ 3 ?hg (N := 14) ?hd (xs := ([a1, a2] : List Int)) (inner := [.int .i64 a1, .int .i64 a2]) (ok := fun _ => True) (okp := fun _ => True) ?hr ?hp (fun _ hk => hk) trivial (Below.refl _ _) (Nat.le_refl _) (by simp) ?_; (case hd => rfl); (case hg => rfl); (case hr => (go_simp; done)); (case hp => exact (Reps.one (show Kd.M (Kd.int .i64) _ _ _ a1 [.int .i64 a1] from rfl) (Reps.one (show Kd.M (Kd.int .i64) _ _ _ a2 [.int .i64 a2] from rfl) (Reps.none _ _)))); intro v394 w10 ho11 hb hg_ hnew_; clear hg_ hnew_; (rw [← Ny393.out] at ho11); have HO395 := ak (Kd.R_lower ho11 (below_size (bl1 HB GE392))); replace BK392 := ak (blk_below (bk BK392) hb); replace HB := ak (below_step (bl1 HB GE392) hb); clear hb ho11; obtain ⟨Ao12, co12, eo12⟩ := Kd.R_slice HO395.out; subst eo12) | ((with_reducible refine gate_callee (f := 44) rfl ?_); refine goesL_ (some 15) rfl rfl Try.func44 (by kernel_rfl) rfl #[.agg #[.int .i64 a0_0, .slice A0_1 l0_1.length c0_1], .slice Ao12 y393.length co12] rfl (by (try simp only [List.map_toArray, List.map_cons, List.map_nil]); rfl) ?_; (with_reducible refine (impl_nodesIn.calls a0_0 _ _ l0_1 _ _ y393 true _ ?side1 ?side2 ?side3 ?side4 A5.out).mono ?_); (case side1 => repeat (exact (Kd.C_below HR0_1.out HB.out))); (case side2 => exact HC0_1.out); (case side3 => repeat (exact (Kd.R_reads' HO395.out).2.2)); (case side4 => exact (Kd.R_reads' HO395.out).2.1); rintro e w13 ⟨rfl, hb⟩; refine ⟨_, rfl, ?_⟩; replace HO395 := ak (Kd.R_below (rk HO395) hb); replace BK392 := ak (blk_below (bk BK392) hb); replace HB := ak (below_step (bl1 HB GE392) hb); (try clear hb); (try clear hb2); (try clear hk); (try clear hi); have hcz14_0 := bc w13 BK392 0 (.int .i64 a0_0) rfl; have hcz14_1 := bc w13 BK392 1 (.slice A0_1 l0_1.length c0_1) rfl; have hfz14_0 := fz BK392 0; have hfz14_1 := fz BK392 1) | ((with_reducible refine gate_callee (f := 45) rfl ?_); refine goesL_ (some 20) rfl rfl Try.func45 (by kernel_rfl) rfl #[.agg #[.int .i64 a0_0, .slice A0_1 l0_1.length c0_1], .int .i64 a1, .int .i64 a2] rfl (by (try simp only [List.map_toArray, List.map_cons, List.map_nil]); rfl) ?_; (with_reducible refine (impl_Net_pairs.calls k a0_0 _ _ l0_1 a1 a2 t397 _ ?side1 ?side2 A7.out).mono ?_); (case side1 => repeat (exact (Kd.C_below HR0_1.out HB.out))); (case side2 => exact HC0_1.out); rintro e w15 ⟨v398, rfl, ho0, hb⟩; refine ⟨_, rfl, ?_⟩; replace HO395 := ak (Kd.R_below (rk HO395) hb); have HO399 := ak (Kd.R_lower ho0 (below_size (bl1 HB GE392))); replace BK392 := ak (blk_below (bk BK392) hb); replace HB := ak (below_step (bl1 HB GE392) hb); (try clear hb); (try clear hb2); (try clear hk); (try clear hi); (try clear ho0); obtain ⟨Ao16, co16, eo16⟩ := Kd.R_slice HO399.out; subst eo16))
 go_loopg [22] k (fun kq v22 w' => ∃ (x22_1 : Int), v22 = .int .i64 x22_1 ∧ Aside0 (impl_PairWith.l0 kq a3 t397 (t397.length : Int) x22_1 = some r) ∧ Aside0 (kq ≤ k) ∧ Aside0 (Kd.R k35 35 w' w.heap.size (fun _ => True) (.slice Ao16 t397.length co16) t397) ∧ Aside0 (w'.heap[gb392]? = some (.cells #[.int .i64 a0_0, (.slice A0_1 l0_1.length c0_1)] 25 (0, 0))) ∧ Aside0 (Below w.heap.size w w'))
 case atStart => exact ⟨(0), (by rfl), H', ⟨Nat.le_refl _⟩, ⟨rk HO399⟩, ⟨bk BK392⟩, ⟨bl1 HB GE392⟩⟩
 clear H'
 try clear c2
 try clear p2
 try clear c4
 try clear c6
 try clear hcz14_0
 try clear hcz14_1
 try clear hcz9_0
 try clear hcz9_1
 try clear hfz14_0
 try clear hfz14_1
 try clear hfz9_0
 try clear hfz9_1
 obtain ⟨x22_1, rfl, HA, HK1, HO_20, BK392, HB⟩ := hrel
 cases gk with
 | zero => exact absurd HA.out (by simp [impl_PairWith.l0])
 | succ k1 =>
  have H := HA.out
  clear HA
  simp only [impl_PairWith.l0] at H
  by_cases c17 : x22_1 < (t397.length : Int)
  rotate_left
  ·rw [if_neg c17] at H
   have c17b0 : decide (x22_1 < (t397.length : Int)) = false := decide_eq_false c17
   clear c17
   obtain rfl := Option.some.inj H
   go_wp2
   go_ret
   exact ⟨by rfl, bl1 HB GE392⟩
  rw [if_pos c17] at H
  have c17b0 : decide (x22_1 < (t397.length : Int)) = true := decide_eq_true c17
  clear c17
  by_cases c18 : 0 ≤ x22_1
  rotate_left
  ·rw [if_neg c18] at H
   exact absurd H (by simp)
  rw [if_pos c18] at H
  have c18b0 : decide (0 ≤ x22_1) = true := decide_eq_true c18
  clear c18
  by_cases c19 : x22_1 < (t397.length : Int)
  rotate_left
  ·rw [if_neg c19] at H
   exact absurd H (by simp)
  rw [if_pos c19] at H
  have c19b0 : decide (x22_1 < (t397.length : Int)) = true := decide_eq_true c19
  clear c19
  by_cases c20 : ((rd_T35 t397 x22_1).f1) ≤ a3
  ·rw [if_pos c20] at H
   have c20b0 : decide (((rd_T35 t397 x22_1).f1) ≤ a3) = true := decide_eq_true c20
   clear c20
   obtain rfl := Option.some.inj H
   have p400 : 0 ≤ (x22_1 : Int) := oT (by (with_reducible assumption))
   have q400 : x22_1 < (t397.length : Int) := oT (by (with_reducible assumption))
   obtain ⟨ad400, e400, hx400_0, hx400_1⟩ := at_T35 (Kd.R_reads' HO_20.out).2.2 x22_1 p400 q400
   cases e400
   replace p400 := eq_true p400
   replace q400 := eq_true q400
   go_wp2_with (((with_reducible refine gate_dst (N := 10) rfl ?_); refine box_event ?hg (N := 10) ?hd (cs := #[.int .i64 0, .int .i64 0]) (t := 35) ?hr ?_; (case hd => rfl); (case hg => rfl); (case hr => (go_simp; done)); intro gb401 hg w21 hbox hb; replace HO_20 := ak (Kd.R_below (Kd.R_elderB (rk HO_20) gb401 (Nat.le_of_eq hg.symm)) hb); have BK401 := ak (hbox); have GW401 := ak ((by rw [hg]; exact (below_size (bl1 HB GE392)) : w.heap.size ≤ gb401)); have GE401 := ak ((by rw [hg]; exact (below_size (bl1 HB GE392)) : w.heap.size ≤ gb401)); replace HB := ak (below_step (bl1 HB GE392) hb); have NB392_401 := ak ((by rw [hg]; exact Nat.ne_of_lt (blk_lt (bk BK392)) : gb392 ≠ gb401)); have NB401_392 := ak ((by rw [hg]; exact Nat.ne_of_gt (blk_lt (bk BK392)) : gb401 ≠ gb392)); replace BK392 := ak (blk_below (bk BK392) hb); clear hb hbox hg; have hnb22 := NB401_392.out; have hnc22 := NB392_401.out; have hcz23_0 := bc w21 BK401 0 (.int .i64 0) rfl; have hcz23_1 := bc w21 BK401 1 (.int .i64 0) rfl; have hfz23_0 := fz BK401 0; have hfz23_1 := fz BK401 1))
   go_ret
   exact ⟨by rfl, bl2 HB GE392 GE401⟩
  rw [if_neg c20] at H
  have c20b0 : decide (((rd_T35 t397 x22_1).f1) ≤ a3) = false := decide_eq_false c20
  clear c20
  have H' := ak H
  clear H
  have p400 : 0 ≤ (x22_1 : Int) := oT (by (with_reducible assumption))
  have q400 : x22_1 < (t397.length : Int) := oT (by (with_reducible assumption))
  obtain ⟨ad400, e400, hx400_0, hx400_1⟩ := at_T35 (Kd.R_reads' HO_20.out).2.2 x22_1 p400 q400
  cases e400
  replace p400 := eq_true p400
  replace q400 := eq_true q400
  go_wp2_with (((with_reducible refine gate_dst (N := 10) rfl ?_); refine box_event ?hg (N := 10) ?hd (cs := #[.int .i64 0, .int .i64 0]) (t := 35) ?hr ?_; (case hd => rfl); (case hg => rfl); (case hr => (go_simp; done)); intro gb401 hg w24 hbox hb; replace HO_20 := ak (Kd.R_below (Kd.R_elderB (rk HO_20) gb401 (Nat.le_of_eq hg.symm)) hb); have BK401 := ak (hbox); have GW401 := ak ((by rw [hg]; exact (below_size (bl1 HB GE392)) : w.heap.size ≤ gb401)); have GE401 := ak ((by rw [hg]; exact (below_size (bl1 HB GE392)) : w.heap.size ≤ gb401)); replace HB := ak (below_step (bl1 HB GE392) hb); have NB392_401 := ak ((by rw [hg]; exact Nat.ne_of_lt (blk_lt (bk BK392)) : gb392 ≠ gb401)); have NB401_392 := ak ((by rw [hg]; exact Nat.ne_of_gt (blk_lt (bk BK392)) : gb401 ≠ gb392)); replace BK392 := ak (blk_below (bk BK392) hb); clear hb hbox hg; have hnb25 := NB401_392.out; have hnc25 := NB392_401.out; have hcz26_0 := bc w24 BK401 0 (.int .i64 0) rfl; have hcz26_1 := bc w24 BK401 1 (.int .i64 0) rfl; have hfz26_0 := fz BK401 0; have hfz26_1 := fz BK401 1))
  go_roundg k1
  case measure => have := HK1.out; omega
  case rel => exact ⟨(wrap64 (x22_1 + 1)), (by rfl), H', ⟨by have := HK1.out; omega⟩, ⟨by exact Kd.R_mono (Kd.R_far (p := ⟨gb401, 1, none⟩) (Kd.R_far (p := ⟨gb401, 0, none⟩) (Kd.R_mono HO_20.out (fun k_ hk => (⟨hk, hk.2⟩ : _ ∧ k_ ≠ gb401))) (fun _ hk => hk.2) (.int .i64 ((rd_T35 t397 x22_1).f0))) (fun _ hk => hk.2) (.int .i64 ((rd_T35 t397 x22_1).f1))) (fun _ hk => trivial)⟩, ⟨by refine blk_far ?_ NB392_401.out _; refine blk_far ?_ NB392_401.out _; exact BK392.out⟩, ⟨bl2 HB GE392 GE401⟩⟩

end Go.Proofs.Ytddkaiegnohkcaa.F
