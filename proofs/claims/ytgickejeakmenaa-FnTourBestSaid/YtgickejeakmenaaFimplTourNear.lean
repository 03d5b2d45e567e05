-- Printed by wip/px/px.py of this claim's repository (the kit's printer, extended there). Lean checks it.
import Derived.Test.YtgickejeakmenaaFKinds
import Derived.Test.YtgickejeakmenaaFslicesIn
import Derived.Test.YtgickejeakmenaaFimplstopsOk
import Derived.Test.YtgickejeakmenaaFimplNear
import Derived.Test.YtgickejeakmenaaFslicesClipintint
import Derived.Test.YtgickejeakmenaaFslicesCloneintint
namespace Go.Proofs.Ytgickejeakmenaa.F
open Go.RowKit Go.Proofs.YtgickejeakmenaaW.PrintWords Go.Proofs.YtgickejeakmenaaW.PrintLast Go.Proofs.YtgickejeakmenaaW.PrintMore
attribute [local go_sem] max2_int min2_int max_two min_two max_three min_three max_four min_four   -- for this text's walks alone
set_option linter.unusedVariables false
set_option linter.unusedSimpArgs false

/-! ### impl_TourNear: function 32 -/
mutual
def impl_TourNear.l0 : Nat → List Int → List (List Int) → List Int → Option (List Int)
 | 0, _, _, _ => none
 | k + 1, x1, x5, x6 => if (x6.length : Int) < (x1.length : Int) then (impl_TourNear.l1 k x1 x5 x6 (-1) 99999 x1 (x1.length : Int) 0) else ((slices_Clip_int_int.f x6).bind fun t893 => (some t893))
def impl_TourNear.l1 : Nat → List Int → List (List Int) → List Int → Int → Int → List Int → Int → Int → Option (List Int)
 | 0, _, _, _, _, _, _, _, _ => none
 | k + 1, x1, x5, x6, x7, x8, x26, x27, x28 => if x28 < x27 then (if 0 ≤ x28 then (if x28 < (x26.length : Int) then (if 0 ≤ (wrap64 ((x6.length : Int) - 1)) then (if (wrap64 ((x6.length : Int) - 1)) < (x6.length : Int) then (if 0 ≤ (rd x6 (wrap64 ((x6.length : Int) - 1))) then (if (rd x6 (wrap64 ((x6.length : Int) - 1))) < (x5.length : Int) then (if 0 ≤ (rd x26 x28) then (if (rd x26 x28) < ((rd_L3 x5 (rd x6 (wrap64 ((x6.length : Int) - 1)))).length : Int) then ((slices_Contains_int_int.f k x6 (rd x26 x28)).bind fun t900 => (if t900 = true then (impl_TourNear.l1 k x1 x5 x6 x7 x8 x26 x27 (wrap64 (x28 + 1))) else (if (rd (rd_L3 x5 (rd x6 (wrap64 ((x6.length : Int) - 1)))) (rd x26 x28)) < x8 then (impl_TourNear.l1 k x1 x5 x6 (rd x26 x28) (rd (rd_L3 x5 (rd x6 (wrap64 ((x6.length : Int) - 1)))) (rd x26 x28)) x26 x27 (wrap64 (x28 + 1))) else (impl_TourNear.l1 k x1 x5 x6 x7 x8 x26 x27 (wrap64 (x28 + 1)))))) else (none)) else (none)) else (none)) else (none)) else (none)) else (none)) else (none)) else (none)) else (if x7 < 0 then (some ([] : List Int)) else (if x6.length < 17592186044416 then (impl_TourNear.l0 k x1 x5 (x6 ++ [x7])) else (none)))
end
def impl_TourNear.f (k : Nat) (a0_0 : Int) (l0_1 : List (S41)) (l1 : List Int) : Option (List Int) := (impl_stopsOk.f k a0_0 l0_1 l1).bind fun t885 => (if t885 = true then ((impl_Net_table.f k a0_0 l0_1).bind fun t886 => (if 1 ≤ (l1.length : Int) then ((slices_Clone_int_int.f (l1.take 1)).bind fun t890 => (impl_TourNear.l0 k l1 t886 t890)) else (none))) else (some ([] : List Int)))
theorem impl_TourNear.mono_l : ∀ k, (∀ y0 y1 y2, LeO (impl_TourNear.l0 k y0 y1 y2) (impl_TourNear.l0 (k + 1) y0 y1 y2)) ∧ (∀ y0 y1 y2 y3 y4 y5 y6 y7, LeO (impl_TourNear.l1 k y0 y1 y2 y3 y4 y5 y6 y7) (impl_TourNear.l1 (k + 1) y0 y1 y2 y3 y4 y5 y6 y7))
 | 0 => ⟨fun _ _ _ r h => by simp [impl_TourNear.l0] at h, fun _ _ _ _ _ _ _ _ r h => by simp [impl_TourNear.l1] at h⟩
 | k + 1 => by
  obtain ⟨ih0, ih1⟩ := impl_TourNear.mono_l k
  refine ⟨?_, ?_⟩
  ·intro y0 y1 y2
   unfold impl_TourNear.l0
   repeat' first | (with_reducible exact ih1 _ _ _ _ _ _ _ _) | (with_reducible exact LeO.refl _) | (with_reducible refine LeO.ite ?_ ?_)
  ·intro y0 y1 y2 y3 y4 y5 y6 y7
   unfold impl_TourNear.l1
   repeat' first | (with_reducible exact ih0 _ _ _) | (with_reducible exact ih1 _ _ _ _ _ _ _ _) | (with_reducible exact slices_Contains_int_int.mono _ _ _) | (with_reducible exact LeO.refl _) | (with_reducible refine LeO.ite ?_ ?_) | (with_reducible refine LeO.bind ?_ (fun _ => ?_))
theorem impl_TourNear.mono : ∀ a0 a1 a2 k, LeO (impl_TourNear.f k a0 a1 a2) (impl_TourNear.f (k + 1) a0 a1 a2) := by
 intro a0 a1 a2 k
 obtain ⟨ih0, ih1⟩ := impl_TourNear.mono_l k
 unfold impl_TourNear.f
 repeat' first | (with_reducible exact ih0 _ _ _) | (with_reducible exact impl_Net_table.mono _ _ _) | (with_reducible exact impl_stopsOk.mono _ _ _ _) | (with_reducible exact LeO.refl _) | (with_reducible refine LeO.ite ?_ ?_) | (with_reducible refine LeO.bind ?_ (fun _ => ?_))
set_option maxHeartbeats 8000000 in
set_option maxRecDepth 100000 in
theorem impl_TourNear.calls (k : Nat) (a0_0 : Int) (A0_1 : Option Addr) (c0_1 : Nat) (l0_1 : List (S41)) (A1 : Option Addr) (c1 : Nat) (l1 : List Int) (r : List Int) (w : World) (hr0_1 : Kd.C k41 w A0_1 l0_1.length l0_1) (hc0_1 : l0_1.length ≤ c0_1) (hr1 : Kd.C (Kd.int .i64) w A1 l1.length l1) (hc1 : l1.length ≤ c1) (h : impl_TourNear.f k a0_0 l0_1 l1 = some r) :
  Calls Try.prog 32 #[.agg #[.int .i64 a0_0, .slice A0_1 l0_1.length c0_1], .slice A1 l1.length c1] w fun e w' => ∃ v0_ : Value, e = .returned (v0_) ∧ Kd.R (Kd.int .i64) 3 w' w.heap.size (fun _ => True) v0_ r ∧ Below w.heap.size w w' := by
 have hu25 := Try.underlying25
 have HR0_1 := ak hr0_1
 have HC0_1 := ak hc0_1
 clear hr0_1 hc0_1
 have HR1 := ak hr1
 have HC1 := ak hc1
 clear hr1 hc1
 have HB := ak (Below.refl w.heap.size w)
 have H : ((impl_stopsOk.f k a0_0 l0_1 l1).bind fun t885 => (if t885 = true then ((impl_Net_table.f k a0_0 l0_1).bind fun t886 => (if 1 ≤ (l1.length : Int) then ((slices_Clone_int_int.f (l1.take 1)).bind fun t890 => (impl_TourNear.l0 k l1 t886 t890)) else (none))) else (some ([] : List Int)))) = some r := h
 clear h
 replace H := Option.bind_eq_some_iff.mp H
 obtain ⟨t885, A30, H⟩ := H
 have A3 := ak A30
 clear A30
 by_cases c4 : t885 = true
 rotate_left
 ·replace c4 := Bool.eq_false_iff.mpr c4
  subst c4
  rw [if_neg (show ¬ (false = true) by decide)] at H
  obtain rfl := Option.some.inj H
  go_enter Try.func32, Try.ntmps32
  go_wp2_with (first | ((with_reducible refine gate_dst (N := 2) rfl ?_); refine box_event ?hg (N := 2) ?hd (cs := #[.int .i64 a0_0, .slice A0_1 l0_1.length c0_1]) (t := 25) ?hr ?_; (case hd => rfl); (case hg => rfl); (case hr => (go_simp; done)); intro gb884 hg w39 hbox hb; have BK884 := ak (hbox); have GW884 := ak ((by rw [hg]; exact (below_size (bl HB)) : w.heap.size ≤ gb884)); have GE884 := ak ((by rw [hg]; exact (below_size (bl HB)) : w.heap.size ≤ gb884)); replace HB := ak (below_step (bl HB) hb); clear hb hbox hg; have hcz40_0 := bc w39 BK884 0 (.int .i64 a0_0) rfl; have hcz40_1 := bc w39 BK884 1 (.slice A0_1 l0_1.length c0_1) rfl; have hfz40_0 := fz BK884 0; have hfz40_1 := fz BK884 1) | ((with_reducible refine gate_callee (f := 52) rfl ?_); refine goesL_ (some 14) rfl rfl Try.func52 (by kernel_rfl) rfl #[.agg #[.int .i64 a0_0, .slice A0_1 l0_1.length c0_1], .slice A1 l1.length c1] rfl (by (try simp only [List.map_toArray, List.map_cons, List.map_nil]); rfl) ?_; (with_reducible refine (impl_stopsOk.calls k a0_0 _ _ l0_1 _ _ l1 false _ ?side1 ?side2 ?side3 ?side4 A3.out).mono ?_); (case side1 => repeat (exact (Kd.C_below HR0_1.out HB.out))); (case side2 => exact HC0_1.out); (case side3 => repeat (exact (Kd.C_below HR1.out HB.out))); (case side4 => exact HC1.out); rintro e w41 ⟨rfl, hb⟩; refine ⟨_, rfl, ?_⟩; replace BK884 := ak (blk_below (bk BK884) hb); replace HB := ak (below_step (bl1 HB GE884) hb); (try clear hb); (try clear hb2); (try clear hk); (try clear hi)))
  go_ret
  exact ⟨_, by rfl, by exact Kd.R_nil _ _ _ _ _, bl1 HB GE884⟩
 subst c4
 rw [if_pos rfl] at H
 replace H := Option.bind_eq_some_iff.mp H
 obtain ⟨t886, A50, H⟩ := H
 have A5 := ak A50
 clear A50
 by_cases c6 : 1 ≤ (l1.length : Int)
 rotate_left
 ·rw [if_neg c6] at H
  exact absurd H (by simp)
 rw [if_pos c6] at H
 have c6b0 := eq_true c6
 have c6b1 : decide (1 ≤ (l1.length : Int)) = true := decide_eq_true c6
 clear c6
 replace H := Option.bind_eq_some_iff.mp H
 obtain ⟨t890, A70, H⟩ := H
 have A7 := ak A70
 clear A70
 have H' := ak H
 clear H
 go_enter Try.func32, Try.ntmps32
 go_wp2_with (first | ((with_reducible refine gate_dst (N := 2) rfl ?_); refine box_event ?hg (N := 2) ?hd (cs := #[.int .i64 a0_0, .slice A0_1 l0_1.length c0_1]) (t := 25) ?hr ?_; (case hd => rfl); (case hg => rfl); (case hr => (go_simp; done)); intro gb884 hg w8 hbox hb; have BK884 := ak (hbox); have GW884 := ak ((by rw [hg]; exact (below_size (bl HB)) : w.heap.size ≤ gb884)); have GE884 := ak ((by rw [hg]; exact (below_size (bl HB)) : w.heap.size ≤ gb884)); replace HB := ak (below_step (bl HB) hb); clear hb hbox hg; have hcz9_0 := bc w8 BK884 0 (.int .i64 a0_0) rfl; have hcz9_1 := bc w8 BK884 1 (.slice A0_1 l0_1.length c0_1) rfl; have hfz9_0 := fz BK884 0; have hfz9_1 := fz BK884 1) | ((with_reducible refine gate_callee (f := 52) rfl ?_); refine goesL_ (some 14) rfl rfl Try.func52 (by kernel_rfl) rfl #[.agg #[.int .i64 a0_0, .slice A0_1 l0_1.length c0_1], .slice A1 l1.length c1] rfl (by (try simp only [List.map_toArray, List.map_cons, List.map_nil]); rfl) ?_; (with_reducible refine (impl_stopsOk.calls k a0_0 _ _ l0_1 _ _ l1 true _ ?side1 ?side2 ?side3 ?side4 A3.out).mono ?_); (case side1 => repeat (exact (Kd.C_below HR0_1.out HB.out))); (case side2 => exact HC0_1.out); (case side3 => repeat (exact (Kd.C_below HR1.out HB.out))); (case side4 => exact HC1.out); rintro e w10 ⟨rfl, hb⟩; refine ⟨_, rfl, ?_⟩; replace BK884 := ak (blk_below (bk BK884) hb); replace HB := ak (below_step (bl1 HB GE884) hb); (try clear hb); (try clear hb2); (try clear hk); (try clear hi); have hcz11_0 := bc w10 BK884 0 (.int .i64 a0_0) rfl; have hcz11_1 := bc w10 BK884 1 (.slice A0_1 l0_1.length c0_1) rfl; have hfz11_0 := fz BK884 0; have hfz11_1 := fz BK884 1) | ((with_reducible refine gate_callee (f := 54) rfl ?_); refine goesL_ (some 17) rfl rfl Try.func54 (by kernel_rfl) rfl #[.agg #[.int .i64 a0_0, .slice A0_1 l0_1.length c0_1]] rfl (by (try simp only [List.map_toArray, List.map_cons, List.map_nil]); rfl) ?_; (with_reducible refine (impl_Net_table.calls k a0_0 _ _ l0_1 t886 _ ?side1 ?side2 A5.out).mono ?_); (case side1 => repeat (exact (Kd.C_below HR0_1.out HB.out))); (case side2 => exact HC0_1.out); rintro e w12 ⟨v887, rfl, ho0, hb⟩; refine ⟨_, rfl, ?_⟩; have HO888 := ak (Kd.S_lower ho0 (below_size (bl1 HB GE884))); replace BK884 := ak (blk_below (bk BK884) hb); replace HB := ak (below_step (bl1 HB GE884) hb); (try clear hb); (try clear hb2); (try clear hk); (try clear hi); (try clear ho0); obtain ⟨i013, hi013, _, hsz13, _⟩ := info_parts info3; obtain ⟨hcut13, hA13, hC13⟩ := print_take_of (P := Try.prog) (Value.int .i64) 0 26 3 .i64 Try.underlying26 hi013 hsz13 A1 c1 l1 1 (by omega) (oT (by (with_reducible assumption))) HC1.out; have HR889 := ak (Kd.C_of_reads (h1 := fun _ => rfl) (hA13 _ (Kd.reads_of_C HR1.out))); have HC889 := ak hC13; clear hA13 hC13 hi013 hsz13) | ((with_reducible refine gate_callee (f := 78) rfl ?_); refine goesL_ (some 20) rfl rfl Try.func78 (by kernel_rfl) rfl #[.slice A1 (l1.take 1).length c1] rfl (by (try simp only [List.map_toArray, List.map_cons, List.map_nil]); (simp only [List.length_drop, List.length_take]; rfl)) ?_; (with_reducible refine (slices_Clone_int_int.calls _ _ (l1.take 1) t890 _ ?side1 ?side2 A7.out).mono ?_); (case side1 => repeat (exact (Kd.C_below HR889.out HB.out))); (case side2 => exact HC889.out); rintro e w14 ⟨v891, rfl, ho0, hb⟩; refine ⟨_, rfl, ?_⟩; replace HO888 := ak (Kd.S_elder' (by exact HO888.out) (Kd.R_base ho0) hb); have HO892 := ak (Kd.R_lower ho0 (below_size (bl1 HB GE884))); replace BK884 := ak (blk_below (bk BK884) hb); replace HB := ak (below_step (bl1 HB GE884) hb); (try clear hb); (try clear hb2); (try clear hk); (try clear hi); (try clear ho0)))
 go_loopg [6] k (fun kq v6 w' => ∃ (x6_1 : List Int), Aside0 (impl_TourNear.l0 kq l1 t886 x6_1 = some r) ∧ Aside0 (kq ≤ k) ∧ Aside0 (Kd.S (Kd.slice 3 (Kd.int .i64)) 26 w' w.heap.size (fun k_ => some k_ ≠ (v6 : Value).ownBlock) v887 t886) ∧ Aside0 (Kd.R (Kd.int .i64) 3 w' w.heap.size (fun _ => True) v6 x6_1) ∧ Aside0 (w'.heap[gb884]? = some (.cells #[.int .i64 a0_0, (.slice A0_1 l0_1.length c0_1)] 25 (0, 0))) ∧ Aside0 (Below w.heap.size w w'))
 case atStart => exact ⟨(t890), H', ⟨Nat.le_refl _⟩, ⟨by exact Kd.S_mono HO888.out (fun _ hk => hk.2)⟩, ⟨rk HO892⟩, ⟨bk BK884⟩, ⟨bl1 HB GE884⟩⟩
 clear H'
 try clear c1
 try clear p2
 try clear c3
 try clear c4
 try clear c5
 try clear c6
 try clear c6b0
 try clear c6b1
 try clear c7
 try clear hcz11_0
 try clear hcz11_1
 try clear hcz9_0
 try clear hcz9_1
 try clear hfz11_0
 try clear hfz11_1
 try clear hfz9_0
 try clear hfz9_1
 obtain ⟨x6_1, HA, HK1, HO_5, HO_6, BK884, HB⟩ := hrel
 cases gk with
 | zero => exact absurd HA.out (by simp [impl_TourNear.l0])
 | succ k1 =>
  have H := HA.out
  clear HA
  simp only [impl_TourNear.l0] at H
  by_cases c15 : (x6_1.length : Int) < (l1.length : Int)
  rotate_left
  ·rw [if_neg c15] at H
   have c15b0 : decide ((x6_1.length : Int) < (l1.length : Int)) = false := decide_eq_false c15
   have c15b1 : decide (x6_1.length < l1.length) = false := decide_eq_false (fun h => c15 (Int.ofNat_lt.mpr h))
   clear c15
   replace H := Option.bind_eq_some_iff.mp H
   obtain ⟨t893, A360, H⟩ := H
   have A36 := ak A360
   clear A360
   obtain rfl := Option.some.inj H
   obtain ⟨Ao37, co37, eo37⟩ := Kd.R_slice HO_6.out
   subst eo37
   go_wp2_with (((with_reducible refine gate_callee (f := 80) rfl ?_); refine goesL_ (some 63) rfl rfl Try.func80 (by kernel_rfl) rfl #[.slice Ao37 x6_1.length co37] rfl (by (try simp only [List.map_toArray, List.map_cons, List.map_nil]); rfl) ?_; (with_reducible refine (slices_Clip_int_int.calls (fun k_ => some k_ = (.slice Ao37 x6_1.length co37 : Value).ownBlock) (.slice Ao37 x6_1.length co37) x6_1 t893 w _ ?side1 ?side2 A36.out).mono ?_); (case side1 => repeat ((with_reducible exact HB.out))); (case side2 => exact Kd.R_tight rfl HO_6.out); rintro e w38 ⟨v894, rfl, ho0, hb, hkp⟩; refine ⟨_, rfl, ?_⟩; have n0_ := ak (Kd.S_mono (ok' := fun k_ => some k_ ≠ (v894 : Value).ownBlock) (Kd.S_keptB (HO_5.out) hkp (fun k_ hk_ hs_ => (hk_) hs_)) (fun k_ hk_ => fun e_ => Or.elim (ho0.1 k_ e_.symm) (fun hs_ => hk_.2.1 hs_) (fun hn_ => Nat.not_le.2 hk_.2.2 hn_))); have n1_ := ak (blk_kept (bk BK884) hkp (fun hs_ => (fun e_ => (Kd.R_ne HO_6.out BK884.out (by decide)) e_) hs_)); have n2_ := ak (Kd.R_mono (ok' := fun k_ => True) ho0 (fun k_ hk_ => trivial)); have n3_ := ak (hb); clear HO_5; clear BK884; clear HB; clear HO_6; have HO_5 := n0_; have BK884 := n1_; have HO895 := n2_; have HB := n3_; clear n0_ n1_ n2_ n3_; (try clear hb); (try clear hkp); (try clear ho0)))
   go_ret
   exact ⟨_, by rfl, rk HO895, bl1 HB GE884⟩
  rw [if_pos c15] at H
  have c15b0 : decide ((x6_1.length : Int) < (l1.length : Int)) = true := decide_eq_true c15
  have c15b1 : decide (x6_1.length < l1.length) = true := decide_eq_true (Int.ofNat_lt.mp c15)
  clear c15
  have H' := ak H
  clear H
  obtain ⟨Ao16, co16, eo16⟩ := Kd.R_slice HO_6.out
  subst eo16
  go_wp2
  go_loopg [7, 8, 28] k1 (fun kq v7 v8 v28 w' => ∃ (x7_2 : Int) (x8_2 : Int) (x28_2 : Int), v7 = .int .i64 x7_2 ∧ v8 = .int .i64 x8_2 ∧ v28 = .int .i64 x28_2 ∧ Aside0 (impl_TourNear.l1 kq l1 t886 x6_1 x7_2 x8_2 l1 (l1.length : Int) x28_2 = some r) ∧ Aside0 (kq ≤ k1) ∧ Aside0 (Kd.S (Kd.slice 3 (Kd.int .i64)) 26 w' w.heap.size (fun k_ => some k_ ≠ ((.slice Ao16 x6_1.length co16) : Value).ownBlock) v887 t886) ∧ Aside0 (Kd.R (Kd.int .i64) 3 w' w.heap.size (fun _ => True) (.slice Ao16 x6_1.length co16) x6_1) ∧ Aside0 (w'.heap[gb884]? = some (.cells #[.int .i64 a0_0, (.slice A0_1 l0_1.length c0_1)] 25 (0, 0))) ∧ Aside0 (Below w.heap.size w w'))
  case atStart => exact ⟨((-1)), (99999), (0), (by rfl), (by rfl), (by rfl), H', ⟨Nat.le_refl _⟩, ⟨by exact HO_5.out⟩, ⟨rk HO_6⟩, ⟨bk BK884⟩, ⟨bl1 HB GE884⟩⟩
  clear H'
  try clear c1
  try clear p2
  try clear c3
  try clear c4
  try clear c5
  try clear c6
  try clear c6b0
  try clear c6b1
  try clear c7
  try clear c15
  try clear c15b0
  try clear c15b1
  try clear hcz11_0
  try clear hcz11_1
  try clear hcz9_0
  try clear hcz9_1
  try clear hfz11_0
  try clear hfz11_1
  try clear hfz9_0
  try clear hfz9_1
  try clear p2
  obtain ⟨x7_2, x8_2, x28_2, rfl, rfl, rfl, HA, HK2, HO_5, HO_6, BK884, HB⟩ := hrel
  cases gk with
  | zero => exact absurd HA.out (by simp [impl_TourNear.l1])
  | succ k2 =>
   have H := HA.out
   clear HA
   simp only [impl_TourNear.l1] at H
   by_cases c17 : x28_2 < (l1.length : Int)
   rotate_left
   ·rw [if_neg c17] at H
    have c17b0 : decide (x28_2 < (l1.length : Int)) = false := decide_eq_false c17
    clear c17
    by_cases c33 : x7_2 < 0
    ·rw [if_pos c33] at H
     have c33b0 : decide (x7_2 < 0) = true := decide_eq_true c33
     clear c33
     obtain rfl := Option.some.inj H
     go_wp2
     go_ret
     exact ⟨_, by rfl, by exact Kd.R_nil _ _ _ _ _, bl1 HB GE884⟩
    rw [if_neg c33] at H
    have c33b0 : decide (x7_2 < 0) = false := decide_eq_false c33
    clear c33
    by_cases c34 : x6_1.length < 17592186044416
    rotate_left
    ·rw [if_neg c34] at H
     exact absurd H (by simp)
    rw [if_pos c34] at H
    have LMc34 := ak c34
    clear c34
    obtain ⟨y901, hy901⟩ : ∃ y_ : List Int, y_ = (x6_1 ++ [x7_2]) := ⟨_, rfl⟩
    replace H : (impl_TourNear.l0 k2 l1 t886 y901) = some r := by (rw [hy901]; with_reducible exact H)
    have Ny901 := ak hy901
    clear hy901
    have H' := ak H
    clear H
    go_wp2_with (((with_reducible refine gate_builtin (b := .append) (xs := #[.tmp 58, .tmp 60]) rfl ?_); at_builtin; refine Kd.R_append (Kd.int .i64) (w0 := w) w.heap.size rfl (.tmp 58) (.tmp 60) 26 3 (.int .i64 0) 8 rfl Try.underlying26 info3 rfl (by decide) (by omega) (.slice Ao16 x6_1.length co16) x6_1 x7_2 [.int .i64 x7_2] (fun _ => True) (fun _ => False) rfl rfl ?aP (fun _ hk => hk.elim) ?aF ?aO ?aB ?aS ?aL ?_; (case aP => exact rfl); (case aB => exact (bl1 HB GE884)); (case aF => exact (fun _ _ => trivial)); (case aO => exact (rk HO_6)); (case aS => exact (below_size (bl1 HB GE884))); (case aL => have := LMc34.out; omega); intro v902 w35 ho hb hg hat; rw [← Ny901.out] at ho; have n0_ := ak (Kd.S_after (ok := (fun _ => True)) (by exact Kd.S_mono HO_5.out (fun _ hk => ⟨trivial, hk⟩)) hg hat); have n1_ := ak (blk_grown (bk BK884) hg (Kd.R_ne HO_6.out BK884.out (by decide))); have n2_ := ak (hb); have n3_ := ak (ho); clear HO_5; clear BK884; clear HB; clear HO_6; have HO_5 := n0_; have BK884 := n1_; have HB := n2_; have HO903 := n3_; clear n0_ n1_ n2_ n3_; clear ho hb hg hat))
    go_roundg k2
    case measure => have := HK1.out; have := HK2.out; omega
    case rel => exact ⟨(y901), H', ⟨by have := HK1.out; have := HK2.out; omega⟩, ⟨by exact Kd.S_mono HO_5.out (fun _ hk => hk.2)⟩, ⟨rk HO903⟩, ⟨bk BK884⟩, ⟨bl1 HB GE884⟩⟩
   rw [if_pos c17] at H
   have c17b0 : decide (x28_2 < (l1.length : Int)) = true := decide_eq_true c17
   clear c17
   by_cases c18 : 0 ≤ x28_2
   rotate_left
   ·rw [if_neg c18] at H
    exact absurd H (by simp)
   rw [if_pos c18] at H
   have c18b0 : decide (0 ≤ x28_2) = true := decide_eq_true c18
   clear c18
   by_cases c19 : x28_2 < (l1.length : Int)
   rotate_left
   ·rw [if_neg c19] at H
    exact absurd H (by simp)
   rw [if_pos c19] at H
   have c19b0 : decide (x28_2 < (l1.length : Int)) = true := decide_eq_true c19
   clear c19
   obtain ⟨ji20, hji20⟩ : ∃ j_ : Int, (wrap64 ((x6_1.length : Int) - 1)) = j_ := ⟨_, rfl⟩
   replace H : (if 0 ≤ (ji20) then (if (ji20) < (x6_1.length : Int) then (if 0 ≤ (rd x6_1 (ji20)) then (if (rd x6_1 (ji20)) < (t886.length : Int) then (if 0 ≤ (rd l1 x28_2) then (if (rd l1 x28_2) < ((rd_L3 t886 (rd x6_1 (ji20))).length : Int) then ((slices_Contains_int_int.f k2 x6_1 (rd l1 x28_2)).bind fun t900 => (if t900 = true then (impl_TourNear.l1 k2 l1 t886 x6_1 x7_2 x8_2 l1 (l1.length : Int) (wrap64 (x28_2 + 1))) else (if (rd (rd_L3 t886 (rd x6_1 (ji20))) (rd l1 x28_2)) < x8_2 then (impl_TourNear.l1 k2 l1 t886 x6_1 (rd l1 x28_2) (rd (rd_L3 t886 (rd x6_1 (ji20))) (rd l1 x28_2)) l1 (l1.length : Int) (wrap64 (x28_2 + 1))) else (impl_TourNear.l1 k2 l1 t886 x6_1 x7_2 x8_2 l1 (l1.length : Int) (wrap64 (x28_2 + 1)))))) else (none)) else (none)) else (none)) else (none)) else (none)) else (none)) = some r := by (rw [hji20] at H; exact H)
   have hji20w : (IntKind.i64.wrap ((x6_1.length : Int) - 1)) = ji20 := (i64_w _).trans hji20
   by_cases c21 : 0 ≤ (ji20)
   rotate_left
   ·rw [if_neg c21] at H
    exact absurd H (by simp)
   rw [if_pos c21] at H
   have c21b0 : decide (0 ≤ (ji20)) = true := decide_eq_true c21
   clear c21
   by_cases c22 : (ji20) < (x6_1.length : Int)
   rotate_left
   ·rw [if_neg c22] at H
    exact absurd H (by simp)
   rw [if_pos c22] at H
   have c22b0 : decide ((ji20) < (x6_1.length : Int)) = true := decide_eq_true c22
   clear c22
   by_cases c23 : 0 ≤ (rd x6_1 (ji20))
   rotate_left
   ·rw [if_neg c23] at H
    exact absurd H (by simp)
   rw [if_pos c23] at H
   have c23b0 : decide (0 ≤ (rd x6_1 (ji20))) = true := decide_eq_true c23
   clear c23
   by_cases c24 : (rd x6_1 (ji20)) < (t886.length : Int)
   rotate_left
   ·rw [if_neg c24] at H
    exact absurd H (by simp)
   rw [if_pos c24] at H
   have c24b0 : decide ((rd x6_1 (ji20)) < (t886.length : Int)) = true := decide_eq_true c24
   clear c24
   by_cases c25 : 0 ≤ (rd l1 x28_2)
   rotate_left
   ·rw [if_neg c25] at H
    exact absurd H (by simp)
   rw [if_pos c25] at H
   have c25b0 : decide (0 ≤ (rd l1 x28_2)) = true := decide_eq_true c25
   clear c25
   by_cases c26 : (rd l1 x28_2) < ((rd_L3 t886 (rd x6_1 (ji20))).length : Int)
   rotate_left
   ·rw [if_neg c26] at H
    exact absurd H (by simp)
   rw [if_pos c26] at H
   have c26b0 : decide ((rd l1 x28_2) < ((rd_L3 t886 (rd x6_1 (ji20))).length : Int)) = true := decide_eq_true c26
   clear c26
   replace H := Option.bind_eq_some_iff.mp H
   obtain ⟨t900, A270, H⟩ := H
   have A27 := ak A270
   clear A270
   by_cases c28 : t900 = true
   ·subst c28
    rw [if_pos rfl] at H
    have H' := ak H
    clear H
    have p896 : 0 ≤ (x28_2 : Int) := oT (by (with_reducible assumption))
    have q896 : x28_2 < (l1.length : Int) := oT (by (with_reducible assumption))
    obtain ⟨ad896, e896, hx896_0⟩ := Kd.at_int HR1.out x28_2 p896 q896
    cases e896
    replace hx896_0 := hcb HB.out hx896_0
    replace p896 := eq_true p896
    replace q896 := eq_true q896
    have p897 : 0 ≤ ((ji20) : Int) := oT (by (with_reducible assumption))
    have q897 : (ji20) < (x6_1.length : Int) := oT (by (with_reducible assumption))
    obtain ⟨ad897, e897, hx897_0⟩ := Kd.at_int (Kd.R_reads' HO_6.out).2.2 (ji20) p897 q897
    cases e897
    replace p897 := eq_true p897
    replace q897 := eq_true q897
    obtain ⟨Ao29, co29, eo29⟩ := Kd.S_slice HO_5.out
    subst eo29
    have p898 : 0 ≤ ((rd x6_1 (ji20)) : Int) := oT (by (with_reducible assumption))
    have q898 : (rd x6_1 (ji20)) < (t886.length : Int) := oT (by (with_reducible assumption))
    obtain ⟨ad898, A898_0, c898_0, e898, hx898_0, hl898_0, hi898_0⟩ := at_L3 (Kd.S_reads' HO_5.out).2.2 (rd x6_1 (ji20)) p898 q898
    cases e898
    obtain ⟨ce898, hce898, hMe898, hcc898⟩ := Kd.S_get HO_5.out [] (rd x6_1 (ji20)) p898 (by exact q898)
    obtain ⟨ve898_0, rfl, ge898_0⟩ := hMe898
    have hv898_0 := hcc898 0 _ rfl
    rw [Nat.add_zero, show ((Kd.slice 3 (Kd.int .i64))).sz = 1 from rfl, Nat.mul_one] at hv898_0
    replace hv898_0 := Option.some.inj (hv898_0.symm.trans hx898_0)
    rw [hv898_0] at ge898_0
    have HL898_0 := ak (show Kd.R (Kd.int .i64) 3 _ _ _ _ (rd_L3 t886 (rd x6_1 (ji20))) from ge898_0)
    clear hv898_0 ge898_0
    clear hcc898 hce898
    have HR898_0 := ak hi898_0
    have HC898_0 := ak hl898_0
    clear hi898_0 hl898_0
    replace p898 := eq_true p898
    replace q898 := eq_true q898
    have p899 : 0 ≤ ((rd l1 x28_2) : Int) := oT (by (with_reducible assumption))
    have q899 : (rd l1 x28_2) < ((rd_L3 t886 (rd x6_1 (ji20))).length : Int) := oT (by (with_reducible assumption))
    obtain ⟨ad899, e899, hx899_0⟩ := Kd.at_int (by repeat ((with_reducible exact HR898_0.out))) (rd l1 x28_2) p899 q899
    cases e899
    replace p899 := eq_true p899
    replace q899 := eq_true q899
    go_wp2_with (((with_reducible refine gate_callee (f := 79) rfl ?_); refine goesL_ (some 46) rfl rfl Try.func79 (by kernel_rfl) rfl #[.slice (some ad897) x6_1.length co16, .int .i64 (rd l1 x28_2)] rfl (by (try simp only [List.map_toArray, List.map_cons, List.map_nil]); rfl) ?_; (with_reducible refine (slices_Contains_int_int.calls k2 _ _ x6_1 (rd l1 x28_2) true _ ?side1 ?side2 A27.out).mono ?_); (case side1 => repeat (exact (Kd.R_reads' HO_6.out).2.2)); (case side2 => exact (Kd.R_reads' HO_6.out).2.1); rintro e w' ⟨rfl, ⟨nd, rfl⟩⟩; refine ⟨_, rfl, ?_⟩))
    go_roundg k2
    case measure => have := HK1.out; have := HK2.out; omega
    case rel => exact ⟨(x7_2), (x8_2), (wrap64 (x28_2 + 1)), (by rfl), (by rfl), (by rfl), H', ⟨by have := HK1.out; have := HK2.out; omega⟩, ⟨by (with_reducible repeat (apply Kd.S_drewN)); exact HO_5.out⟩, ⟨rk HO_6⟩, ⟨bk BK884⟩, ⟨bl1 HB GE884⟩⟩
   replace c28 := Bool.eq_false_iff.mpr c28
   subst c28
   rw [if_neg (show ¬ (false = true) by decide)] at H
   by_cases c30 : (rd (rd_L3 t886 (rd x6_1 (ji20))) (rd l1 x28_2)) < x8_2
   rotate_left
   ·rw [if_neg c30] at H
    have c30b0 : decide ((rd (rd_L3 t886 (rd x6_1 (ji20))) (rd l1 x28_2)) < x8_2) = false := decide_eq_false c30
    clear c30
    have H' := ak H
    clear H
    have p896 : 0 ≤ (x28_2 : Int) := oT (by (with_reducible assumption))
    have q896 : x28_2 < (l1.length : Int) := oT (by (with_reducible assumption))
    obtain ⟨ad896, e896, hx896_0⟩ := Kd.at_int HR1.out x28_2 p896 q896
    cases e896
    replace hx896_0 := hcb HB.out hx896_0
    replace p896 := eq_true p896
    replace q896 := eq_true q896
    have p897 : 0 ≤ ((ji20) : Int) := oT (by (with_reducible assumption))
    have q897 : (ji20) < (x6_1.length : Int) := oT (by (with_reducible assumption))
    obtain ⟨ad897, e897, hx897_0⟩ := Kd.at_int (Kd.R_reads' HO_6.out).2.2 (ji20) p897 q897
    cases e897
    replace p897 := eq_true p897
    replace q897 := eq_true q897
    obtain ⟨Ao32, co32, eo32⟩ := Kd.S_slice HO_5.out
    subst eo32
    have p898 : 0 ≤ ((rd x6_1 (ji20)) : Int) := oT (by (with_reducible assumption))
    have q898 : (rd x6_1 (ji20)) < (t886.length : Int) := oT (by (with_reducible assumption))
    obtain ⟨ad898, A898_0, c898_0, e898, hx898_0, hl898_0, hi898_0⟩ := at_L3 (Kd.S_reads' HO_5.out).2.2 (rd x6_1 (ji20)) p898 q898
    cases e898
    obtain ⟨ce898, hce898, hMe898, hcc898⟩ := Kd.S_get HO_5.out [] (rd x6_1 (ji20)) p898 (by exact q898)
    obtain ⟨ve898_0, rfl, ge898_0⟩ := hMe898
    have hv898_0 := hcc898 0 _ rfl
    rw [Nat.add_zero, show ((Kd.slice 3 (Kd.int .i64))).sz = 1 from rfl, Nat.mul_one] at hv898_0
    replace hv898_0 := Option.some.inj (hv898_0.symm.trans hx898_0)
    rw [hv898_0] at ge898_0
    have HL898_0 := ak (show Kd.R (Kd.int .i64) 3 _ _ _ _ (rd_L3 t886 (rd x6_1 (ji20))) from ge898_0)
    clear hv898_0 ge898_0
    clear hcc898 hce898
    have HR898_0 := ak hi898_0
    have HC898_0 := ak hl898_0
    clear hi898_0 hl898_0
    replace p898 := eq_true p898
    replace q898 := eq_true q898
    have p899 : 0 ≤ ((rd l1 x28_2) : Int) := oT (by (with_reducible assumption))
    have q899 : (rd l1 x28_2) < ((rd_L3 t886 (rd x6_1 (ji20))).length : Int) := oT (by (with_reducible assumption))
    obtain ⟨ad899, e899, hx899_0⟩ := Kd.at_int (by repeat ((with_reducible exact HR898_0.out))) (rd l1 x28_2) p899 q899
    cases e899
    replace p899 := eq_true p899
    replace q899 := eq_true q899
    go_wp2_with (((with_reducible refine gate_callee (f := 79) rfl ?_); refine goesL_ (some 46) rfl rfl Try.func79 (by kernel_rfl) rfl #[.slice (some ad897) x6_1.length co16, .int .i64 (rd l1 x28_2)] rfl (by (try simp only [List.map_toArray, List.map_cons, List.map_nil]); rfl) ?_; (with_reducible refine (slices_Contains_int_int.calls k2 _ _ x6_1 (rd l1 x28_2) false _ ?side1 ?side2 A27.out).mono ?_); (case side1 => repeat (exact (Kd.R_reads' HO_6.out).2.2)); (case side2 => exact (Kd.R_reads' HO_6.out).2.1); rintro e w' ⟨rfl, ⟨nd, rfl⟩⟩; refine ⟨_, rfl, ?_⟩))
    go_roundg k2
    case measure => have := HK1.out; have := HK2.out; omega
    case rel => exact ⟨(x7_2), (x8_2), (wrap64 (x28_2 + 1)), (by rfl), (by rfl), (by rfl), H', ⟨by have := HK1.out; have := HK2.out; omega⟩, ⟨by (with_reducible repeat (apply Kd.S_drewN)); exact HO_5.out⟩, ⟨rk HO_6⟩, ⟨bk BK884⟩, ⟨bl1 HB GE884⟩⟩
   rw [if_pos c30] at H
   have c30b0 : decide ((rd (rd_L3 t886 (rd x6_1 (ji20))) (rd l1 x28_2)) < x8_2) = true := decide_eq_true c30
   clear c30
   have H' := ak H
   clear H
   have p896 : 0 ≤ (x28_2 : Int) := oT (by (with_reducible assumption))
   have q896 : x28_2 < (l1.length : Int) := oT (by (with_reducible assumption))
   obtain ⟨ad896, e896, hx896_0⟩ := Kd.at_int HR1.out x28_2 p896 q896
   cases e896
   replace hx896_0 := hcb HB.out hx896_0
   replace p896 := eq_true p896
   replace q896 := eq_true q896
   have p897 : 0 ≤ ((ji20) : Int) := oT (by (with_reducible assumption))
   have q897 : (ji20) < (x6_1.length : Int) := oT (by (with_reducible assumption))
   obtain ⟨ad897, e897, hx897_0⟩ := Kd.at_int (Kd.R_reads' HO_6.out).2.2 (ji20) p897 q897
   cases e897
   replace p897 := eq_true p897
   replace q897 := eq_true q897
   obtain ⟨Ao31, co31, eo31⟩ := Kd.S_slice HO_5.out
   subst eo31
   have p898 : 0 ≤ ((rd x6_1 (ji20)) : Int) := oT (by (with_reducible assumption))
   have q898 : (rd x6_1 (ji20)) < (t886.length : Int) := oT (by (with_reducible assumption))
   obtain ⟨ad898, A898_0, c898_0, e898, hx898_0, hl898_0, hi898_0⟩ := at_L3 (Kd.S_reads' HO_5.out).2.2 (rd x6_1 (ji20)) p898 q898
   cases e898
   obtain ⟨ce898, hce898, hMe898, hcc898⟩ := Kd.S_get HO_5.out [] (rd x6_1 (ji20)) p898 (by exact q898)
   obtain ⟨ve898_0, rfl, ge898_0⟩ := hMe898
   have hv898_0 := hcc898 0 _ rfl
   rw [Nat.add_zero, show ((Kd.slice 3 (Kd.int .i64))).sz = 1 from rfl, Nat.mul_one] at hv898_0
   replace hv898_0 := Option.some.inj (hv898_0.symm.trans hx898_0)
   rw [hv898_0] at ge898_0
   have HL898_0 := ak (show Kd.R (Kd.int .i64) 3 _ _ _ _ (rd_L3 t886 (rd x6_1 (ji20))) from ge898_0)
   clear hv898_0 ge898_0
   clear hcc898 hce898
   have HR898_0 := ak hi898_0
   have HC898_0 := ak hl898_0
   clear hi898_0 hl898_0
   replace p898 := eq_true p898
   replace q898 := eq_true q898
   have p899 : 0 ≤ ((rd l1 x28_2) : Int) := oT (by (with_reducible assumption))
   have q899 : (rd l1 x28_2) < ((rd_L3 t886 (rd x6_1 (ji20))).length : Int) := oT (by (with_reducible assumption))
   obtain ⟨ad899, e899, hx899_0⟩ := Kd.at_int (by repeat ((with_reducible exact HR898_0.out))) (rd l1 x28_2) p899 q899
   cases e899
   replace p899 := eq_true p899
   replace q899 := eq_true q899
   go_wp2_with (((with_reducible refine gate_callee (f := 79) rfl ?_); refine goesL_ (some 46) rfl rfl Try.func79 (by kernel_rfl) rfl #[.slice (some ad897) x6_1.length co16, .int .i64 (rd l1 x28_2)] rfl (by (try simp only [List.map_toArray, List.map_cons, List.map_nil]); rfl) ?_; (with_reducible refine (slices_Contains_int_int.calls k2 _ _ x6_1 (rd l1 x28_2) false _ ?side1 ?side2 A27.out).mono ?_); (case side1 => repeat (exact (Kd.R_reads' HO_6.out).2.2)); (case side2 => exact (Kd.R_reads' HO_6.out).2.1); rintro e w' ⟨rfl, ⟨nd, rfl⟩⟩; refine ⟨_, rfl, ?_⟩))
   go_roundg k2
   case measure => have := HK1.out; have := HK2.out; omega
   case rel => exact ⟨(rd l1 x28_2), (rd (rd_L3 t886 (rd x6_1 (ji20))) (rd l1 x28_2)), (wrap64 (x28_2 + 1)), (by rfl), (by rfl), (by rfl), H', ⟨by have := HK1.out; have := HK2.out; omega⟩, ⟨by (with_reducible repeat (apply Kd.S_drewN)); exact HO_5.out⟩, ⟨rk HO_6⟩, ⟨bk BK884⟩, ⟨bl1 HB GE884⟩⟩

end Go.Proofs.Ytgickejeakmenaa.F
