-- Printed by wip/px/px.py of this claim's repository (the kit's printer, extended there). Lean checks it.
import Derived.Test.YtddkaiegnohkcaaFKinds
import Derived.Test.YtddkaiegnohkcaaFimplNetback
import Derived.Test.YtddkaiegnohkcaaFimplNettoward
namespace Go.Proofs.Ytddkaiegnohkcaa.F
open Go.RowKit Go.Proofs.YtddkaiegnohkcaaW.PrintWords Go.Proofs.YtddkaiegnohkcaaW.PrintLast Go.Proofs.YtddkaiegnohkcaaW.PrintMore
attribute [local go_sem] max2_int min2_int max_two min_two max_three min_three max_four min_four   -- for this text's walks alone
set_option linter.unusedVariables false
set_option linter.unusedSimpArgs false

/-! ### impl_costs: function 83 -/
def impl_costs.l0 : Nat → List Int → List (S116) → Int → Int → Option (List Int)
 | 0, _, _, _, _ => none
 | k + 1, x3, x9, x10, x11 => if x11 < x10 then (if 0 ≤ x11 then (if x11 < (x9.length : Int) then (if x3.length < 17592186044416 then (impl_costs.l0 k (x3 ++ [(rd_T116 x9 x11).f0]) x9 x10 (wrap64 (x11 + 1))) else (none)) else (none)) else (none)) else (some x3)
def impl_costs.f (k : Nat) (l0 : List (S116)) : Option (List Int) := if ((l0.length : Int) : Int).toNat ≤ 35184372088832 then (impl_costs.l0 k (([] : List Int)) l0 (l0.length : Int) 0) else (none)
theorem impl_costs.mono_l : ∀ k, (∀ y0 y1 y2 y3, LeO (impl_costs.l0 k y0 y1 y2 y3) (impl_costs.l0 (k + 1) y0 y1 y2 y3))
 | 0 => fun _ _ _ _ r h => by simp [impl_costs.l0] at h
 | k + 1 => by
  have ih0 := impl_costs.mono_l k
  ·intro y0 y1 y2 y3
   unfold impl_costs.l0
   repeat' first | (with_reducible exact ih0 _ _ _ _) | (with_reducible exact LeO.refl _) | (with_reducible refine LeO.ite ?_ ?_)
theorem impl_costs.mono : ∀ a0 k, LeO (impl_costs.f k a0) (impl_costs.f (k + 1) a0) := by
 intro a0 k
 have ih0 := impl_costs.mono_l k
 unfold impl_costs.f
 repeat' first | (with_reducible exact ih0 _ _ _ _) | (with_reducible exact LeO.refl _) | (with_reducible refine LeO.ite ?_ ?_)
set_option maxHeartbeats 8000000 in
set_option maxRecDepth 100000 in
theorem impl_costs.calls (k : Nat) (A0 : Option Addr) (c0 : Nat) (l0 : List (S116)) (r : List Int) (w : World) (hr0 : Kd.C k116 w A0 l0.length l0) (hc0 : l0.length ≤ c0) (h : impl_costs.f k l0 = some r) :
  Calls Try.prog 83 #[.slice A0 l0.length c0] w fun e w' => ∃ v0_ : Value, e = .returned (v0_) ∧ Kd.R (Kd.int .i64) 3 w' w.heap.size (fun _ => True) v0_ r ∧ Below w.heap.size w w' := by
 have hu116 := Try.underlying116
 have HR0 := ak hr0
 have HC0 := ak hc0
 clear hr0 hc0
 have HB := ak (Below.refl w.heap.size w)
 have H : (if ((l0.length : Int) : Int).toNat ≤ 35184372088832 then (impl_costs.l0 k (([] : List Int)) l0 (l0.length : Int) 0) else (none)) = some r := h
 clear h
 by_cases c2 : ((l0.length : Int) : Int).toNat ≤ 35184372088832
 rotate_left
 ·rw [if_neg c2] at H
  exact absurd H (by simp)
 rw [if_pos c2] at H
 have c2b0 := eq_true c2
 have c2b1 : decide (((l0.length : Int) : Int).toNat ≤ 35184372088832) = true := decide_eq_true c2
 clear c2
 obtain ⟨y119, hy119⟩ : ∃ y_ : List Int, y_ = (([] : List Int)) := ⟨_, rfl⟩
 replace H : (impl_costs.l0 k y119 l0 (l0.length : Int) 0) = some r := by (rw [hy119]; with_reducible exact H)
 have Ny119 := ak hy119
 clear hy119
 have H' := ak H
 clear H
 go_enter Try.func83, Try.ntmps83
 go_wp2_with (((with_reducible refine gate_dst (N := 8) rfl ?_); refine Kd.R_make0 (Kd.int .i64) _ 3 rfl (N := 8) rfl 26 _ _ rfl (l0.length : Int) rfl rfl Try.underlying26 (.int .i64 0) 8 info3 (by decide) (ok := fun _ => True) trivial (by omega) (Nat.le_trans (Nat.mul_le_mul_right _ (oT (by (with_reducible assumption)) : (l0.length : Int).toNat ≤ 35184372088832)) (by omega)) (Below.refl _ _) (Nat.le_refl _) ?_; intro v120 w3 ho4 hb hg_ hnew_; clear hg_ hnew_; (rw [← Ny119.out] at ho4); have HO121 := ak (Kd.R_lower ho4 (below_size (bl HB))); replace HB := ak (below_step (bl HB) hb); clear hb ho4))
 go_loopg [3, 11] k (fun kq v3 v11 w' => ∃ (x3_1 : List Int) (x11_1 : Int), v11 = .int .i64 x11_1 ∧ Aside0 (impl_costs.l0 kq x3_1 l0 (l0.length : Int) x11_1 = some r) ∧ Aside0 (kq ≤ k) ∧ Aside0 (Kd.R (Kd.int .i64) 3 w' w.heap.size (fun _ => True) v3 x3_1) ∧ Aside0 (Below w.heap.size w w'))
 case atStart => exact ⟨(y119), (0), (by rfl), H', ⟨Nat.le_refl _⟩, ⟨rk HO121⟩, ⟨bl HB⟩⟩
 clear H'
 try clear c2
 try clear c2b0
 try clear c2b1
 try clear p2
 obtain ⟨x3_1, x11_1, rfl, HA, HK1, HO_3, HB⟩ := hrel
 cases gk with
 | zero => exact absurd HA.out (by simp [impl_costs.l0])
 | succ k1 =>
  have H := HA.out
  clear HA
  simp only [impl_costs.l0] at H
  by_cases c5 : x11_1 < (l0.length : Int)
  rotate_left
  ·rw [if_neg c5] at H
   have c5b0 : decide (x11_1 < (l0.length : Int)) = false := decide_eq_false c5
   clear c5
   obtain rfl := Option.some.inj H
   go_wp2
   go_ret
   exact ⟨_, by rfl, rk HO_3, bl HB⟩
  rw [if_pos c5] at H
  have c5b0 : decide (x11_1 < (l0.length : Int)) = true := decide_eq_true c5
  clear c5
  by_cases c6 : 0 ≤ x11_1
  rotate_left
  ·rw [if_neg c6] at H
   exact absurd H (by simp)
  rw [if_pos c6] at H
  have c6b0 : decide (0 ≤ x11_1) = true := decide_eq_true c6
  clear c6
  by_cases c7 : x11_1 < (l0.length : Int)
  rotate_left
  ·rw [if_neg c7] at H
   exact absurd H (by simp)
  rw [if_pos c7] at H
  have c7b0 : decide (x11_1 < (l0.length : Int)) = true := decide_eq_true c7
  clear c7
  by_cases c8 : x3_1.length < 17592186044416
  rotate_left
  ·rw [if_neg c8] at H
   exact absurd H (by simp)
  rw [if_pos c8] at H
  have LMc8 := ak c8
  clear c8
  obtain ⟨y124, hy124⟩ : ∃ y_ : List Int, y_ = (x3_1 ++ [(rd_T116 l0 x11_1).f0]) := ⟨_, rfl⟩
  replace H : (impl_costs.l0 k1 y124 l0 (l0.length : Int) (wrap64 (x11_1 + 1))) = some r := by (rw [hy124]; with_reducible exact H)
  have Ny124 := ak hy124
  clear hy124
  have H' := ak H
  clear H
  have p122 : 0 ≤ (x11_1 : Int) := oT (by (with_reducible assumption))
  have q122 : x11_1 < (l0.length : Int) := oT (by (with_reducible assumption))
  obtain ⟨ad122, e122, hx122_0, hx122_1⟩ := at_T116 HR0.out x11_1 p122 q122
  cases e122
  replace hx122_0 := hcb HB.out hx122_0
  replace hx122_1 := hcb HB.out hx122_1
  replace p122 := eq_true p122
  replace q122 := eq_true q122
  go_wp2_with (first | ((with_reducible refine gate_dst (N := 5) rfl ?_); refine box_event ?hg (N := 5) ?hd (cs := #[.int .i64 0, .int .i64 0]) (t := 116) ?hr ?_; (case hd => rfl); (case hg => rfl); (case hr => (go_simp; done)); intro gb123 hg w9 hbox hb; replace HO_3 := ak (Kd.R_below (rk HO_3) hb); have BK123 := ak (hbox); have GW123 := ak ((by rw [hg]; exact (below_size (bl HB)) : w.heap.size ≤ gb123)); have GE123 := ak ((by rw [hg]; exact (below_size (bl HB)) : w.heap.size ≤ gb123)); replace HB := ak (below_step (bl HB) hb); clear hb hbox hg; have hcz10_0 := bc w9 BK123 0 (.int .i64 0) rfl; have hcz10_1 := bc w9 BK123 1 (.int .i64 0) rfl; have hfz10_0 := fz BK123 0; have hfz10_1 := fz BK123 1) | ((with_reducible refine gate_builtin (b := .append) (xs := #[.tmp 15, .tmp 18]) rfl ?_); at_builtin; refine Kd.R_append (Kd.int .i64) (w0 := w) w.heap.size rfl (.tmp 15) (.tmp 18) 26 3 (.int .i64 0) 8 rfl Try.underlying26 info3 rfl (by decide) (by omega) u3 x3_1 ((rd_T116 l0 x11_1).f0) [.int .i64 ((rd_T116 l0 x11_1).f0)] (fun _ => True) (fun _ => False) rfl (by (go_simp; done)) ?aP (fun _ hk => hk.elim) ?aF ?aO ?aB ?aS ?aL ?_; (case aP => exact rfl); (case aB => exact (bl1 HB GE123)); (case aF => exact (fun _ _ => trivial)); (case aO => exact (by exact Kd.R_mono (Kd.R_far (p := ⟨gb123, 1, none⟩) (Kd.R_far (p := ⟨gb123, 0, none⟩) (Kd.R_types HO_3.out BK123.out (by decide)) (fun _ hk => hk.2) (.int .i64 ((rd_T116 l0 x11_1).f0))) (fun _ hk => hk.2) (.int .i64 ((rd_T116 l0 x11_1).f1))) (fun _ hk => trivial))); (case aS => exact (below_size (bl1 HB GE123))); (case aL => have := LMc8.out; omega); intro v125 w11 ho hb hg hat; rw [← Ny124.out] at ho; have n0_ := ak (blk_grown (g := gb123) (o := .cells #[.int .i64 ((rd_T116 l0 x11_1).f0), .int .i64 ((rd_T116 l0 x11_1).f1)] 116 (0, 0)) (by refine blk_put (cs := #[.int .i64 ((rd_T116 l0 x11_1).f0), .int .i64 0]) ?_ 1 _ rfl; refine blk_put (cs := #[.int .i64 0, .int .i64 0]) ?_ 0 _ rfl; exact BK123.out) hg (Kd.R_ne HO_3.out BK123.out (by decide))); have n1_ := ak (hb); have n2_ := ak (ho); clear BK123; clear HB; clear HO_3; have BK123 := n0_; have HB := n1_; have HO126 := n2_; clear n0_ n1_ n2_; clear ho hb hg hat))
  go_roundg k1
  case measure => have := HK1.out; omega
  case rel => exact ⟨(y124), (wrap64 (x11_1 + 1)), (by rfl), H', ⟨by have := HK1.out; omega⟩, ⟨rk HO126⟩, ⟨bl1 HB GE123⟩⟩

/-! ### impl_Net_from: function 59 -/
def impl_Net_from.f (k : Nat) (a0_0 : Int) (l0_1 : List (S33)) (a1 : Int) : Option (List Int) := (impl_Net_back.f k a0_0 l0_1).bind fun bt158 => ((impl_Net_toward.f k bt158.1 bt158.2 a1).bind fun t162 => ((impl_costs.f k t162).bind fun t165 => (some t165)))
theorem impl_Net_from.mono : ∀ a0 a1 a2 k, LeO (impl_Net_from.f k a0 a1 a2) (impl_Net_from.f (k + 1) a0 a1 a2) := by
 intro a0 a1 a2 k
 unfold impl_Net_from.f
 repeat' first | (with_reducible exact impl_Net_back.mono _ _ _) | (with_reducible exact impl_Net_toward.mono _ _ _ _) | (with_reducible exact impl_costs.mono _ _) | (with_reducible exact LeO.refl _) | (with_reducible refine LeO.bind ?_ (fun _ => ?_))
set_option maxHeartbeats 8000000 in
set_option maxRecDepth 100000 in
theorem impl_Net_from.calls (k : Nat) (a0_0 : Int) (A0_1 : Option Addr) (c0_1 : Nat) (l0_1 : List (S33)) (a1 : Int) (r : List Int) (w : World) (hr0_1 : Kd.C k33 w A0_1 l0_1.length l0_1) (hc0_1 : l0_1.length ≤ c0_1) (h : impl_Net_from.f k a0_0 l0_1 a1 = some r) :
  Calls Try.prog 59 #[.agg #[.int .i64 a0_0, .slice A0_1 l0_1.length c0_1], .int .i64 a1] w fun e w' => ∃ v0_ : Value, e = .returned (v0_) ∧ Kd.R (Kd.int .i64) 3 w' w.heap.size (fun _ => True) v0_ r ∧ Below w.heap.size w w' := by
 have hu25 := Try.underlying25
 have HR0_1 := ak hr0_1
 have HC0_1 := ak hc0_1
 clear hr0_1 hc0_1
 have HB := ak (Below.refl w.heap.size w)
 have H : ((impl_Net_back.f k a0_0 l0_1).bind fun bt158 => ((impl_Net_toward.f k bt158.1 bt158.2 a1).bind fun t162 => ((impl_costs.f k t162).bind fun t165 => (some t165)))) = some r := h
 clear h
 replace H := Option.bind_eq_some_iff.mp H
 obtain ⟨⟨t158, t159⟩, A30, H⟩ := H
 have A3 := ak A30
 clear A30
 replace H := Option.bind_eq_some_iff.mp H
 obtain ⟨t162, A40, H⟩ := H
 have A4 := ak A40
 clear A40
 replace H := Option.bind_eq_some_iff.mp H
 obtain ⟨t165, A50, H⟩ := H
 have A5 := ak A50
 clear A50
 obtain rfl := Option.some.inj H
 go_enter Try.func59, Try.ntmps59
 go_wp2_with (first | ((with_reducible refine gate_dst (N := 2) rfl ?_); refine box_event ?hg (N := 2) ?hd (cs := #[.int .i64 a0_0, .slice A0_1 l0_1.length c0_1]) (t := 25) ?hr ?_; (case hd => rfl); (case hg => rfl); (case hr => (go_simp; done)); intro gb157 hg w6 hbox hb; have BK157 := ak (hbox); have GW157 := ak ((by rw [hg]; exact (below_size (bl HB)) : w.heap.size ≤ gb157)); have GE157 := ak ((by rw [hg]; exact (below_size (bl HB)) : w.heap.size ≤ gb157)); replace HB := ak (below_step (bl HB) hb); clear hb hbox hg; have hcz7_0 := bc w6 BK157 0 (.int .i64 a0_0) rfl; have hcz7_1 := bc w6 BK157 1 (.slice A0_1 l0_1.length c0_1) rfl; have hfz7_0 := fz BK157 0; have hfz7_1 := fz BK157 1) | ((with_reducible refine gate_callee (f := 84) rfl ?_); refine goesL_ (some 6) rfl rfl Try.func84 (by kernel_rfl) rfl #[.agg #[.int .i64 a0_0, .slice A0_1 l0_1.length c0_1]] rfl (by (try simp only [List.map_toArray, List.map_cons, List.map_nil]); rfl) ?_; (with_reducible refine (impl_Net_back.calls k a0_0 _ _ l0_1 t158 t159 _ ?side1 ?side2 A3.out).mono ?_); (case side1 => repeat (exact (Kd.C_below HR0_1.out HB.out))); (case side2 => exact HC0_1.out); rintro e w8 ⟨v160, rfl, ho0, hb⟩; refine ⟨_, rfl, ?_⟩; have HO161 := ak (Kd.R_lower ho0 (below_size (bl1 HB GE157))); replace BK157 := ak (blk_below (bk BK157) hb); replace HB := ak (below_step (bl1 HB GE157) hb); (try clear hb); (try clear hb2); (try clear hk); (try clear hi); (try clear ho0); obtain ⟨Ao9, co9, eo9⟩ := Kd.R_slice HO161.out; subst eo9) | ((with_reducible refine gate_callee (f := 85) rfl ?_); refine goesL_ (some 8) rfl rfl Try.func85 (by kernel_rfl) rfl #[.agg #[.int .i64 t158, .slice Ao9 t159.length co9], .int .i64 a1] rfl (by (try simp only [List.map_toArray, List.map_cons, List.map_nil]); rfl) ?_; (with_reducible refine (impl_Net_toward.calls k t158 _ _ t159 a1 t162 _ ?side1 ?side2 A4.out).mono ?_); (case side1 => repeat (exact (Kd.R_reads' HO161.out).2.2)); (case side2 => exact (Kd.R_reads' HO161.out).2.1); rintro e w10 ⟨v163, rfl, ho0, hb⟩; refine ⟨_, rfl, ?_⟩; replace HO161 := ak (Kd.R_below (rk HO161) hb); have HO164 := ak (Kd.R_lower ho0 (below_size (bl1 HB GE157))); replace BK157 := ak (blk_below (bk BK157) hb); replace HB := ak (below_step (bl1 HB GE157) hb); (try clear hb); (try clear hb2); (try clear hk); (try clear hi); (try clear ho0); obtain ⟨Ao11, co11, eo11⟩ := Kd.R_slice HO164.out; subst eo11) | ((with_reducible refine gate_callee (f := 83) rfl ?_); refine goesL_ (some 9) rfl rfl Try.func83 (by kernel_rfl) rfl #[.slice Ao11 t162.length co11] rfl (by (try simp only [List.map_toArray, List.map_cons, List.map_nil]); rfl) ?_; (with_reducible refine (impl_costs.calls k _ _ t162 t165 _ ?side1 ?side2 A5.out).mono ?_); (case side1 => repeat (exact (Kd.R_reads' HO164.out).2.2)); (case side2 => exact (Kd.R_reads' HO164.out).2.1); rintro e w12 ⟨v166, rfl, ho0, hb⟩; refine ⟨_, rfl, ?_⟩; replace HO161 := ak (Kd.R_below (rk HO161) hb); replace HO164 := ak (Kd.R_below (rk HO164) hb); have HO167 := ak (Kd.R_lower ho0 (below_size (bl1 HB GE157))); replace BK157 := ak (blk_below (bk BK157) hb); replace HB := ak (below_step (bl1 HB GE157) hb); (try clear hb); (try clear hb2); (try clear hk); (try clear hi); (try clear ho0)))
 go_ret
 exact ⟨_, by rfl, rk HO167, bl1 HB GE157⟩

end Go.Proofs.Ytddkaiegnohkcaa.F
