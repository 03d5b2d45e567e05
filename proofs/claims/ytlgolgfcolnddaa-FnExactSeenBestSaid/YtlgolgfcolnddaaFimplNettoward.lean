-- Printed by wip/px/px.py of this claim's repository (the kit's printer, extended there). Lean checks it.
import Derived.Test.YtlgolgfcolnddaaFKinds
import Derived.Test.YtlgolgfcolnddaaFimplMeas
import Derived.Test.YtlgolgfcolnddaaFimplMeas
namespace Go.Proofs.Ytlgolgfcolnddaa.F
open Go.RowKit Go.Proofs.YtlgolgfcolnddaaW.PrintWords Go.Proofs.YtlgolgfcolnddaaW.PrintLast Go.Proofs.YtlgolgfcolnddaaW.PrintMore
attribute [local go_sem] max2_int min2_int max_two min_two max_three min_three max_four min_four   -- for this text's walks alone
set_option linter.unusedVariables false
set_option linter.unusedSimpArgs false

/-! ### impl_Net_toward: function 101 -/
mutual
def impl_Net_toward.l0 : Nat → List (S114) → Bool → Int → List (S58) → Option ((List (S114)))
 | 0, _, _, _, _ => none
 | k + 1, x5, x6, x262000, x262001 => if x6 = true then (impl_Net_toward.l1 k x5 false x262001 (x262001.length : Int) 0 x262000 x262001) else (some x5)
def impl_Net_toward.l1 : Nat → List (S114) → Bool → List (S58) → Int → Int → Int → List (S58) → Option ((List (S114)))
 | 0, _, _, _, _, _, _, _ => none
 | k + 1, x5, x6, x21, x22, x23, x262000, x262001 => if x23 < x22 then (if 0 ≤ x23 then (if x23 < (x21.length : Int) then (if 0 ≤ ((rd_T58 x21 x23).f1) then (if ((rd_T58 x21 x23).f1) < (x5.length : Int) then (if ((rd_T114 x5 ((rd_T58 x21 x23).f1)).f0) = 99999 then (impl_Net_toward.l1 k x5 x6 x21 x22 (wrap64 (x23 + 1)) x262000 x262001) else (if 0 ≤ ((rd_T58 x21 x23).f0) then (if ((rd_T58 x21 x23).f0) < (x5.length : Int) then ((impl_measure_less.f (wrap64 (((rd_T114 x5 ((rd_T58 x21 x23).f1)).f0) + ((rd_T58 x21 x23).f2))) (wrap64 (((rd_T114 x5 ((rd_T58 x21 x23).f1)).f1) + 1)) ((rd_T114 x5 ((rd_T58 x21 x23).f0)).f0) ((rd_T114 x5 ((rd_T58 x21 x23).f0)).f1)).bind fun t274 => (if t274 = true then (impl_Net_toward.l1 k (x5.set (((rd_T58 x21 x23).f0) : Int).toNat (⟨wrap64 (((rd_T114 x5 ((rd_T58 x21 x23).f1)).f0) + ((rd_T58 x21 x23).f2)), wrap64 (((rd_T114 x5 ((rd_T58 x21 x23).f1)).f1) + 1)⟩ : S114)) true x21 x22 (wrap64 (x23 + 1)) x262000 x262001) else (impl_Net_toward.l1 k x5 x6 x21 x22 (wrap64 (x23 + 1)) x262000 x262001))) else (none)) else (none))) else (none)) else (none)) else (none)) else (none)) else (impl_Net_toward.l0 k x5 x6 x262000 x262001)
end
def impl_Net_toward.f (k : Nat) (a0_0 : Int) (l0_1 : List (S58)) (a1 : Int) : Option ((List (S114))) := (impl_measure.f (([(⟨99999, 0⟩ : S114)] : List (S114))) a0_0).bind fun t265 => (if 0 ≤ a1 then (if a1 < (t265.length : Int) then (impl_Net_toward.l0 k (t265.set (a1 : Int).toNat (⟨0, 0⟩ : S114)) true a0_0 l0_1) else (none)) else (none))
theorem impl_Net_toward.mono_l : ∀ k, (∀ y0 y1 y2 y3, LeO (impl_Net_toward.l0 k y0 y1 y2 y3) (impl_Net_toward.l0 (k + 1) y0 y1 y2 y3)) ∧ (∀ y0 y1 y2 y3 y4 y5 y6, LeO (impl_Net_toward.l1 k y0 y1 y2 y3 y4 y5 y6) (impl_Net_toward.l1 (k + 1) y0 y1 y2 y3 y4 y5 y6))
 | 0 => ⟨fun _ _ _ _ r h => by simp [impl_Net_toward.l0] at h, fun _ _ _ _ _ _ _ r h => by simp [impl_Net_toward.l1] at h⟩
 | k + 1 => by
  obtain ⟨ih0, ih1⟩ := impl_Net_toward.mono_l k
  refine ⟨?_, ?_⟩
  ·intro y0 y1 y2 y3
   unfold impl_Net_toward.l0
   repeat' first
   | (with_reducible exact ih0 _ _ _ _)
   | (with_reducible exact ih1 _ _ _ _ _ _ _)
   | (with_reducible exact LeO.refl _)
   | (with_reducible exact LeO.none _)
   | (with_reducible refine LeO.ite ?_ ?_)
   | (with_reducible refine LeO.bind ?_ (fun _ => ?_))
   | exact ih0 _ _ _ _
   | exact ih1 _ _ _ _ _ _ _
   | exact LeO.none _
   | refine LeO.ite ?_ ?_
   | refine LeO.bind ?_ (fun _ => ?_)
  ·intro y0 y1 y2 y3 y4 y5 y6
   unfold impl_Net_toward.l1
   repeat' first
   | (with_reducible exact ih0 _ _ _ _)
   | (with_reducible exact ih1 _ _ _ _ _ _ _)
   | (with_reducible exact LeO.refl _)
   | (with_reducible exact LeO.none _)
   | (with_reducible refine LeO.ite ?_ ?_)
   | (with_reducible refine LeO.bind ?_ (fun _ => ?_))
   | exact ih0 _ _ _ _
   | exact ih1 _ _ _ _ _ _ _
   | exact LeO.none _
   | refine LeO.ite ?_ ?_
   | refine LeO.bind ?_ (fun _ => ?_)
theorem impl_Net_toward.mono : ∀ a0 a1 a2 k, LeO (impl_Net_toward.f k a0 a1 a2) (impl_Net_toward.f (k + 1) a0 a1 a2) := by
 intro a0 a1 a2 k
 obtain ⟨ih0, ih1⟩ := impl_Net_toward.mono_l k
 unfold impl_Net_toward.f
 repeat' first
   | (with_reducible exact ih0 _ _ _ _)
   | (with_reducible exact ih1 _ _ _ _ _ _ _)
   | (with_reducible exact LeO.refl _)
   | (with_reducible exact LeO.none _)
   | (with_reducible refine LeO.ite ?_ ?_)
   | (with_reducible refine LeO.bind ?_ (fun _ => ?_))
   | exact ih0 _ _ _ _
   | exact ih1 _ _ _ _ _ _ _
   | exact LeO.none _
   | refine LeO.ite ?_ ?_
   | refine LeO.bind ?_ (fun _ => ?_)
set_option maxHeartbeats 8000000 in
set_option maxRecDepth 100000 in
theorem impl_Net_toward.calls (k : Nat) (a0_0 : Int) (A0_1 : Option Addr) (c0_1 : Nat) (l0_1 : List (S58)) (a1 : Int) (r : List (S114)) (w : World) (hr0_1 : Kd.C k58 w A0_1 l0_1.length l0_1) (hc0_1 : l0_1.length ≤ c0_1) (h : impl_Net_toward.f k a0_0 l0_1 a1 = some r) :
  Calls Try.prog 101 #[.agg #[.int .i64 a0_0, .slice A0_1 l0_1.length c0_1], .int .i64 a1] w fun e w' => ∃ v0_ : Value, e = .returned (v0_) ∧ Kd.R k114 114 w' w.heap.size (fun _ => True) v0_ r ∧ Below w.heap.size w w' := by
 have hu25 := Try.underlying25
 have hu114 := Try.underlying114
 have hu58 := Try.underlying58
 have HR0_1 := ak hr0_1
 have HC0_1 := ak hc0_1
 clear hr0_1 hc0_1
 have HB := ak (Below.refl w.heap.size w)
 have H : ((impl_measure.f (([(⟨99999, 0⟩ : S114)] : List (S114))) a0_0).bind fun t265 => (if 0 ≤ a1 then (if a1 < (t265.length : Int) then (impl_Net_toward.l0 k (t265.set (a1 : Int).toNat (⟨0, 0⟩ : S114)) true a0_0 l0_1) else (none)) else (none))) = some r := h
 clear h
 obtain ⟨y262, hy262⟩ : ∃ y_ : List (S114), y_ = (([(⟨99999, 0⟩ : S114)] : List (S114))) := ⟨_, rfl⟩
 replace H : ((impl_measure.f y262 a0_0).bind fun t265 => (if 0 ≤ a1 then (if a1 < (t265.length : Int) then (impl_Net_toward.l0 k (t265.set (a1 : Int).toNat (⟨0, 0⟩ : S114)) true a0_0 l0_1) else (none)) else (none))) = some r := by first | (rw [hy262]; with_reducible exact H) | (have H2_ := (Option.bind_some _ _).symm.trans H; rw [hy262]; with_reducible exact H2_) | (have H2_ := (Option.bind_some _ _).symm.trans H; with_reducible exact H2_) | with_reducible exact H | (rw [hy262]; exact H) | exact H
 have Ny262 := ak hy262
 clear hy262
 replace H := Option.bind_eq_some_iff.mp H
 obtain ⟨t265, A30, H⟩ := H
 have A3 := ak A30
 clear A30
 by_cases c4 : 0 ≤ a1
 rotate_left
 ·rw [if_neg c4] at H
  exact absurd H (by simp)
 rw [if_pos c4] at H
 have c4b0 : decide (0 ≤ a1) = true := decide_eq_true c4
 clear c4
 by_cases c5 : a1 < (t265.length : Int)
 rotate_left
 ·rw [if_neg c5] at H
  exact absurd H (by simp)
 rw [if_pos c5] at H
 have c5b0 : decide (a1 < (t265.length : Int)) = true := decide_eq_true c5
 clear c5
 obtain ⟨y268, hy268⟩ : ∃ y_ : List (S114), y_ = (t265.set (a1 : Int).toNat (⟨0, 0⟩ : S114)) := ⟨_, rfl⟩
 replace H : (impl_Net_toward.l0 k y268 true a0_0 l0_1) = some r := by first | (rw [hy268]; with_reducible exact H) | (have H2_ := (Option.bind_some _ _).symm.trans H; rw [hy268]; with_reducible exact H2_) | (have H2_ := (Option.bind_some _ _).symm.trans H; with_reducible exact H2_) | with_reducible exact H | (rw [hy268]; exact H) | exact H
 have Ny268 := ak hy268
 clear hy268
 have H' := ak H
 clear H
 go_enter Try.func101, Try.ntmps101
 go_wp2_with (first | ((with_reducible refine gate_dst (N := 2) rfl ?_); refine box_event ?hg (N := 2) ?hd (cs := #[.int .i64 a0_0, .slice A0_1 l0_1.length c0_1]) (t := 25) ?hr ?_; (case hd => rfl); (case hg => rfl); (case hr => first | (go_simp; done) | (go_simp; rfl)); intro gb261 hg w7 hbox hb; have BK261 := ak (hbox); have GW261 := ak ((by rw [hg]; exact (below_size (bl HB)) : w.heap.size ≤ gb261)); have GE261 := ak ((by rw [hg]; exact (below_size (bl HB)) : w.heap.size ≤ gb261)); replace HB := ak (below_step (bl HB) hb); clear hb hbox hg) | ((with_reducible refine gate_dst (N := 11) rfl ?_); refine Kd.R_lit k114 _ 114 ?hg (N := 11) ?hd (xs := ([(⟨99999, 0⟩ : S114)] : List (S114))) (inner := [.int .i64 99999, .int .i64 0]) (ok := fun _ => True) (okp := fun _ => True) ?hr ?hp (fun _ hk => hk) trivial (Below.refl _ _) (Nat.le_refl _) (by simp) ?_; (case hd => rfl); (case hg => rfl); (case hr => first | (go_simp; done) | (go_simp; rfl)); (case hp => exact (Reps.c2 (show Kd.M k114 _ _ _ (⟨99999, 0⟩ : S114) [.int .i64 99999, .int .i64 0] from (k114_mkM _ _ _ (⟨99999, 0⟩ : S114) )) (Reps.none _ _))); intro v263 w8 ho9 hb hg_ hnew_; clear hg_ hnew_; (first | rw [← Ny262.out] at ho9 | (simp only [Int.reduceToNat] at ho9; rw [← Ny262.out] at ho9)); have HO264 := ak (Kd.R_lower ho9 (below_size (bl1 HB GE261))); replace BK261 := ak (blk_below (bk BK261) hb); replace HB := ak (below_step (bl1 HB GE261) hb); clear hb ho9; have hcz10_0 := bc w8 BK261 0 (.int .i64 a0_0) rfl; have hcz10_1 := bc w8 BK261 1 (.slice A0_1 l0_1.length c0_1) rfl; have hfz10_0 := fz BK261 0; have hfz10_1 := fz BK261 1; obtain ⟨Ao11, co11, eo11⟩ := Kd.R_slice HO264.out; subst eo11) | ((with_reducible refine gate_callee (f := 118) rfl ?_); refine goesL_ (some 14) rfl rfl Try.func118 (by kernel_rfl) rfl #[.slice Ao11 y262.length co11, .int .i64 a0_0] rfl (by (try simp only [List.map_toArray, List.map_cons, List.map_nil]); first | done | rfl | (simp only [List.length_drop, List.length_take]; rfl)) ?_; (with_reducible refine (impl_measure.calls _ _ y262 a0_0 t265 _ ?side1 ?side2 A3.out).mono ?_); (case side1 => repeat (first | exact (Kd.R_reads' HO264.out).2.2 | (with_reducible refine Kd.C_alloc ?_ _) | (with_reducible refine Kd.C_drewN ?_ _) | (with_reducible refine Kd.C_drew ?_))); (case side2 => exact (Kd.R_reads' HO264.out).2.1); rintro e w12 ⟨v266, rfl, ho0, hb⟩; refine ⟨_, rfl, ?_⟩; have HO267 := ak (Kd.R_lower (Kd.R_new' ho0 (Kd.R_lt (rk HO264))) (below_size (bl1 HB GE261))); replace HO264 := ak (Kd.R_elder' (rk HO264) (Kd.R_base ho0) hb); replace BK261 := ak (blk_below (bk BK261) hb); replace HB := ak (below_step (bl1 HB GE261) hb); (try clear hb); (try clear hb2); (try clear hk); (try clear hi); (try clear ho0); have p6 : 0 ≤ (a1 : Int) := oT (by first | (with_reducible assumption) | assumption); have q6 : (a1 : Int) < ((t265.length : Int) : Int) := oT (by first | (with_reducible assumption) | assumption); obtain ⟨go6, co6, eo6, gb6, gl6, cl6, HG6⟩ := Kd.R_form HO267.out (by omega); (first | cases eo6 | (injection eo6 with ea_ en_ ec_; (first | subst ea_ | (injection ea_ with ea_; subst ea_)); subst ec_; clear en_)); have GB6 := ak gb6; have GG6 := ak HG6; clear gb6 gl6 HG6; obtain ⟨ce6, hcl6, hM6, hcc6, hfr6⟩ := Kd.R_elem HO267.out z114 (a1 : Int) p6 q6; obtain rfl := k114_openM hM6; have hx6_0 : w12.cell? ⟨go6, (a1 : Int).toNat * 2, none⟩ = some (.int .i64 ((rd_T114 t265 a1).f0)) := hcc6 0 _ rfl; have hx6_1 : w12.cell? ⟨go6, (a1 : Int).toNat * 2 + 1, none⟩ = some (.int .i64 ((rd_T114 t265 a1).f1)) := hcc6 1 _ rfl; have hf6_0 : w12.frozen? ⟨go6, (a1 : Int).toNat * 2, none⟩ = false := hfr6 0; have hf6_1 : w12.frozen? ⟨go6, (a1 : Int).toNat * 2 + 1, none⟩ = false := hfr6 1; clear hcl6 hcc6 hfr6 hM6; replace p6 := eq_true p6; replace q6 := eq_true q6; have n_ := ak (Kd.R_mono (ok' := (fun k_ => some k_ ≠ (.slice Ao11 y262.length co11 : Value).ownBlock)) HO267.out (fun k_ hk => hk.2)); clear HO267; have HO267 := n_; clear n_; have HX13 := ak (show Kd.R k114 114 w12 w.heap.size (fun k_ => some k_ ≠ (.slice Ao11 y262.length co11 : Value).ownBlock) (.slice (some ⟨go6, 0, none⟩) t265.length co6) t265 from (rk HO267)); obtain ⟨ce13, hcl13, hM13, hcc13, hfr13⟩ := Kd.R_elem HX13.out z114 (a1 : Int) (oT (by first | (with_reducible assumption) | assumption)) (by have h_ : (a1 : Int) < ((t265.length : Int) : Int) := oT (by first | (with_reducible assumption) | assumption); first | exact h_ | (have e_ := (Kd.R_reads' HO267.out).1; omega) | simpa using h_); obtain rfl := k114_openM hM13; have HP13 := Kd.R_seg HX13.out (a1 : Int) (oT (by first | (with_reducible assumption) | assumption)) (by have h_ : (a1 : Int) < ((t265.length : Int) : Int) := oT (by first | (with_reducible assumption) | assumption); first | exact h_ | (have e_ := (Kd.R_reads' HO267.out).1; omega) | simpa using h_) (seg := [.int .i64 0, .int .i64 0]) (j := 0) hcl13 hcc13 (show 2 ≤ 2 from by decide) (x' := (⟨0, 0⟩ : S114)) (k114_mkM _ _ _ (⟨0, 0⟩ : S114) ) (fun _ hk => hk); have hx13_0 := hcc13 0 _ rfl; (try simp only [show (k114).sz = 2 from rfl, Nat.mul_one, Nat.add_zero] at hx13_0); have hf13_0 := hfr13 0; (try simp only [show (k114).sz = 2 from rfl, Nat.mul_one, Nat.add_zero] at hf13_0); have hx13_1 := hcc13 1 _ rfl; (try simp only [show (k114).sz = 2 from rfl, Nat.mul_one, Nat.add_zero] at hx13_1); have hf13_1 := hfr13 1; (try simp only [show (k114).sz = 2 from rfl, Nat.mul_one, Nat.add_zero] at hf13_1); clear hcl13 hcc13 hfr13 hM13) | ((with_reducible refine gate_store (t := 114) (p := 18) rfl ?_); refine store_event (t := 114) (p := 18) (v := ?vo_w14) (w1 := ((w12.setCell ⟨go6, (a1 : Int).toNat * 2, none⟩ (.int .i64 0)).setCell ⟨go6, (a1 : Int).toNat * 2 + 1, none⟩ (.int .i64 0))) ?hg ?ho ?hn ?hr ?_; (case ho => rfl); (case hg => rfl); (case hn => rfl); (case hr => first | (go_simp; done) | (go_simp; rfl)); intro w14 hw; have hg : w12.grownBy w14 (some go6) := (by rw [hw]; exact HP13.2); have hp_ : Kd.R k114 114 w14 w.heap.size (fun k_ => some k_ ≠ (.slice Ao11 y262.length co11 : Value).ownBlock) (.slice (some ⟨go6, 0, none⟩) t265.length co6) y268 := (by rw [hw, Ny268.out]; exact HP13.1); clear HP13; replace BK261 := ak (blk_grown (bk BK261) hg (Kd.R_ne HO267.out BK261.out (by decide))); replace HO264 := ak (Kd.R_after (v := (.slice (some ⟨go6, 0, none⟩) t265.length co6)) (v1 := (.slice (some ⟨go6, 0, none⟩) t265.length co6)) (ok := (fun _ => True)) (rk HO264) hg (.inl rfl)); replace HO267 := ak (hp_); replace HB := ak ((by rw [hw]; exact below_set (below_set (HB.out) GB6.out) GB6.out : Below w.heap.size w w14)); clear hg hw hp_))
 go_loopg [6] k (fun kq v6 w' => ∃ (x5_1 : List (S114)) (x6_1 : Bool), v6 = .bool x6_1 ∧ Aside0 (impl_Net_toward.l0 kq x5_1 x6_1 a0_0 l0_1 = some r) ∧ Aside0 (kq ≤ k) ∧ Aside0 (Kd.R k114 114 w' w.heap.size (fun _ => True) (.slice (some ⟨go6, 0, none⟩) t265.length co6) x5_1) ∧ Aside0 (w'.heap[gb261]? = some (.cells #[.int .i64 a0_0, (.slice A0_1 l0_1.length c0_1)] 25 (0, 0))) ∧ Aside0 (Below w.heap.size w w'))
 case atStart => exact ⟨(y268), (true), (by first | rfl | (simp; done) | (simp [*]; done)), H', ⟨Nat.le_refl _⟩, ⟨by (with_reducible repeat (first | apply Kd.R_alloc | apply Kd.R_drewN | apply Kd.R_drew)); exact Kd.R_mono HO267.out (fun _ hk => trivial)⟩, ⟨bk BK261⟩, ⟨bl1 HB GE261⟩⟩
 clear H'
 try clear c1
 try clear hx1
 try clear c2
 try clear p2
 try clear c4
 try clear c4b0
 try clear c5
 try clear c5b0
 try clear c6
 try clear p6
 try clear q6
 try clear hx6
 try clear hf6
 try clear c10
 try clear c11
 try clear c13
 try clear hx13
 try clear hf13
 try clear hcz10_0
 try clear hcz10_1
 try clear hfz10_0
 try clear hfz10_1
 try clear hx13_0
 try clear hx13_1
 try clear hx6_0
 try clear hx6_1
 try clear p6
 try clear q6
 obtain ⟨x5_1, x6_1, rfl, HA, HK1, HO_5, BK261, HB⟩ := hrel
 have hl5_1 := (Kd.R_reads' HO_5.out).1
 rw [hl5_1] at HO_5
 (try simp only [hl5_1])
 (try simp only [hl5_1] at BK261)
 cases gk with
 | zero => exact absurd HA.out (by simp [impl_Net_toward.l0])
 | succ k1 =>
  have H := HA.out
  clear HA
  simp only [impl_Net_toward.l0] at H
  by_cases c15 : x6_1 = true
  rotate_left
  ·replace c15 := Bool.eq_false_iff.mpr c15
   subst c15
   rw [if_neg (show ¬ (false = true) by decide)] at H
   obtain rfl := Option.some.inj H
   go_wp2
   go_ret
   exact ⟨_, by first | rfl | (simp [errW_none, errW_some] <;> rfl) | (simp [*, errW_none, errW_some] <;> rfl), rk HO_5, bl1 HB GE261⟩
  subst c15
  rw [if_pos rfl] at H
  have H' := ak H
  clear H
  have hcz16_0 := bc wr BK261 0 (.int .i64 a0_0) rfl
  have hcz16_1 := bc wr BK261 1 (.slice A0_1 l0_1.length c0_1) rfl
  have hfz16_0 := fz BK261 0
  have hfz16_1 := fz BK261 1
  go_wp2
  go_loopg [6, 23] k1 (fun kq v6 v23 w' => ∃ (x5_2 : List (S114)) (x6_2 : Bool) (x23_2 : Int), v6 = .bool x6_2 ∧ v23 = .int .i64 x23_2 ∧ Aside0 (impl_Net_toward.l1 kq x5_2 x6_2 l0_1 (l0_1.length : Int) x23_2 a0_0 l0_1 = some r) ∧ Aside0 (kq ≤ k1) ∧ Aside0 (Kd.R k114 114 w' w.heap.size (fun _ => True) (.slice (some ⟨go6, 0, none⟩) x5_1.length co6) x5_2) ∧ Aside0 (w'.heap[gb261]? = some (.cells #[.int .i64 a0_0, (.slice A0_1 l0_1.length c0_1)] 25 (0, 0))) ∧ Aside0 (Below w.heap.size w w'))
  case atStart => exact ⟨(x5_1), (false), (0), (by first | rfl | (simp; done) | (simp [*]; done)), (by first | rfl | (simp; done) | (simp [*]; done)), H', ⟨Nat.le_refl _⟩, ⟨by (try simp only [hl5_1]); (with_reducible repeat (first | apply Kd.R_alloc | apply Kd.R_drewN | apply Kd.R_drew)); exact HO_5.out⟩, ⟨by (try simp only [hl5_1]); (with_reducible repeat (first | refine blk_drewN ?_ _ | refine blk_drew ?_ | refine blk_alloc ?_ _)); exact BK261.out⟩, ⟨bl1 HB GE261⟩⟩
  clear H'
  try clear c1
  try clear hx1
  try clear c2
  try clear p2
  try clear c4
  try clear c4b0
  try clear c5
  try clear c5b0
  try clear c6
  try clear p6
  try clear q6
  try clear hx6
  try clear hf6
  try clear c10
  try clear c11
  try clear c13
  try clear hx13
  try clear hf13
  try clear c15
  try clear hcz10_0
  try clear hcz10_1
  try clear hcz16_0
  try clear hcz16_1
  try clear hfz10_0
  try clear hfz10_1
  try clear hfz16_0
  try clear hfz16_1
  try clear hx13_0
  try clear hx13_1
  try clear hx6_0
  try clear hx6_1
  try clear p2
  try clear p6
  try clear q6
  obtain ⟨x5_2, x6_2, x23_2, rfl, rfl, HA, HK2, HO_5, BK261, HB⟩ := hrel
  have hl5_2 := (Kd.R_reads' HO_5.out).1
  rw [hl5_2] at HO_5
  (try simp only [hl5_2])
  (try simp only [hl5_2] at BK261)
  cases gk with
  | zero => exact absurd HA.out (by simp [impl_Net_toward.l1])
  | succ k2 =>
   have H := HA.out
   clear HA
   simp only [impl_Net_toward.l1] at H
   by_cases c17 : x23_2 < (l0_1.length : Int)
   rotate_left
   ·rw [if_neg c17] at H
    have c17b0 : decide (x23_2 < (l0_1.length : Int)) = false := decide_eq_false c17
    clear c17
    have H' := ak H
    clear H
    go_wp2
    (try simp only [← hl5_1, ← hl5_2])
    go_roundg k2
    case measure => have := HK1.out; have := HK2.out; omega
    case rel => exact ⟨(x5_2), (x6_2), (by first | rfl | (simp; done) | (simp [*]; done)), H', ⟨by have := HK1.out; have := HK2.out; omega⟩, ⟨by (try simp only [hl5_1]); (try simp only [hl5_2]); (with_reducible repeat (first | apply Kd.R_alloc | apply Kd.R_drewN | apply Kd.R_drew)); exact HO_5.out⟩, ⟨by (try simp only [hl5_1]); (try simp only [hl5_2]); (with_reducible repeat (first | refine blk_drewN ?_ _ | refine blk_drew ?_ | refine blk_alloc ?_ _)); exact BK261.out⟩, ⟨bl1 HB GE261⟩⟩
   rw [if_pos c17] at H
   have c17b0 : decide (x23_2 < (l0_1.length : Int)) = true := decide_eq_true c17
   clear c17
   by_cases c18 : 0 ≤ x23_2
   rotate_left
   ·rw [if_neg c18] at H
    exact absurd H (by simp)
   rw [if_pos c18] at H
   have c18b0 : decide (0 ≤ x23_2) = true := decide_eq_true c18
   clear c18
   by_cases c19 : x23_2 < (l0_1.length : Int)
   rotate_left
   ·rw [if_neg c19] at H
    exact absurd H (by simp)
   rw [if_pos c19] at H
   have c19b0 : decide (x23_2 < (l0_1.length : Int)) = true := decide_eq_true c19
   clear c19
   by_cases c20 : 0 ≤ ((rd_T58 l0_1 x23_2).f1)
   rotate_left
   ·rw [if_neg c20] at H
    exact absurd H (by simp)
   rw [if_pos c20] at H
   have c20b0 : decide (0 ≤ ((rd_T58 l0_1 x23_2).f1)) = true := decide_eq_true c20
   clear c20
   by_cases c21 : ((rd_T58 l0_1 x23_2).f1) < (x5_2.length : Int)
   rotate_left
   ·rw [if_neg c21] at H
    exact absurd H (by simp)
   rw [if_pos c21] at H
   have c21b0 : decide (((rd_T58 l0_1 x23_2).f1) < (x5_2.length : Int)) = true := decide_eq_true c21
   clear c21
   by_cases c22 : ((rd_T114 x5_2 ((rd_T58 l0_1 x23_2).f1)).f0) = 99999
   ·rw [if_pos c22] at H
    have c22b0 : (((rd_T114 x5_2 ((rd_T58 l0_1 x23_2).f1)).f0) == 99999) = true := beq_iff_eq.mpr c22
    have c22b1 : (((rd_T114 x5_2 ((rd_T58 l0_1 x23_2).f1)).f0) != 99999) = false := bne_eq_false_iff_eq.mpr c22
    clear c22
    have H' := ak H
    clear H
    have p269 : 0 ≤ (x23_2 : Int) := oT (by first | (with_reducible assumption) | assumption)
    have q269 : x23_2 < (l0_1.length : Int) := oT (by first | (with_reducible assumption) | assumption)
    obtain ⟨ad269, e269, hx269_0, hx269_1, hx269_2, hx269_3, hx269_4⟩ := at_T58 HR0_1.out x23_2 p269 q269
    cases e269
    replace hx269_0 := hcb HB.out hx269_0
    replace hx269_1 := hcb HB.out hx269_1
    replace hx269_2 := hcb HB.out hx269_2
    replace hx269_3 := hcb HB.out hx269_3
    replace hx269_4 := hcb HB.out hx269_4
    replace p269 := eq_true p269
    replace q269 := eq_true q269
    go_wp2_with (first | ((with_reducible refine gate_dst (N := 8) rfl ?_); refine box_event ?hg (N := 8) ?hd (cs := #[.int .i64 0, .int .i64 0, .int .i64 0, .int .i64 0, .int .i64 0]) (t := 58) ?hr ?_; (case hd => rfl); (case hg => rfl); (case hr => first | (go_simp; done) | (go_simp; rfl)); intro gb270 hg w23 hbox hb; replace HO_5 := ak (Kd.R_below (rk HO_5) hb); have BK270 := ak (hbox); have GW270 := ak ((by rw [hg]; exact (below_size (bl1 HB GE261)) : w.heap.size ≤ gb270)); have GE270 := ak ((by rw [hg]; exact (below_size (bl1 HB GE261)) : w.heap.size ≤ gb270)); replace HB := ak (below_step (bl1 HB GE261) hb); have NB261_270 := ak ((by rw [hg]; exact Nat.ne_of_lt (blk_lt (bk BK261)) : gb261 ≠ gb270)); have NB270_261 := ak ((by rw [hg]; exact Nat.ne_of_gt (blk_lt (bk BK261)) : gb270 ≠ gb261)); replace BK261 := ak (blk_below (bk BK261) hb); clear hb hbox hg; have hnb24 := NB270_261.out; have hnc24 := NB261_270.out; have hcz25_0 := bc w23 BK270 0 (.int .i64 0) rfl; have hcz25_1 := bc w23 BK270 1 (.int .i64 0) rfl; have hcz25_2 := bc w23 BK270 2 (.int .i64 0) rfl; have hcz25_3 := bc w23 BK270 3 (.int .i64 0) rfl; have hcz25_4 := bc w23 BK270 4 (.int .i64 0) rfl; have hfz25_0 := fz BK270 0; have hfz25_1 := fz BK270 1; have hfz25_2 := fz BK270 2; have hfz25_3 := fz BK270 3; have hfz25_4 := fz BK270 4; have p271 : 0 ≤ (((rd_T58 l0_1 x23_2).f1) : Int) := oT (by first | (with_reducible assumption) | assumption); have q271 : ((rd_T58 l0_1 x23_2).f1) < (x5_2.length : Int) := oT (by first | (with_reducible assumption) | assumption); obtain ⟨ad271, e271, hx271_0, hx271_1⟩ := at_T114 (Kd.R_reads' HO_5.out).2.2 ((rd_T58 l0_1 x23_2).f1) p271 q271; obtain rfl : (⟨go6, 0, none⟩ : Addr) = ad271 := (by injection e271); (first | simp only [add_plain] at hx271_0 | simp only [add_at] at hx271_0 | simp only [Addr.add, Nat.zero_add] at hx271_0 | skip); (first | simp only [add_plain] at hx271_1 | simp only [add_at] at hx271_1 | simp only [Addr.add, Nat.zero_add] at hx271_1 | skip); have hn271_0 : (⟨go6, 0, none⟩ : Addr).block ≠ gb270 := Kd.own_blk (Kd.R_ne HO_5.out BK270.out (by decide)); have hn271_1 : (⟨go6, 0, none⟩ : Addr).block ≠ gb270 := Kd.own_blk (Kd.R_ne HO_5.out BK270.out (by decide)); have hn271_2 : (⟨go6, 0, none⟩ : Addr).block ≠ gb270 := Kd.own_blk (Kd.R_ne HO_5.out BK270.out (by decide)); have hn271_3 : (⟨go6, 0, none⟩ : Addr).block ≠ gb270 := Kd.own_blk (Kd.R_ne HO_5.out BK270.out (by decide)); have hn271_4 : (⟨go6, 0, none⟩ : Addr).block ≠ gb270 := Kd.own_blk (Kd.R_ne HO_5.out BK270.out (by decide)); replace hx271_0 := (cell_far (p := ⟨gb270, 0, none⟩) (by first | (rw [add_block]; exact hn271_0) | (show (Addr.add _ _).block ≠ _; rw [add_block]; exact hn271_0) | exact hn271_0) (.int .i64 ((rd_T58 l0_1 x23_2).f0))).trans hx271_0; replace hx271_1 := (cell_far (p := ⟨gb270, 0, none⟩) (by first | (rw [add_block]; exact hn271_0) | (show (Addr.add _ _).block ≠ _; rw [add_block]; exact hn271_0) | exact hn271_0) (.int .i64 ((rd_T58 l0_1 x23_2).f0))).trans hx271_1; replace hx271_0 := (cell_far (p := ⟨gb270, 1, none⟩) (by first | (rw [add_block]; exact hn271_1) | (show (Addr.add _ _).block ≠ _; rw [add_block]; exact hn271_1) | exact hn271_1) (.int .i64 ((rd_T58 l0_1 x23_2).f1))).trans hx271_0; replace hx271_1 := (cell_far (p := ⟨gb270, 1, none⟩) (by first | (rw [add_block]; exact hn271_1) | (show (Addr.add _ _).block ≠ _; rw [add_block]; exact hn271_1) | exact hn271_1) (.int .i64 ((rd_T58 l0_1 x23_2).f1))).trans hx271_1; replace hx271_0 := (cell_far (p := ⟨gb270, 2, none⟩) (by first | (rw [add_block]; exact hn271_2) | (show (Addr.add _ _).block ≠ _; rw [add_block]; exact hn271_2) | exact hn271_2) (.int .i64 ((rd_T58 l0_1 x23_2).f2))).trans hx271_0; replace hx271_1 := (cell_far (p := ⟨gb270, 2, none⟩) (by first | (rw [add_block]; exact hn271_2) | (show (Addr.add _ _).block ≠ _; rw [add_block]; exact hn271_2) | exact hn271_2) (.int .i64 ((rd_T58 l0_1 x23_2).f2))).trans hx271_1; replace hx271_0 := (cell_far (p := ⟨gb270, 3, none⟩) (by first | (rw [add_block]; exact hn271_3) | (show (Addr.add _ _).block ≠ _; rw [add_block]; exact hn271_3) | exact hn271_3) (.int .i64 ((rd_T58 l0_1 x23_2).f3))).trans hx271_0; replace hx271_1 := (cell_far (p := ⟨gb270, 3, none⟩) (by first | (rw [add_block]; exact hn271_3) | (show (Addr.add _ _).block ≠ _; rw [add_block]; exact hn271_3) | exact hn271_3) (.int .i64 ((rd_T58 l0_1 x23_2).f3))).trans hx271_1; replace hx271_0 := (cell_far (p := ⟨gb270, 4, none⟩) (by first | (rw [add_block]; exact hn271_4) | (show (Addr.add _ _).block ≠ _; rw [add_block]; exact hn271_4) | exact hn271_4) (.int .i64 ((rd_T58 l0_1 x23_2).f4))).trans hx271_0; replace hx271_1 := (cell_far (p := ⟨gb270, 4, none⟩) (by first | (rw [add_block]; exact hn271_4) | (show (Addr.add _ _).block ≠ _; rw [add_block]; exact hn271_4) | exact hn271_4) (.int .i64 ((rd_T58 l0_1 x23_2).f4))).trans hx271_1; clear hn271_0; clear hn271_1; clear hn271_2; clear hn271_3; clear hn271_4; replace p271 := eq_true p271; replace q271 := eq_true q271) | ((with_reducible refine gate_dst (N := 9) rfl ?_); refine box_event ?hg (N := 9) ?hd (cs := #[.int .i64 0, .int .i64 0]) (t := 114) ?hr ?_; (case hd => rfl); (case hg => rfl); (case hr => first | (go_simp; done) | (go_simp; rfl)); intro gb272 hg w26 hbox hb; replace HO_5 := ak (Kd.R_below (Kd.R_elderB (by (with_reducible repeat (first | apply Kd.R_alloc | apply Kd.R_drewN | apply Kd.R_drew)); exact (Kd.R_mono (Kd.R_far (p := ⟨gb270, 4, none⟩) (Kd.R_far (p := ⟨gb270, 3, none⟩) (Kd.R_far (p := ⟨gb270, 2, none⟩) (Kd.R_far (p := ⟨gb270, 1, none⟩) (Kd.R_far (p := ⟨gb270, 0, none⟩) (Kd.R_types HO_5.out BK270.out (by decide)) (fun _ hk => hk.2) (.int .i64 ((rd_T58 l0_1 x23_2).f0))) (fun _ hk => hk.2) (.int .i64 ((rd_T58 l0_1 x23_2).f1))) (fun _ hk => hk.2) (.int .i64 ((rd_T58 l0_1 x23_2).f2))) (fun _ hk => hk.2) (.int .i64 ((rd_T58 l0_1 x23_2).f3))) (fun _ hk => hk.2) (.int .i64 ((rd_T58 l0_1 x23_2).f4))) (fun _ h_ => h_.1))) gb272 (Nat.le_of_eq hg.symm)) hb); have BK272 := ak (hbox); have GW272 := ak ((by rw [hg]; exact (below_size (bl2 HB GE261 GE270)) : w.heap.size ≤ gb272)); have GE272 := ak ((by rw [hg]; exact (below_size (bl2 HB GE261 GE270)) : w.heap.size ≤ gb272)); replace HB := ak (below_step (bl2 HB GE261 GE270) hb); have NB261_272 := ak ((by rw [hg]; exact Nat.ne_of_lt (blk_lt (g := gb261) (o := .cells #[.int .i64 a0_0, .slice (some ad269) l0_1.length c0_1] 25 (0, 0)) (by (with_reducible repeat (first | refine blk_drewN ?_ _ | refine blk_drew ?_ | refine blk_alloc ?_ _)); refine blk_far ?_ NB261_270.out _; refine blk_far ?_ NB261_270.out _; refine blk_far ?_ NB261_270.out _; refine blk_far ?_ NB261_270.out _; refine blk_far ?_ NB261_270.out _; (with_reducible repeat (first | refine blk_drewN ?_ _ | refine blk_drew ?_ | refine blk_alloc ?_ _)); exact BK261.out)) : gb261 ≠ gb272)); have NB272_261 := ak ((by rw [hg]; exact Nat.ne_of_gt (blk_lt (g := gb261) (o := .cells #[.int .i64 a0_0, .slice (some ad269) l0_1.length c0_1] 25 (0, 0)) (by (with_reducible repeat (first | refine blk_drewN ?_ _ | refine blk_drew ?_ | refine blk_alloc ?_ _)); refine blk_far ?_ NB261_270.out _; refine blk_far ?_ NB261_270.out _; refine blk_far ?_ NB261_270.out _; refine blk_far ?_ NB261_270.out _; refine blk_far ?_ NB261_270.out _; (with_reducible repeat (first | refine blk_drewN ?_ _ | refine blk_drew ?_ | refine blk_alloc ?_ _)); exact BK261.out)) : gb272 ≠ gb261)); replace BK261 := ak (blk_below (g := gb261) (o := .cells #[.int .i64 a0_0, .slice (some ad269) l0_1.length c0_1] 25 (0, 0)) (by (with_reducible repeat (first | refine blk_drewN ?_ _ | refine blk_drew ?_ | refine blk_alloc ?_ _)); refine blk_far ?_ NB261_270.out _; refine blk_far ?_ NB261_270.out _; refine blk_far ?_ NB261_270.out _; refine blk_far ?_ NB261_270.out _; refine blk_far ?_ NB261_270.out _; (with_reducible repeat (first | refine blk_drewN ?_ _ | refine blk_drew ?_ | refine blk_alloc ?_ _)); exact BK261.out) hb); have NB270_272 := ak ((by rw [hg]; exact Nat.ne_of_lt (blk_lt (g := gb270) (o := .cells #[.int .i64 ((rd_T58 l0_1 x23_2).f0), .int .i64 ((rd_T58 l0_1 x23_2).f1), .int .i64 ((rd_T58 l0_1 x23_2).f2), .int .i64 ((rd_T58 l0_1 x23_2).f3), .int .i64 ((rd_T58 l0_1 x23_2).f4)] 58 (0, 0)) (by (with_reducible repeat (first | refine blk_drewN ?_ _ | refine blk_drew ?_ | refine blk_alloc ?_ _)); refine blk_put (cs := #[.int .i64 ((rd_T58 l0_1 x23_2).f0), .int .i64 ((rd_T58 l0_1 x23_2).f1), .int .i64 ((rd_T58 l0_1 x23_2).f2), .int .i64 ((rd_T58 l0_1 x23_2).f3), .int .i64 0]) ?_ 4 _ rfl; refine blk_put (cs := #[.int .i64 ((rd_T58 l0_1 x23_2).f0), .int .i64 ((rd_T58 l0_1 x23_2).f1), .int .i64 ((rd_T58 l0_1 x23_2).f2), .int .i64 0, .int .i64 0]) ?_ 3 _ rfl; refine blk_put (cs := #[.int .i64 ((rd_T58 l0_1 x23_2).f0), .int .i64 ((rd_T58 l0_1 x23_2).f1), .int .i64 0, .int .i64 0, .int .i64 0]) ?_ 2 _ rfl; refine blk_put (cs := #[.int .i64 ((rd_T58 l0_1 x23_2).f0), .int .i64 0, .int .i64 0, .int .i64 0, .int .i64 0]) ?_ 1 _ rfl; refine blk_put (cs := #[.int .i64 0, .int .i64 0, .int .i64 0, .int .i64 0, .int .i64 0]) ?_ 0 _ rfl; (with_reducible repeat (first | refine blk_drewN ?_ _ | refine blk_drew ?_ | refine blk_alloc ?_ _)); exact BK270.out)) : gb270 ≠ gb272)); have NB272_270 := ak ((by rw [hg]; exact Nat.ne_of_gt (blk_lt (g := gb270) (o := .cells #[.int .i64 ((rd_T58 l0_1 x23_2).f0), .int .i64 ((rd_T58 l0_1 x23_2).f1), .int .i64 ((rd_T58 l0_1 x23_2).f2), .int .i64 ((rd_T58 l0_1 x23_2).f3), .int .i64 ((rd_T58 l0_1 x23_2).f4)] 58 (0, 0)) (by (with_reducible repeat (first | refine blk_drewN ?_ _ | refine blk_drew ?_ | refine blk_alloc ?_ _)); refine blk_put (cs := #[.int .i64 ((rd_T58 l0_1 x23_2).f0), .int .i64 ((rd_T58 l0_1 x23_2).f1), .int .i64 ((rd_T58 l0_1 x23_2).f2), .int .i64 ((rd_T58 l0_1 x23_2).f3), .int .i64 0]) ?_ 4 _ rfl; refine blk_put (cs := #[.int .i64 ((rd_T58 l0_1 x23_2).f0), .int .i64 ((rd_T58 l0_1 x23_2).f1), .int .i64 ((rd_T58 l0_1 x23_2).f2), .int .i64 0, .int .i64 0]) ?_ 3 _ rfl; refine blk_put (cs := #[.int .i64 ((rd_T58 l0_1 x23_2).f0), .int .i64 ((rd_T58 l0_1 x23_2).f1), .int .i64 0, .int .i64 0, .int .i64 0]) ?_ 2 _ rfl; refine blk_put (cs := #[.int .i64 ((rd_T58 l0_1 x23_2).f0), .int .i64 0, .int .i64 0, .int .i64 0, .int .i64 0]) ?_ 1 _ rfl; refine blk_put (cs := #[.int .i64 0, .int .i64 0, .int .i64 0, .int .i64 0, .int .i64 0]) ?_ 0 _ rfl; (with_reducible repeat (first | refine blk_drewN ?_ _ | refine blk_drew ?_ | refine blk_alloc ?_ _)); exact BK270.out)) : gb272 ≠ gb270)); replace BK270 := ak (blk_below (g := gb270) (o := .cells #[.int .i64 ((rd_T58 l0_1 x23_2).f0), .int .i64 ((rd_T58 l0_1 x23_2).f1), .int .i64 ((rd_T58 l0_1 x23_2).f2), .int .i64 ((rd_T58 l0_1 x23_2).f3), .int .i64 ((rd_T58 l0_1 x23_2).f4)] 58 (0, 0)) (by (with_reducible repeat (first | refine blk_drewN ?_ _ | refine blk_drew ?_ | refine blk_alloc ?_ _)); refine blk_put (cs := #[.int .i64 ((rd_T58 l0_1 x23_2).f0), .int .i64 ((rd_T58 l0_1 x23_2).f1), .int .i64 ((rd_T58 l0_1 x23_2).f2), .int .i64 ((rd_T58 l0_1 x23_2).f3), .int .i64 0]) ?_ 4 _ rfl; refine blk_put (cs := #[.int .i64 ((rd_T58 l0_1 x23_2).f0), .int .i64 ((rd_T58 l0_1 x23_2).f1), .int .i64 ((rd_T58 l0_1 x23_2).f2), .int .i64 0, .int .i64 0]) ?_ 3 _ rfl; refine blk_put (cs := #[.int .i64 ((rd_T58 l0_1 x23_2).f0), .int .i64 ((rd_T58 l0_1 x23_2).f1), .int .i64 0, .int .i64 0, .int .i64 0]) ?_ 2 _ rfl; refine blk_put (cs := #[.int .i64 ((rd_T58 l0_1 x23_2).f0), .int .i64 0, .int .i64 0, .int .i64 0, .int .i64 0]) ?_ 1 _ rfl; refine blk_put (cs := #[.int .i64 0, .int .i64 0, .int .i64 0, .int .i64 0, .int .i64 0]) ?_ 0 _ rfl; (with_reducible repeat (first | refine blk_drewN ?_ _ | refine blk_drew ?_ | refine blk_alloc ?_ _)); exact BK270.out) hb); clear hb hbox hg; have hnb27 := NB272_261.out; have hnc27 := NB261_272.out; have hnb28 := NB272_270.out; have hnc28 := NB270_272.out; have hcz29_0 := bc w26 BK272 0 (.int .i64 0) rfl; have hcz29_1 := bc w26 BK272 1 (.int .i64 0) rfl; have hfz29_0 := fz BK272 0; have hfz29_1 := fz BK272 1))
    (try simp only [← hl5_2])
    go_roundg k2
    case measure => have := HK1.out; have := HK2.out; omega
    case rel => exact ⟨(x5_2), (x6_2), (wrap64 (x23_2 + 1)), (by first | rfl | (simp; done) | (simp [*]; done)), (by first | rfl | (simp; done) | (simp [*]; done)), H', ⟨by have := HK1.out; have := HK2.out; omega⟩, ⟨by (try simp only [hl5_1]); (try simp only [hl5_2]); (with_reducible repeat (first | apply Kd.R_alloc | apply Kd.R_drewN | apply Kd.R_drew)); exact Kd.R_mono (Kd.R_far (p := ⟨gb272, 1, none⟩) (Kd.R_far (p := ⟨gb272, 0, none⟩) (Kd.R_mono HO_5.out (fun k_ hk => (⟨hk, hk.2⟩ : _ ∧ k_ ≠ gb272))) (fun _ hk => hk.2) (.int .i64 ((rd_T114 x5_2 ((rd_T58 l0_1 x23_2).f1)).f0))) (fun _ hk => hk.2) (.int .i64 ((rd_T114 x5_2 ((rd_T58 l0_1 x23_2).f1)).f1))) (fun _ hk => trivial)⟩, ⟨by (try simp only [hl5_1]); (try simp only [hl5_2]); (with_reducible repeat (first | refine blk_drewN ?_ _ | refine blk_drew ?_ | refine blk_alloc ?_ _)); refine blk_far ?_ NB261_272.out _; refine blk_far ?_ NB261_272.out _; (with_reducible repeat (first | refine blk_drewN ?_ _ | refine blk_drew ?_ | refine blk_alloc ?_ _)); exact BK261.out⟩, ⟨bl3 HB GE261 GE270 GE272⟩⟩
   rw [if_neg c22] at H
   have c22b0 : (((rd_T114 x5_2 ((rd_T58 l0_1 x23_2).f1)).f0) == 99999) = false := beq_eq_false_iff_ne.mpr c22
   have c22b1 : (((rd_T114 x5_2 ((rd_T58 l0_1 x23_2).f1)).f0) != 99999) = true := bne_iff_ne.mpr c22
   by_cases c30 : 0 ≤ ((rd_T58 l0_1 x23_2).f0)
   rotate_left
   ·rw [if_neg c30] at H
    exact absurd H (by simp)
   rw [if_pos c30] at H
   have c30b0 : decide (0 ≤ ((rd_T58 l0_1 x23_2).f0)) = true := decide_eq_true c30
   clear c30
   by_cases c31 : ((rd_T58 l0_1 x23_2).f0) < (x5_2.length : Int)
   rotate_left
   ·rw [if_neg c31] at H
    exact absurd H (by simp)
   rw [if_pos c31] at H
   have c31b0 : decide (((rd_T58 l0_1 x23_2).f0) < (x5_2.length : Int)) = true := decide_eq_true c31
   clear c31
   replace H := Option.bind_eq_some_iff.mp H
   obtain ⟨t274, A320, H⟩ := H
   have A32 := ak A320
   clear A320
   by_cases c33 : t274 = true
   rotate_left
   ·replace c33 := Bool.eq_false_iff.mpr c33
    subst c33
    rw [if_neg (show ¬ (false = true) by decide)] at H
    have H' := ak H
    clear H
    have p269 : 0 ≤ (x23_2 : Int) := oT (by first | (with_reducible assumption) | assumption)
    have q269 : x23_2 < (l0_1.length : Int) := oT (by first | (with_reducible assumption) | assumption)
    obtain ⟨ad269, e269, hx269_0, hx269_1, hx269_2, hx269_3, hx269_4⟩ := at_T58 HR0_1.out x23_2 p269 q269
    cases e269
    replace hx269_0 := hcb HB.out hx269_0
    replace hx269_1 := hcb HB.out hx269_1
    replace hx269_2 := hcb HB.out hx269_2
    replace hx269_3 := hcb HB.out hx269_3
    replace hx269_4 := hcb HB.out hx269_4
    replace p269 := eq_true p269
    replace q269 := eq_true q269
    try go_wp2_with (first | ((with_reducible refine gate_dst (N := 8) rfl ?_); refine box_event ?hg (N := 8) ?hd (cs := #[.int .i64 0, .int .i64 0, .int .i64 0, .int .i64 0, .int .i64 0]) (t := 58) ?hr ?_; (case hd => rfl); (case hg => rfl); (case hr => first | (go_simp; done) | (go_simp; rfl)); intro gb270 hg w50 hbox hb; replace HO_5 := ak (Kd.R_below (rk HO_5) hb); have BK270 := ak (hbox); have GW270 := ak ((by rw [hg]; exact (below_size (bl1 HB GE261)) : w.heap.size ≤ gb270)); have GE270 := ak ((by rw [hg]; exact (below_size (bl1 HB GE261)) : w.heap.size ≤ gb270)); replace HB := ak (below_step (bl1 HB GE261) hb); have NB261_270 := ak ((by rw [hg]; exact Nat.ne_of_lt (blk_lt (bk BK261)) : gb261 ≠ gb270)); have NB270_261 := ak ((by rw [hg]; exact Nat.ne_of_gt (blk_lt (bk BK261)) : gb270 ≠ gb261)); replace BK261 := ak (blk_below (bk BK261) hb); clear hb hbox hg; have hnb51 := NB270_261.out; have hnc51 := NB261_270.out; have hcz52_0 := bc w50 BK270 0 (.int .i64 0) rfl; have hcz52_1 := bc w50 BK270 1 (.int .i64 0) rfl; have hcz52_2 := bc w50 BK270 2 (.int .i64 0) rfl; have hcz52_3 := bc w50 BK270 3 (.int .i64 0) rfl; have hcz52_4 := bc w50 BK270 4 (.int .i64 0) rfl; have hfz52_0 := fz BK270 0; have hfz52_1 := fz BK270 1; have hfz52_2 := fz BK270 2; have hfz52_3 := fz BK270 3; have hfz52_4 := fz BK270 4; have p271 : 0 ≤ (((rd_T58 l0_1 x23_2).f1) : Int) := oT (by first | (with_reducible assumption) | assumption); have q271 : ((rd_T58 l0_1 x23_2).f1) < (x5_2.length : Int) := oT (by first | (with_reducible assumption) | assumption); obtain ⟨ad271, e271, hx271_0, hx271_1⟩ := at_T114 (Kd.R_reads' HO_5.out).2.2 ((rd_T58 l0_1 x23_2).f1) p271 q271; obtain rfl : (⟨go6, 0, none⟩ : Addr) = ad271 := (by injection e271); (first | simp only [add_plain] at hx271_0 | simp only [add_at] at hx271_0 | simp only [Addr.add, Nat.zero_add] at hx271_0 | skip); (first | simp only [add_plain] at hx271_1 | simp only [add_at] at hx271_1 | simp only [Addr.add, Nat.zero_add] at hx271_1 | skip); have hn271_0 : (⟨go6, 0, none⟩ : Addr).block ≠ gb270 := Kd.own_blk (Kd.R_ne HO_5.out BK270.out (by decide)); have hn271_1 : (⟨go6, 0, none⟩ : Addr).block ≠ gb270 := Kd.own_blk (Kd.R_ne HO_5.out BK270.out (by decide)); have hn271_2 : (⟨go6, 0, none⟩ : Addr).block ≠ gb270 := Kd.own_blk (Kd.R_ne HO_5.out BK270.out (by decide)); have hn271_3 : (⟨go6, 0, none⟩ : Addr).block ≠ gb270 := Kd.own_blk (Kd.R_ne HO_5.out BK270.out (by decide)); have hn271_4 : (⟨go6, 0, none⟩ : Addr).block ≠ gb270 := Kd.own_blk (Kd.R_ne HO_5.out BK270.out (by decide)); replace hx271_0 := (cell_far (p := ⟨gb270, 0, none⟩) (by first | (rw [add_block]; exact hn271_0) | (show (Addr.add _ _).block ≠ _; rw [add_block]; exact hn271_0) | exact hn271_0) (.int .i64 ((rd_T58 l0_1 x23_2).f0))).trans hx271_0; replace hx271_1 := (cell_far (p := ⟨gb270, 0, none⟩) (by first | (rw [add_block]; exact hn271_0) | (show (Addr.add _ _).block ≠ _; rw [add_block]; exact hn271_0) | exact hn271_0) (.int .i64 ((rd_T58 l0_1 x23_2).f0))).trans hx271_1; replace hx271_0 := (cell_far (p := ⟨gb270, 1, none⟩) (by first | (rw [add_block]; exact hn271_1) | (show (Addr.add _ _).block ≠ _; rw [add_block]; exact hn271_1) | exact hn271_1) (.int .i64 ((rd_T58 l0_1 x23_2).f1))).trans hx271_0; replace hx271_1 := (cell_far (p := ⟨gb270, 1, none⟩) (by first | (rw [add_block]; exact hn271_1) | (show (Addr.add _ _).block ≠ _; rw [add_block]; exact hn271_1) | exact hn271_1) (.int .i64 ((rd_T58 l0_1 x23_2).f1))).trans hx271_1; replace hx271_0 := (cell_far (p := ⟨gb270, 2, none⟩) (by first | (rw [add_block]; exact hn271_2) | (show (Addr.add _ _).block ≠ _; rw [add_block]; exact hn271_2) | exact hn271_2) (.int .i64 ((rd_T58 l0_1 x23_2).f2))).trans hx271_0; replace hx271_1 := (cell_far (p := ⟨gb270, 2, none⟩) (by first | (rw [add_block]; exact hn271_2) | (show (Addr.add _ _).block ≠ _; rw [add_block]; exact hn271_2) | exact hn271_2) (.int .i64 ((rd_T58 l0_1 x23_2).f2))).trans hx271_1; replace hx271_0 := (cell_far (p := ⟨gb270, 3, none⟩) (by first | (rw [add_block]; exact hn271_3) | (show (Addr.add _ _).block ≠ _; rw [add_block]; exact hn271_3) | exact hn271_3) (.int .i64 ((rd_T58 l0_1 x23_2).f3))).trans hx271_0; replace hx271_1 := (cell_far (p := ⟨gb270, 3, none⟩) (by first | (rw [add_block]; exact hn271_3) | (show (Addr.add _ _).block ≠ _; rw [add_block]; exact hn271_3) | exact hn271_3) (.int .i64 ((rd_T58 l0_1 x23_2).f3))).trans hx271_1; replace hx271_0 := (cell_far (p := ⟨gb270, 4, none⟩) (by first | (rw [add_block]; exact hn271_4) | (show (Addr.add _ _).block ≠ _; rw [add_block]; exact hn271_4) | exact hn271_4) (.int .i64 ((rd_T58 l0_1 x23_2).f4))).trans hx271_0; replace hx271_1 := (cell_far (p := ⟨gb270, 4, none⟩) (by first | (rw [add_block]; exact hn271_4) | (show (Addr.add _ _).block ≠ _; rw [add_block]; exact hn271_4) | exact hn271_4) (.int .i64 ((rd_T58 l0_1 x23_2).f4))).trans hx271_1; clear hn271_0; clear hn271_1; clear hn271_2; clear hn271_3; clear hn271_4; replace p271 := eq_true p271; replace q271 := eq_true q271) | ((with_reducible refine gate_dst (N := 9) rfl ?_); refine box_event ?hg (N := 9) ?hd (cs := #[.int .i64 0, .int .i64 0]) (t := 114) ?hr ?_; (case hd => rfl); (case hg => rfl); (case hr => first | (go_simp; done) | (go_simp; rfl)); intro gb272 hg w53 hbox hb; replace HO_5 := ak (Kd.R_below (Kd.R_elderB (by (with_reducible repeat (first | apply Kd.R_alloc | apply Kd.R_drewN | apply Kd.R_drew)); exact (Kd.R_mono (Kd.R_far (p := ⟨gb270, 4, none⟩) (Kd.R_far (p := ⟨gb270, 3, none⟩) (Kd.R_far (p := ⟨gb270, 2, none⟩) (Kd.R_far (p := ⟨gb270, 1, none⟩) (Kd.R_far (p := ⟨gb270, 0, none⟩) (Kd.R_types HO_5.out BK270.out (by decide)) (fun _ hk => hk.2) (.int .i64 ((rd_T58 l0_1 x23_2).f0))) (fun _ hk => hk.2) (.int .i64 ((rd_T58 l0_1 x23_2).f1))) (fun _ hk => hk.2) (.int .i64 ((rd_T58 l0_1 x23_2).f2))) (fun _ hk => hk.2) (.int .i64 ((rd_T58 l0_1 x23_2).f3))) (fun _ hk => hk.2) (.int .i64 ((rd_T58 l0_1 x23_2).f4))) (fun _ h_ => h_.1))) gb272 (Nat.le_of_eq hg.symm)) hb); have BK272 := ak (hbox); have GW272 := ak ((by rw [hg]; exact (below_size (bl2 HB GE261 GE270)) : w.heap.size ≤ gb272)); have GE272 := ak ((by rw [hg]; exact (below_size (bl2 HB GE261 GE270)) : w.heap.size ≤ gb272)); replace HB := ak (below_step (bl2 HB GE261 GE270) hb); have NB261_272 := ak ((by rw [hg]; exact Nat.ne_of_lt (blk_lt (g := gb261) (o := .cells #[.int .i64 a0_0, .slice (some ad269) l0_1.length c0_1] 25 (0, 0)) (by (with_reducible repeat (first | refine blk_drewN ?_ _ | refine blk_drew ?_ | refine blk_alloc ?_ _)); refine blk_far ?_ NB261_270.out _; refine blk_far ?_ NB261_270.out _; refine blk_far ?_ NB261_270.out _; refine blk_far ?_ NB261_270.out _; refine blk_far ?_ NB261_270.out _; (with_reducible repeat (first | refine blk_drewN ?_ _ | refine blk_drew ?_ | refine blk_alloc ?_ _)); exact BK261.out)) : gb261 ≠ gb272)); have NB272_261 := ak ((by rw [hg]; exact Nat.ne_of_gt (blk_lt (g := gb261) (o := .cells #[.int .i64 a0_0, .slice (some ad269) l0_1.length c0_1] 25 (0, 0)) (by (with_reducible repeat (first | refine blk_drewN ?_ _ | refine blk_drew ?_ | refine blk_alloc ?_ _)); refine blk_far ?_ NB261_270.out _; refine blk_far ?_ NB261_270.out _; refine blk_far ?_ NB261_270.out _; refine blk_far ?_ NB261_270.out _; refine blk_far ?_ NB261_270.out _; (with_reducible repeat (first | refine blk_drewN ?_ _ | refine blk_drew ?_ | refine blk_alloc ?_ _)); exact BK261.out)) : gb272 ≠ gb261)); replace BK261 := ak (blk_below (g := gb261) (o := .cells #[.int .i64 a0_0, .slice (some ad269) l0_1.length c0_1] 25 (0, 0)) (by (with_reducible repeat (first | refine blk_drewN ?_ _ | refine blk_drew ?_ | refine blk_alloc ?_ _)); refine blk_far ?_ NB261_270.out _; refine blk_far ?_ NB261_270.out _; refine blk_far ?_ NB261_270.out _; refine blk_far ?_ NB261_270.out _; refine blk_far ?_ NB261_270.out _; (with_reducible repeat (first | refine blk_drewN ?_ _ | refine blk_drew ?_ | refine blk_alloc ?_ _)); exact BK261.out) hb); have NB270_272 := ak ((by rw [hg]; exact Nat.ne_of_lt (blk_lt (g := gb270) (o := .cells #[.int .i64 ((rd_T58 l0_1 x23_2).f0), .int .i64 ((rd_T58 l0_1 x23_2).f1), .int .i64 ((rd_T58 l0_1 x23_2).f2), .int .i64 ((rd_T58 l0_1 x23_2).f3), .int .i64 ((rd_T58 l0_1 x23_2).f4)] 58 (0, 0)) (by (with_reducible repeat (first | refine blk_drewN ?_ _ | refine blk_drew ?_ | refine blk_alloc ?_ _)); refine blk_put (cs := #[.int .i64 ((rd_T58 l0_1 x23_2).f0), .int .i64 ((rd_T58 l0_1 x23_2).f1), .int .i64 ((rd_T58 l0_1 x23_2).f2), .int .i64 ((rd_T58 l0_1 x23_2).f3), .int .i64 0]) ?_ 4 _ rfl; refine blk_put (cs := #[.int .i64 ((rd_T58 l0_1 x23_2).f0), .int .i64 ((rd_T58 l0_1 x23_2).f1), .int .i64 ((rd_T58 l0_1 x23_2).f2), .int .i64 0, .int .i64 0]) ?_ 3 _ rfl; refine blk_put (cs := #[.int .i64 ((rd_T58 l0_1 x23_2).f0), .int .i64 ((rd_T58 l0_1 x23_2).f1), .int .i64 0, .int .i64 0, .int .i64 0]) ?_ 2 _ rfl; refine blk_put (cs := #[.int .i64 ((rd_T58 l0_1 x23_2).f0), .int .i64 0, .int .i64 0, .int .i64 0, .int .i64 0]) ?_ 1 _ rfl; refine blk_put (cs := #[.int .i64 0, .int .i64 0, .int .i64 0, .int .i64 0, .int .i64 0]) ?_ 0 _ rfl; (with_reducible repeat (first | refine blk_drewN ?_ _ | refine blk_drew ?_ | refine blk_alloc ?_ _)); exact BK270.out)) : gb270 ≠ gb272)); have NB272_270 := ak ((by rw [hg]; exact Nat.ne_of_gt (blk_lt (g := gb270) (o := .cells #[.int .i64 ((rd_T58 l0_1 x23_2).f0), .int .i64 ((rd_T58 l0_1 x23_2).f1), .int .i64 ((rd_T58 l0_1 x23_2).f2), .int .i64 ((rd_T58 l0_1 x23_2).f3), .int .i64 ((rd_T58 l0_1 x23_2).f4)] 58 (0, 0)) (by (with_reducible repeat (first | refine blk_drewN ?_ _ | refine blk_drew ?_ | refine blk_alloc ?_ _)); refine blk_put (cs := #[.int .i64 ((rd_T58 l0_1 x23_2).f0), .int .i64 ((rd_T58 l0_1 x23_2).f1), .int .i64 ((rd_T58 l0_1 x23_2).f2), .int .i64 ((rd_T58 l0_1 x23_2).f3), .int .i64 0]) ?_ 4 _ rfl; refine blk_put (cs := #[.int .i64 ((rd_T58 l0_1 x23_2).f0), .int .i64 ((rd_T58 l0_1 x23_2).f1), .int .i64 ((rd_T58 l0_1 x23_2).f2), .int .i64 0, .int .i64 0]) ?_ 3 _ rfl; refine blk_put (cs := #[.int .i64 ((rd_T58 l0_1 x23_2).f0), .int .i64 ((rd_T58 l0_1 x23_2).f1), .int .i64 0, .int .i64 0, .int .i64 0]) ?_ 2 _ rfl; refine blk_put (cs := #[.int .i64 ((rd_T58 l0_1 x23_2).f0), .int .i64 0, .int .i64 0, .int .i64 0, .int .i64 0]) ?_ 1 _ rfl; refine blk_put (cs := #[.int .i64 0, .int .i64 0, .int .i64 0, .int .i64 0, .int .i64 0]) ?_ 0 _ rfl; (with_reducible repeat (first | refine blk_drewN ?_ _ | refine blk_drew ?_ | refine blk_alloc ?_ _)); exact BK270.out)) : gb272 ≠ gb270)); replace BK270 := ak (blk_below (g := gb270) (o := .cells #[.int .i64 ((rd_T58 l0_1 x23_2).f0), .int .i64 ((rd_T58 l0_1 x23_2).f1), .int .i64 ((rd_T58 l0_1 x23_2).f2), .int .i64 ((rd_T58 l0_1 x23_2).f3), .int .i64 ((rd_T58 l0_1 x23_2).f4)] 58 (0, 0)) (by (with_reducible repeat (first | refine blk_drewN ?_ _ | refine blk_drew ?_ | refine blk_alloc ?_ _)); refine blk_put (cs := #[.int .i64 ((rd_T58 l0_1 x23_2).f0), .int .i64 ((rd_T58 l0_1 x23_2).f1), .int .i64 ((rd_T58 l0_1 x23_2).f2), .int .i64 ((rd_T58 l0_1 x23_2).f3), .int .i64 0]) ?_ 4 _ rfl; refine blk_put (cs := #[.int .i64 ((rd_T58 l0_1 x23_2).f0), .int .i64 ((rd_T58 l0_1 x23_2).f1), .int .i64 ((rd_T58 l0_1 x23_2).f2), .int .i64 0, .int .i64 0]) ?_ 3 _ rfl; refine blk_put (cs := #[.int .i64 ((rd_T58 l0_1 x23_2).f0), .int .i64 ((rd_T58 l0_1 x23_2).f1), .int .i64 0, .int .i64 0, .int .i64 0]) ?_ 2 _ rfl; refine blk_put (cs := #[.int .i64 ((rd_T58 l0_1 x23_2).f0), .int .i64 0, .int .i64 0, .int .i64 0, .int .i64 0]) ?_ 1 _ rfl; refine blk_put (cs := #[.int .i64 0, .int .i64 0, .int .i64 0, .int .i64 0, .int .i64 0]) ?_ 0 _ rfl; (with_reducible repeat (first | refine blk_drewN ?_ _ | refine blk_drew ?_ | refine blk_alloc ?_ _)); exact BK270.out) hb); clear hb hbox hg; have hnb54 := NB272_261.out; have hnc54 := NB261_272.out; have hnb55 := NB272_270.out; have hnc55 := NB270_272.out; have hcz56_0 := bc w53 BK272 0 (.int .i64 0) rfl; have hcz56_1 := bc w53 BK272 1 (.int .i64 0) rfl; have hfz56_0 := fz BK272 0; have hfz56_1 := fz BK272 1; have hcz57_0 := bc w53 BK270 0 (.int .i64 ((rd_T58 l0_1 x23_2).f0)) rfl; have hcz57_1 := bc w53 BK270 1 (.int .i64 ((rd_T58 l0_1 x23_2).f1)) rfl; have hcz57_2 := bc w53 BK270 2 (.int .i64 ((rd_T58 l0_1 x23_2).f2)) rfl; have hcz57_3 := bc w53 BK270 3 (.int .i64 ((rd_T58 l0_1 x23_2).f3)) rfl; have hcz57_4 := bc w53 BK270 4 (.int .i64 ((rd_T58 l0_1 x23_2).f4)) rfl; have hfz57_0 := fz BK270 0; have hfz57_1 := fz BK270 1; have hfz57_2 := fz BK270 2; have hfz57_3 := fz BK270 3; have hfz57_4 := fz BK270 4))
    have n0_ : Aside0 (Kd.R k114 114 ((((w53.setCell ⟨gb272, 0, none⟩ (.int .i64 ((rd_T114 x5_2 ((rd_T58 l0_1 x23_2).f1)).f0))).setCell ⟨gb272, 1, none⟩ (.int .i64 ((rd_T114 x5_2 ((rd_T58 l0_1 x23_2).f1)).f1))).setCell ⟨gb272, 0, none⟩ (.int .i64 (wrap64 (((rd_T114 x5_2 ((rd_T58 l0_1 x23_2).f1)).f0) + ((rd_T58 l0_1 x23_2).f2))))).setCell ⟨gb272, 1, none⟩ (.int .i64 (wrap64 (((rd_T114 x5_2 ((rd_T58 l0_1 x23_2).f1)).f1) + 1)))) w.heap.size (fun k_ => k_ ≠ gb272) (.slice (some ⟨go6, 0, none⟩) x5_2.length co6) x5_2) := ⟨by (with_reducible repeat (first | apply Kd.R_alloc | apply Kd.R_drewN | apply Kd.R_drew)); exact Kd.R_mono (Kd.R_far (p := ⟨gb272, 1, none⟩) (Kd.R_far (p := ⟨gb272, 0, none⟩) (Kd.R_far (p := ⟨gb272, 1, none⟩) (Kd.R_far (p := ⟨gb272, 0, none⟩) (Kd.R_mono HO_5.out (fun k_ hk => (⟨hk, hk.2⟩ : _ ∧ k_ ≠ gb272))) (fun _ hk => hk.2) (.int .i64 ((rd_T114 x5_2 ((rd_T58 l0_1 x23_2).f1)).f0))) (fun _ hk => hk.2) (.int .i64 ((rd_T114 x5_2 ((rd_T58 l0_1 x23_2).f1)).f1))) (fun _ hk => hk.2) (.int .i64 (wrap64 (((rd_T114 x5_2 ((rd_T58 l0_1 x23_2).f1)).f0) + ((rd_T58 l0_1 x23_2).f2))))) (fun _ hk => hk.2) (.int .i64 (wrap64 (((rd_T114 x5_2 ((rd_T58 l0_1 x23_2).f1)).f1) + 1)))) (fun _ hk => hk.1.2)⟩
    have n1_ : Aside0 (((((w53.setCell ⟨gb272, 0, none⟩ (.int .i64 ((rd_T114 x5_2 ((rd_T58 l0_1 x23_2).f1)).f0))).setCell ⟨gb272, 1, none⟩ (.int .i64 ((rd_T114 x5_2 ((rd_T58 l0_1 x23_2).f1)).f1))).setCell ⟨gb272, 0, none⟩ (.int .i64 (wrap64 (((rd_T114 x5_2 ((rd_T58 l0_1 x23_2).f1)).f0) + ((rd_T58 l0_1 x23_2).f2))))).setCell ⟨gb272, 1, none⟩ (.int .i64 (wrap64 (((rd_T114 x5_2 ((rd_T58 l0_1 x23_2).f1)).f1) + 1)))).heap[gb261]? = some (.cells #[.int .i64 a0_0, .slice (some ad269) l0_1.length c0_1] 25 (0, 0))) := ⟨by (with_reducible repeat (first | refine blk_drewN ?_ _ | refine blk_drew ?_ | refine blk_alloc ?_ _)); refine blk_far ?_ NB261_272.out _; refine blk_far ?_ NB261_272.out _; refine blk_far ?_ NB261_272.out _; refine blk_far ?_ NB261_272.out _; (with_reducible repeat (first | refine blk_drewN ?_ _ | refine blk_drew ?_ | refine blk_alloc ?_ _)); exact BK261.out⟩
    have n2_ : Aside0 (((((w53.setCell ⟨gb272, 0, none⟩ (.int .i64 ((rd_T114 x5_2 ((rd_T58 l0_1 x23_2).f1)).f0))).setCell ⟨gb272, 1, none⟩ (.int .i64 ((rd_T114 x5_2 ((rd_T58 l0_1 x23_2).f1)).f1))).setCell ⟨gb272, 0, none⟩ (.int .i64 (wrap64 (((rd_T114 x5_2 ((rd_T58 l0_1 x23_2).f1)).f0) + ((rd_T58 l0_1 x23_2).f2))))).setCell ⟨gb272, 1, none⟩ (.int .i64 (wrap64 (((rd_T114 x5_2 ((rd_T58 l0_1 x23_2).f1)).f1) + 1)))).heap[gb270]? = some (.cells #[.int .i64 ((rd_T58 l0_1 x23_2).f0), .int .i64 ((rd_T58 l0_1 x23_2).f1), .int .i64 ((rd_T58 l0_1 x23_2).f2), .int .i64 ((rd_T58 l0_1 x23_2).f3), .int .i64 ((rd_T58 l0_1 x23_2).f4)] 58 (0, 0))) := ⟨by (with_reducible repeat (first | refine blk_drewN ?_ _ | refine blk_drew ?_ | refine blk_alloc ?_ _)); refine blk_far ?_ NB270_272.out _; refine blk_far ?_ NB270_272.out _; refine blk_far ?_ NB270_272.out _; refine blk_far ?_ NB270_272.out _; (with_reducible repeat (first | refine blk_drewN ?_ _ | refine blk_drew ?_ | refine blk_alloc ?_ _)); exact BK270.out⟩
    have n3_ : Aside0 (((((w53.setCell ⟨gb272, 0, none⟩ (.int .i64 ((rd_T114 x5_2 ((rd_T58 l0_1 x23_2).f1)).f0))).setCell ⟨gb272, 1, none⟩ (.int .i64 ((rd_T114 x5_2 ((rd_T58 l0_1 x23_2).f1)).f1))).setCell ⟨gb272, 0, none⟩ (.int .i64 (wrap64 (((rd_T114 x5_2 ((rd_T58 l0_1 x23_2).f1)).f0) + ((rd_T58 l0_1 x23_2).f2))))).setCell ⟨gb272, 1, none⟩ (.int .i64 (wrap64 (((rd_T114 x5_2 ((rd_T58 l0_1 x23_2).f1)).f1) + 1)))).heap[gb272]? = some (.cells #[.int .i64 (wrap64 (((rd_T114 x5_2 ((rd_T58 l0_1 x23_2).f1)).f0) + ((rd_T58 l0_1 x23_2).f2))), .int .i64 (wrap64 (((rd_T114 x5_2 ((rd_T58 l0_1 x23_2).f1)).f1) + 1))] 114 (0, 0))) := ⟨by (with_reducible repeat (first | refine blk_drewN ?_ _ | refine blk_drew ?_ | refine blk_alloc ?_ _)); refine blk_put (cs := #[.int .i64 (wrap64 (((rd_T114 x5_2 ((rd_T58 l0_1 x23_2).f1)).f0) + ((rd_T58 l0_1 x23_2).f2))), .int .i64 ((rd_T114 x5_2 ((rd_T58 l0_1 x23_2).f1)).f1)]) ?_ 1 _ rfl; (with_reducible repeat (first | refine blk_drewN ?_ _ | refine blk_drew ?_ | refine blk_alloc ?_ _)); refine blk_put (cs := #[.int .i64 ((rd_T114 x5_2 ((rd_T58 l0_1 x23_2).f1)).f0), .int .i64 ((rd_T114 x5_2 ((rd_T58 l0_1 x23_2).f1)).f1)]) ?_ 0 _ rfl; (with_reducible repeat (first | refine blk_drewN ?_ _ | refine blk_drew ?_ | refine blk_alloc ?_ _)); refine blk_put (cs := #[.int .i64 ((rd_T114 x5_2 ((rd_T58 l0_1 x23_2).f1)).f0), .int .i64 0]) ?_ 1 _ rfl; (with_reducible repeat (first | refine blk_drewN ?_ _ | refine blk_drew ?_ | refine blk_alloc ?_ _)); refine blk_put (cs := #[.int .i64 0, .int .i64 0]) ?_ 0 _ rfl; (with_reducible repeat (first | refine blk_drewN ?_ _ | refine blk_drew ?_ | refine blk_alloc ?_ _)); exact BK272.out⟩
    have n4_ : Aside0 (Below w.heap.size w ((((w53.setCell ⟨gb272, 0, none⟩ (.int .i64 ((rd_T114 x5_2 ((rd_T58 l0_1 x23_2).f1)).f0))).setCell ⟨gb272, 1, none⟩ (.int .i64 ((rd_T114 x5_2 ((rd_T58 l0_1 x23_2).f1)).f1))).setCell ⟨gb272, 0, none⟩ (.int .i64 (wrap64 (((rd_T114 x5_2 ((rd_T58 l0_1 x23_2).f1)).f0) + ((rd_T58 l0_1 x23_2).f2))))).setCell ⟨gb272, 1, none⟩ (.int .i64 (wrap64 (((rd_T114 x5_2 ((rd_T58 l0_1 x23_2).f1)).f1) + 1))))) := ⟨bl3 HB GE261 GE270 GE272⟩
    (try clear HO_5)
    (try clear BK261)
    (try clear BK270)
    (try clear BK272)
    (try clear HB)
    generalize ((((w53.setCell ⟨gb272, 0, none⟩ (.int .i64 ((rd_T114 x5_2 ((rd_T58 l0_1 x23_2).f1)).f0))).setCell ⟨gb272, 1, none⟩ (.int .i64 ((rd_T114 x5_2 ((rd_T58 l0_1 x23_2).f1)).f1))).setCell ⟨gb272, 0, none⟩ (.int .i64 (wrap64 (((rd_T114 x5_2 ((rd_T58 l0_1 x23_2).f1)).f0) + ((rd_T58 l0_1 x23_2).f2))))).setCell ⟨gb272, 1, none⟩ (.int .i64 (wrap64 (((rd_T114 x5_2 ((rd_T58 l0_1 x23_2).f1)).f1) + 1)))) = w58 at n0_ n1_ n2_ n3_ n4_ ⊢
    have HO_5 := n0_
    have BK261 := n1_
    have BK270 := n2_
    have BK272 := n3_
    have HB := n4_
    clear n0_ n1_ n2_ n3_ n4_
    replace HO_5 := ak (Kd.R_drew HO_5.out)
    replace BK261 := ak (blk_drew BK261.out)
    replace BK270 := ak (blk_drew BK270.out)
    replace BK272 := ak (blk_drew BK272.out)
    replace HB := ak (below_drew1 HB.out)
    have p273 : 0 ≤ (((rd_T58 l0_1 x23_2).f0) : Int) := oT (by first | (with_reducible assumption) | assumption)
    have q273 : ((rd_T58 l0_1 x23_2).f0) < (x5_2.length : Int) := oT (by first | (with_reducible assumption) | assumption)
    obtain ⟨ad273, e273, hx273_0, hx273_1⟩ := at_T114 (Kd.R_reads' HO_5.out).2.2 ((rd_T58 l0_1 x23_2).f0) p273 q273
    obtain rfl : (⟨go6, 0, none⟩ : Addr) = ad273 := (by injection e273)
    (first | simp only [add_plain] at hx273_0 | simp only [add_at] at hx273_0 | simp only [Addr.add, Nat.zero_add] at hx273_0 | skip)
    (first | simp only [add_plain] at hx273_1 | simp only [add_at] at hx273_1 | simp only [Addr.add, Nat.zero_add] at hx273_1 | skip)
    replace p273 := eq_true p273
    replace q273 := eq_true q273
    refine start_ (n := 7) (S := fun w' => w'.cell? ⟨gb272, 0, none⟩ = some (.int .i64 (wrap64 (((rd_T114 x5_2 ((rd_T58 l0_1 x23_2).f1)).f0) + ((rd_T58 l0_1 x23_2).f2)))) ∧ w'.cell? ⟨gb272, 1, none⟩ = some (.int .i64 (wrap64 (((rd_T114 x5_2 ((rd_T58 l0_1 x23_2).f1)).f1) + 1))) ∧ w'.cell? ⟨gb270, 0, none⟩ = some (.int .i64 ((rd_T58 l0_1 x23_2).f0)) ∧ w'.cell? ⟨gb270, 1, none⟩ = some (.int .i64 ((rd_T58 l0_1 x23_2).f1)) ∧ w'.cell? ⟨gb270, 2, none⟩ = some (.int .i64 ((rd_T58 l0_1 x23_2).f2)) ∧ w'.cell? ⟨gb270, 3, none⟩ = some (.int .i64 ((rd_T58 l0_1 x23_2).f3)) ∧ w'.cell? ⟨gb270, 4, none⟩ = some (.int .i64 ((rd_T58 l0_1 x23_2).f4)) ∧ w'.cell? ⟨go6, (((rd_T58 l0_1 x23_2).f0)).toNat * 2, none⟩ = some (.int .i64 ((rd_T114 x5_2 ((rd_T58 l0_1 x23_2).f0)).f0)) ∧ w'.cell? ⟨go6, (((rd_T58 l0_1 x23_2).f0)).toNat * 2 + 1, none⟩ = some (.int .i64 ((rd_T114 x5_2 ((rd_T58 l0_1 x23_2).f0)).f1))) (ds := []) #[false, false, false, false, false, false, false] (by kernel_rfl) rfl (by kernel_rfl) ⟨(blk_cell BK272.out 0).trans rfl, (blk_cell BK272.out 1).trans rfl, (blk_cell BK270.out 0).trans rfl, (blk_cell BK270.out 1).trans rfl, (blk_cell BK270.out 2).trans rfl, (blk_cell BK270.out 3).trans rfl, (blk_cell BK270.out 4).trans rfl, hx273_0, hx273_1⟩ (fun hHeld => ?_)
    generalize w58.drew = w59 at HO_5 BK261 BK270 BK272 HB hx273_0 hx273_1 hHeld ⊢
    refine pure_ (i := 1) (N := some 45) (v := ?_) (a' := ?_) #[false, true, false, false, false, false, false] rfl rfl (by kernel_rfl) (fun _ _ _ h => h) (Or.inl ⟨by rfl, ?_⟩) ?_ ?_
    rotate_left
    ·intro w'
     go_simp
     with_reducible rfl
    rotate_left
    ·simp only [SX]
     rfl
    refine pure_ (i := 2) (N := some 46) (v := ?_) (a' := ?_) #[false, true, true, false, false, false, false] rfl rfl (by kernel_rfl) (fun _ _ _ h => h) (Or.inl ⟨by rfl, ?_⟩) ?_ ?_
    rotate_left
    ·intro w'
     go_simp
     with_reducible rfl
    rotate_left
    ·simp only [SX]
     rfl
    refine take_ (i := 0) (N := some 44) (v := ?_) (a' := ?_) #[true, true, true, false, false, false, false] rfl rfl (by kernel_rfl) (fun _ _ _ h => h) (Or.inl ⟨by rfl, ?_⟩) hHeld ?_ ?_
    rotate_left
    ·rintro w' ⟨s0, s1, s2, s3, s4, s5, s6, s7, s8⟩
     go_simp
     with_reducible rfl
    rotate_left
    ·simp only [SX]
     rfl
    refine take_ (i := 3) (N := some 47) (v := ?_) (a' := ?_) #[true, true, true, true, false, false, false] rfl rfl (by kernel_rfl) (fun _ _ _ h => h) (Or.inl ⟨by rfl, ?_⟩) hHeld ?_ ?_
    rotate_left
    ·rintro w' ⟨s0, s1, s2, s3, s4, s5, s6, s7, s8⟩
     go_simp
     with_reducible rfl
    rotate_left
    ·simp only [SX]
     rfl
    refine pure_ (i := 4) (N := some 48) (v := ?_) (a' := ?_) #[true, true, true, true, true, false, false] rfl rfl (by kernel_rfl) (fun _ _ _ h => h) (Or.inl ⟨by rfl, ?_⟩) ?_ ?_
    rotate_left
    ·intro w'
     go_simp
     with_reducible rfl
    rotate_left
    ·simp only [SX]
     rfl
    refine take_ (i := 5) (N := some 49) (v := ?_) (a' := ?_) #[true, true, true, true, true, true, false] rfl rfl (by kernel_rfl) (fun _ _ _ h => h) (Or.inl ⟨by rfl, ?_⟩) hHeld ?_ ?_
    rotate_left
    ·rintro w' ⟨s0, s1, s2, s3, s4, s5, s6, s7, s8⟩
     go_simp
     with_reducible rfl
    rotate_left
    ·simp only [SX]
     rfl
    refine one_ (i := 6) (N := some 50) #[true, true, true, true, true, true, true] rfl rfl (by kernel_rfl) (by decide) (fun K hK => ?_)
    refine goes_ Try.func119 (by kernel_rfl) rfl #[.agg #[.int .i64 (wrap64 (((rd_T114 x5_2 ((rd_T58 l0_1 x23_2).f1)).f0) + ((rd_T58 l0_1 x23_2).f2))), .int .i64 (wrap64 (((rd_T114 x5_2 ((rd_T58 l0_1 x23_2).f1)).f1) + 1))], .agg #[.int .i64 ((rd_T114 x5_2 ((rd_T58 l0_1 x23_2).f0)).f0), .int .i64 ((rd_T114 x5_2 ((rd_T58 l0_1 x23_2).f0)).f1)]] (by rfl) rfl rfl (by (try simp only [List.map_toArray, List.map_cons, List.map_nil]); first | done | rfl | (simp only [List.length_drop, List.length_take]; rfl)) ?_
    with_reducible refine (impl_measure_less.calls (wrap64 (((rd_T114 x5_2 ((rd_T58 l0_1 x23_2).f1)).f0) + ((rd_T58 l0_1 x23_2).f2))) (wrap64 (((rd_T114 x5_2 ((rd_T58 l0_1 x23_2).f1)).f1) + 1)) ((rd_T114 x5_2 ((rd_T58 l0_1 x23_2).f0)).f0) ((rd_T114 x5_2 ((rd_T58 l0_1 x23_2).f0)).f1) false _ A32.out).mono ?_
    rintro e w60 ⟨rfl, hb⟩
    have HS7_ := (hb.cell (World.block_lt_of_cell? _ _ (hHeld.2.2.2.2.2.2.2.1))).trans (hHeld.2.2.2.2.2.2.2.1)
    have HS8_ := (hb.cell (World.block_lt_of_cell? _ _ (hHeld.2.2.2.2.2.2.2.2))).trans (hHeld.2.2.2.2.2.2.2.2)
    refine ⟨_, rfl, ?_⟩
    replace HO_5 := ak (Kd.R_below (rk HO_5) hb)
    replace BK261 := ak (blk_below (bk BK261) hb)
    replace BK270 := ak (blk_below (bk BK270) hb)
    replace BK272 := ak (blk_below (bk BK272) hb)
    replace HB := ak (below_step (bl3 HB GE261 GE270 GE272) hb)
    (try clear hb)
    (try clear hb2)
    (try clear hk)
    (try clear hi)
    refine hK.out _ _ ⟨(blk_cell BK272.out 0).trans rfl, (blk_cell BK272.out 1).trans rfl, (blk_cell BK270.out 0).trans rfl, (blk_cell BK270.out 1).trans rfl, (blk_cell BK270.out 2).trans rfl, (blk_cell BK270.out 3).trans rfl, (blk_cell BK270.out 4).trans rfl, HS7_, HS8_⟩ (fun hHeld => ?_)
    clear hK K
    refine norm_ (a' := ?_) ?_ ?_
    rotate_left
    ·show Act.put _ (some 50) _ = _
     simp only [SX]
     rfl
    refine done_ (by kernel_rfl) ?_
    try go_wp2
    (try simp only [← hl5_2])
    go_roundg k2
    case measure => have := HK1.out; have := HK2.out; omega
    case rel => exact ⟨(x5_2), (x6_2), (wrap64 (x23_2 + 1)), (by first | rfl | (simp; done) | (simp [*]; done)), (by first | rfl | (simp; done) | (simp [*]; done)), H', ⟨by have := HK1.out; have := HK2.out; omega⟩, ⟨by (try simp only [hl5_1]); (try simp only [hl5_2]); (with_reducible repeat (first | apply Kd.R_alloc | apply Kd.R_drewN | apply Kd.R_drew)); exact Kd.R_mono HO_5.out (fun _ hk => trivial)⟩, ⟨by (try simp only [hl5_1]); (try simp only [hl5_2]); (with_reducible repeat (first | refine blk_drewN ?_ _ | refine blk_drew ?_ | refine blk_alloc ?_ _)); exact BK261.out⟩, ⟨bl3 HB GE261 GE270 GE272⟩⟩
   subst c33
   rw [if_pos rfl] at H
   obtain ⟨y275, hy275⟩ : ∃ y_ : List (S114), y_ = (x5_2.set (((rd_T58 l0_1 x23_2).f0) : Int).toNat (⟨wrap64 (((rd_T114 x5_2 ((rd_T58 l0_1 x23_2).f1)).f0) + ((rd_T58 l0_1 x23_2).f2)), wrap64 (((rd_T114 x5_2 ((rd_T58 l0_1 x23_2).f1)).f1) + 1)⟩ : S114)) := ⟨_, rfl⟩
   replace H : (impl_Net_toward.l1 k2 y275 true l0_1 (l0_1.length : Int) (wrap64 (x23_2 + 1)) a0_0 l0_1) = some r := by first | (rw [hy275]; with_reducible exact H) | (have H2_ := (Option.bind_some _ _).symm.trans H; rw [hy275]; with_reducible exact H2_) | (have H2_ := (Option.bind_some _ _).symm.trans H; with_reducible exact H2_) | with_reducible exact H | (rw [hy275]; exact H) | exact H
   have Ny275 := ak hy275
   clear hy275
   have H' := ak H
   clear H
   have p269 : 0 ≤ (x23_2 : Int) := oT (by first | (with_reducible assumption) | assumption)
   have q269 : x23_2 < (l0_1.length : Int) := oT (by first | (with_reducible assumption) | assumption)
   obtain ⟨ad269, e269, hx269_0, hx269_1, hx269_2, hx269_3, hx269_4⟩ := at_T58 HR0_1.out x23_2 p269 q269
   cases e269
   replace hx269_0 := hcb HB.out hx269_0
   replace hx269_1 := hcb HB.out hx269_1
   replace hx269_2 := hcb HB.out hx269_2
   replace hx269_3 := hcb HB.out hx269_3
   replace hx269_4 := hcb HB.out hx269_4
   replace p269 := eq_true p269
   replace q269 := eq_true q269
   try go_wp2_with (first | ((with_reducible refine gate_dst (N := 8) rfl ?_); refine box_event ?hg (N := 8) ?hd (cs := #[.int .i64 0, .int .i64 0, .int .i64 0, .int .i64 0, .int .i64 0]) (t := 58) ?hr ?_; (case hd => rfl); (case hg => rfl); (case hr => first | (go_simp; done) | (go_simp; rfl)); intro gb270 hg w35 hbox hb; replace HO_5 := ak (Kd.R_below (rk HO_5) hb); have BK270 := ak (hbox); have GW270 := ak ((by rw [hg]; exact (below_size (bl1 HB GE261)) : w.heap.size ≤ gb270)); have GE270 := ak ((by rw [hg]; exact (below_size (bl1 HB GE261)) : w.heap.size ≤ gb270)); replace HB := ak (below_step (bl1 HB GE261) hb); have NB261_270 := ak ((by rw [hg]; exact Nat.ne_of_lt (blk_lt (bk BK261)) : gb261 ≠ gb270)); have NB270_261 := ak ((by rw [hg]; exact Nat.ne_of_gt (blk_lt (bk BK261)) : gb270 ≠ gb261)); replace BK261 := ak (blk_below (bk BK261) hb); clear hb hbox hg; have hnb36 := NB270_261.out; have hnc36 := NB261_270.out; have hcz37_0 := bc w35 BK270 0 (.int .i64 0) rfl; have hcz37_1 := bc w35 BK270 1 (.int .i64 0) rfl; have hcz37_2 := bc w35 BK270 2 (.int .i64 0) rfl; have hcz37_3 := bc w35 BK270 3 (.int .i64 0) rfl; have hcz37_4 := bc w35 BK270 4 (.int .i64 0) rfl; have hfz37_0 := fz BK270 0; have hfz37_1 := fz BK270 1; have hfz37_2 := fz BK270 2; have hfz37_3 := fz BK270 3; have hfz37_4 := fz BK270 4; have p271 : 0 ≤ (((rd_T58 l0_1 x23_2).f1) : Int) := oT (by first | (with_reducible assumption) | assumption); have q271 : ((rd_T58 l0_1 x23_2).f1) < (x5_2.length : Int) := oT (by first | (with_reducible assumption) | assumption); obtain ⟨ad271, e271, hx271_0, hx271_1⟩ := at_T114 (Kd.R_reads' HO_5.out).2.2 ((rd_T58 l0_1 x23_2).f1) p271 q271; obtain rfl : (⟨go6, 0, none⟩ : Addr) = ad271 := (by injection e271); (first | simp only [add_plain] at hx271_0 | simp only [add_at] at hx271_0 | simp only [Addr.add, Nat.zero_add] at hx271_0 | skip); (first | simp only [add_plain] at hx271_1 | simp only [add_at] at hx271_1 | simp only [Addr.add, Nat.zero_add] at hx271_1 | skip); have hn271_0 : (⟨go6, 0, none⟩ : Addr).block ≠ gb270 := Kd.own_blk (Kd.R_ne HO_5.out BK270.out (by decide)); have hn271_1 : (⟨go6, 0, none⟩ : Addr).block ≠ gb270 := Kd.own_blk (Kd.R_ne HO_5.out BK270.out (by decide)); have hn271_2 : (⟨go6, 0, none⟩ : Addr).block ≠ gb270 := Kd.own_blk (Kd.R_ne HO_5.out BK270.out (by decide)); have hn271_3 : (⟨go6, 0, none⟩ : Addr).block ≠ gb270 := Kd.own_blk (Kd.R_ne HO_5.out BK270.out (by decide)); have hn271_4 : (⟨go6, 0, none⟩ : Addr).block ≠ gb270 := Kd.own_blk (Kd.R_ne HO_5.out BK270.out (by decide)); replace hx271_0 := (cell_far (p := ⟨gb270, 0, none⟩) (by first | (rw [add_block]; exact hn271_0) | (show (Addr.add _ _).block ≠ _; rw [add_block]; exact hn271_0) | exact hn271_0) (.int .i64 ((rd_T58 l0_1 x23_2).f0))).trans hx271_0; replace hx271_1 := (cell_far (p := ⟨gb270, 0, none⟩) (by first | (rw [add_block]; exact hn271_0) | (show (Addr.add _ _).block ≠ _; rw [add_block]; exact hn271_0) | exact hn271_0) (.int .i64 ((rd_T58 l0_1 x23_2).f0))).trans hx271_1; replace hx271_0 := (cell_far (p := ⟨gb270, 1, none⟩) (by first | (rw [add_block]; exact hn271_1) | (show (Addr.add _ _).block ≠ _; rw [add_block]; exact hn271_1) | exact hn271_1) (.int .i64 ((rd_T58 l0_1 x23_2).f1))).trans hx271_0; replace hx271_1 := (cell_far (p := ⟨gb270, 1, none⟩) (by first | (rw [add_block]; exact hn271_1) | (show (Addr.add _ _).block ≠ _; rw [add_block]; exact hn271_1) | exact hn271_1) (.int .i64 ((rd_T58 l0_1 x23_2).f1))).trans hx271_1; replace hx271_0 := (cell_far (p := ⟨gb270, 2, none⟩) (by first | (rw [add_block]; exact hn271_2) | (show (Addr.add _ _).block ≠ _; rw [add_block]; exact hn271_2) | exact hn271_2) (.int .i64 ((rd_T58 l0_1 x23_2).f2))).trans hx271_0; replace hx271_1 := (cell_far (p := ⟨gb270, 2, none⟩) (by first | (rw [add_block]; exact hn271_2) | (show (Addr.add _ _).block ≠ _; rw [add_block]; exact hn271_2) | exact hn271_2) (.int .i64 ((rd_T58 l0_1 x23_2).f2))).trans hx271_1; replace hx271_0 := (cell_far (p := ⟨gb270, 3, none⟩) (by first | (rw [add_block]; exact hn271_3) | (show (Addr.add _ _).block ≠ _; rw [add_block]; exact hn271_3) | exact hn271_3) (.int .i64 ((rd_T58 l0_1 x23_2).f3))).trans hx271_0; replace hx271_1 := (cell_far (p := ⟨gb270, 3, none⟩) (by first | (rw [add_block]; exact hn271_3) | (show (Addr.add _ _).block ≠ _; rw [add_block]; exact hn271_3) | exact hn271_3) (.int .i64 ((rd_T58 l0_1 x23_2).f3))).trans hx271_1; replace hx271_0 := (cell_far (p := ⟨gb270, 4, none⟩) (by first | (rw [add_block]; exact hn271_4) | (show (Addr.add _ _).block ≠ _; rw [add_block]; exact hn271_4) | exact hn271_4) (.int .i64 ((rd_T58 l0_1 x23_2).f4))).trans hx271_0; replace hx271_1 := (cell_far (p := ⟨gb270, 4, none⟩) (by first | (rw [add_block]; exact hn271_4) | (show (Addr.add _ _).block ≠ _; rw [add_block]; exact hn271_4) | exact hn271_4) (.int .i64 ((rd_T58 l0_1 x23_2).f4))).trans hx271_1; clear hn271_0; clear hn271_1; clear hn271_2; clear hn271_3; clear hn271_4; replace p271 := eq_true p271; replace q271 := eq_true q271) | ((with_reducible refine gate_dst (N := 9) rfl ?_); refine box_event ?hg (N := 9) ?hd (cs := #[.int .i64 0, .int .i64 0]) (t := 114) ?hr ?_; (case hd => rfl); (case hg => rfl); (case hr => first | (go_simp; done) | (go_simp; rfl)); intro gb272 hg w38 hbox hb; replace HO_5 := ak (Kd.R_below (Kd.R_elderB (by (with_reducible repeat (first | apply Kd.R_alloc | apply Kd.R_drewN | apply Kd.R_drew)); exact (Kd.R_mono (Kd.R_far (p := ⟨gb270, 4, none⟩) (Kd.R_far (p := ⟨gb270, 3, none⟩) (Kd.R_far (p := ⟨gb270, 2, none⟩) (Kd.R_far (p := ⟨gb270, 1, none⟩) (Kd.R_far (p := ⟨gb270, 0, none⟩) (Kd.R_types HO_5.out BK270.out (by decide)) (fun _ hk => hk.2) (.int .i64 ((rd_T58 l0_1 x23_2).f0))) (fun _ hk => hk.2) (.int .i64 ((rd_T58 l0_1 x23_2).f1))) (fun _ hk => hk.2) (.int .i64 ((rd_T58 l0_1 x23_2).f2))) (fun _ hk => hk.2) (.int .i64 ((rd_T58 l0_1 x23_2).f3))) (fun _ hk => hk.2) (.int .i64 ((rd_T58 l0_1 x23_2).f4))) (fun _ h_ => h_.1))) gb272 (Nat.le_of_eq hg.symm)) hb); have BK272 := ak (hbox); have GW272 := ak ((by rw [hg]; exact (below_size (bl2 HB GE261 GE270)) : w.heap.size ≤ gb272)); have GE272 := ak ((by rw [hg]; exact (below_size (bl2 HB GE261 GE270)) : w.heap.size ≤ gb272)); replace HB := ak (below_step (bl2 HB GE261 GE270) hb); have NB261_272 := ak ((by rw [hg]; exact Nat.ne_of_lt (blk_lt (g := gb261) (o := .cells #[.int .i64 a0_0, .slice (some ad269) l0_1.length c0_1] 25 (0, 0)) (by (with_reducible repeat (first | refine blk_drewN ?_ _ | refine blk_drew ?_ | refine blk_alloc ?_ _)); refine blk_far ?_ NB261_270.out _; refine blk_far ?_ NB261_270.out _; refine blk_far ?_ NB261_270.out _; refine blk_far ?_ NB261_270.out _; refine blk_far ?_ NB261_270.out _; (with_reducible repeat (first | refine blk_drewN ?_ _ | refine blk_drew ?_ | refine blk_alloc ?_ _)); exact BK261.out)) : gb261 ≠ gb272)); have NB272_261 := ak ((by rw [hg]; exact Nat.ne_of_gt (blk_lt (g := gb261) (o := .cells #[.int .i64 a0_0, .slice (some ad269) l0_1.length c0_1] 25 (0, 0)) (by (with_reducible repeat (first | refine blk_drewN ?_ _ | refine blk_drew ?_ | refine blk_alloc ?_ _)); refine blk_far ?_ NB261_270.out _; refine blk_far ?_ NB261_270.out _; refine blk_far ?_ NB261_270.out _; refine blk_far ?_ NB261_270.out _; refine blk_far ?_ NB261_270.out _; (with_reducible repeat (first | refine blk_drewN ?_ _ | refine blk_drew ?_ | refine blk_alloc ?_ _)); exact BK261.out)) : gb272 ≠ gb261)); replace BK261 := ak (blk_below (g := gb261) (o := .cells #[.int .i64 a0_0, .slice (some ad269) l0_1.length c0_1] 25 (0, 0)) (by (with_reducible repeat (first | refine blk_drewN ?_ _ | refine blk_drew ?_ | refine blk_alloc ?_ _)); refine blk_far ?_ NB261_270.out _; refine blk_far ?_ NB261_270.out _; refine blk_far ?_ NB261_270.out _; refine blk_far ?_ NB261_270.out _; refine blk_far ?_ NB261_270.out _; (with_reducible repeat (first | refine blk_drewN ?_ _ | refine blk_drew ?_ | refine blk_alloc ?_ _)); exact BK261.out) hb); have NB270_272 := ak ((by rw [hg]; exact Nat.ne_of_lt (blk_lt (g := gb270) (o := .cells #[.int .i64 ((rd_T58 l0_1 x23_2).f0), .int .i64 ((rd_T58 l0_1 x23_2).f1), .int .i64 ((rd_T58 l0_1 x23_2).f2), .int .i64 ((rd_T58 l0_1 x23_2).f3), .int .i64 ((rd_T58 l0_1 x23_2).f4)] 58 (0, 0)) (by (with_reducible repeat (first | refine blk_drewN ?_ _ | refine blk_drew ?_ | refine blk_alloc ?_ _)); refine blk_put (cs := #[.int .i64 ((rd_T58 l0_1 x23_2).f0), .int .i64 ((rd_T58 l0_1 x23_2).f1), .int .i64 ((rd_T58 l0_1 x23_2).f2), .int .i64 ((rd_T58 l0_1 x23_2).f3), .int .i64 0]) ?_ 4 _ rfl; refine blk_put (cs := #[.int .i64 ((rd_T58 l0_1 x23_2).f0), .int .i64 ((rd_T58 l0_1 x23_2).f1), .int .i64 ((rd_T58 l0_1 x23_2).f2), .int .i64 0, .int .i64 0]) ?_ 3 _ rfl; refine blk_put (cs := #[.int .i64 ((rd_T58 l0_1 x23_2).f0), .int .i64 ((rd_T58 l0_1 x23_2).f1), .int .i64 0, .int .i64 0, .int .i64 0]) ?_ 2 _ rfl; refine blk_put (cs := #[.int .i64 ((rd_T58 l0_1 x23_2).f0), .int .i64 0, .int .i64 0, .int .i64 0, .int .i64 0]) ?_ 1 _ rfl; refine blk_put (cs := #[.int .i64 0, .int .i64 0, .int .i64 0, .int .i64 0, .int .i64 0]) ?_ 0 _ rfl; (with_reducible repeat (first | refine blk_drewN ?_ _ | refine blk_drew ?_ | refine blk_alloc ?_ _)); exact BK270.out)) : gb270 ≠ gb272)); have NB272_270 := ak ((by rw [hg]; exact Nat.ne_of_gt (blk_lt (g := gb270) (o := .cells #[.int .i64 ((rd_T58 l0_1 x23_2).f0), .int .i64 ((rd_T58 l0_1 x23_2).f1), .int .i64 ((rd_T58 l0_1 x23_2).f2), .int .i64 ((rd_T58 l0_1 x23_2).f3), .int .i64 ((rd_T58 l0_1 x23_2).f4)] 58 (0, 0)) (by (with_reducible repeat (first | refine blk_drewN ?_ _ | refine blk_drew ?_ | refine blk_alloc ?_ _)); refine blk_put (cs := #[.int .i64 ((rd_T58 l0_1 x23_2).f0), .int .i64 ((rd_T58 l0_1 x23_2).f1), .int .i64 ((rd_T58 l0_1 x23_2).f2), .int .i64 ((rd_T58 l0_1 x23_2).f3), .int .i64 0]) ?_ 4 _ rfl; refine blk_put (cs := #[.int .i64 ((rd_T58 l0_1 x23_2).f0), .int .i64 ((rd_T58 l0_1 x23_2).f1), .int .i64 ((rd_T58 l0_1 x23_2).f2), .int .i64 0, .int .i64 0]) ?_ 3 _ rfl; refine blk_put (cs := #[.int .i64 ((rd_T58 l0_1 x23_2).f0), .int .i64 ((rd_T58 l0_1 x23_2).f1), .int .i64 0, .int .i64 0, .int .i64 0]) ?_ 2 _ rfl; refine blk_put (cs := #[.int .i64 ((rd_T58 l0_1 x23_2).f0), .int .i64 0, .int .i64 0, .int .i64 0, .int .i64 0]) ?_ 1 _ rfl; refine blk_put (cs := #[.int .i64 0, .int .i64 0, .int .i64 0, .int .i64 0, .int .i64 0]) ?_ 0 _ rfl; (with_reducible repeat (first | refine blk_drewN ?_ _ | refine blk_drew ?_ | refine blk_alloc ?_ _)); exact BK270.out)) : gb272 ≠ gb270)); replace BK270 := ak (blk_below (g := gb270) (o := .cells #[.int .i64 ((rd_T58 l0_1 x23_2).f0), .int .i64 ((rd_T58 l0_1 x23_2).f1), .int .i64 ((rd_T58 l0_1 x23_2).f2), .int .i64 ((rd_T58 l0_1 x23_2).f3), .int .i64 ((rd_T58 l0_1 x23_2).f4)] 58 (0, 0)) (by (with_reducible repeat (first | refine blk_drewN ?_ _ | refine blk_drew ?_ | refine blk_alloc ?_ _)); refine blk_put (cs := #[.int .i64 ((rd_T58 l0_1 x23_2).f0), .int .i64 ((rd_T58 l0_1 x23_2).f1), .int .i64 ((rd_T58 l0_1 x23_2).f2), .int .i64 ((rd_T58 l0_1 x23_2).f3), .int .i64 0]) ?_ 4 _ rfl; refine blk_put (cs := #[.int .i64 ((rd_T58 l0_1 x23_2).f0), .int .i64 ((rd_T58 l0_1 x23_2).f1), .int .i64 ((rd_T58 l0_1 x23_2).f2), .int .i64 0, .int .i64 0]) ?_ 3 _ rfl; refine blk_put (cs := #[.int .i64 ((rd_T58 l0_1 x23_2).f0), .int .i64 ((rd_T58 l0_1 x23_2).f1), .int .i64 0, .int .i64 0, .int .i64 0]) ?_ 2 _ rfl; refine blk_put (cs := #[.int .i64 ((rd_T58 l0_1 x23_2).f0), .int .i64 0, .int .i64 0, .int .i64 0, .int .i64 0]) ?_ 1 _ rfl; refine blk_put (cs := #[.int .i64 0, .int .i64 0, .int .i64 0, .int .i64 0, .int .i64 0]) ?_ 0 _ rfl; (with_reducible repeat (first | refine blk_drewN ?_ _ | refine blk_drew ?_ | refine blk_alloc ?_ _)); exact BK270.out) hb); clear hb hbox hg; have hnb39 := NB272_261.out; have hnc39 := NB261_272.out; have hnb40 := NB272_270.out; have hnc40 := NB270_272.out; have hcz41_0 := bc w38 BK272 0 (.int .i64 0) rfl; have hcz41_1 := bc w38 BK272 1 (.int .i64 0) rfl; have hfz41_0 := fz BK272 0; have hfz41_1 := fz BK272 1; have hcz42_0 := bc w38 BK270 0 (.int .i64 ((rd_T58 l0_1 x23_2).f0)) rfl; have hcz42_1 := bc w38 BK270 1 (.int .i64 ((rd_T58 l0_1 x23_2).f1)) rfl; have hcz42_2 := bc w38 BK270 2 (.int .i64 ((rd_T58 l0_1 x23_2).f2)) rfl; have hcz42_3 := bc w38 BK270 3 (.int .i64 ((rd_T58 l0_1 x23_2).f3)) rfl; have hcz42_4 := bc w38 BK270 4 (.int .i64 ((rd_T58 l0_1 x23_2).f4)) rfl; have hfz42_0 := fz BK270 0; have hfz42_1 := fz BK270 1; have hfz42_2 := fz BK270 2; have hfz42_3 := fz BK270 3; have hfz42_4 := fz BK270 4))
   have n0_ : Aside0 (Kd.R k114 114 ((((w38.setCell ⟨gb272, 0, none⟩ (.int .i64 ((rd_T114 x5_2 ((rd_T58 l0_1 x23_2).f1)).f0))).setCell ⟨gb272, 1, none⟩ (.int .i64 ((rd_T114 x5_2 ((rd_T58 l0_1 x23_2).f1)).f1))).setCell ⟨gb272, 0, none⟩ (.int .i64 (wrap64 (((rd_T114 x5_2 ((rd_T58 l0_1 x23_2).f1)).f0) + ((rd_T58 l0_1 x23_2).f2))))).setCell ⟨gb272, 1, none⟩ (.int .i64 (wrap64 (((rd_T114 x5_2 ((rd_T58 l0_1 x23_2).f1)).f1) + 1)))) w.heap.size (fun k_ => k_ ≠ gb272) (.slice (some ⟨go6, 0, none⟩) x5_2.length co6) x5_2) := ⟨by (with_reducible repeat (first | apply Kd.R_alloc | apply Kd.R_drewN | apply Kd.R_drew)); exact Kd.R_mono (Kd.R_far (p := ⟨gb272, 1, none⟩) (Kd.R_far (p := ⟨gb272, 0, none⟩) (Kd.R_far (p := ⟨gb272, 1, none⟩) (Kd.R_far (p := ⟨gb272, 0, none⟩) (Kd.R_mono HO_5.out (fun k_ hk => (⟨hk, hk.2⟩ : _ ∧ k_ ≠ gb272))) (fun _ hk => hk.2) (.int .i64 ((rd_T114 x5_2 ((rd_T58 l0_1 x23_2).f1)).f0))) (fun _ hk => hk.2) (.int .i64 ((rd_T114 x5_2 ((rd_T58 l0_1 x23_2).f1)).f1))) (fun _ hk => hk.2) (.int .i64 (wrap64 (((rd_T114 x5_2 ((rd_T58 l0_1 x23_2).f1)).f0) + ((rd_T58 l0_1 x23_2).f2))))) (fun _ hk => hk.2) (.int .i64 (wrap64 (((rd_T114 x5_2 ((rd_T58 l0_1 x23_2).f1)).f1) + 1)))) (fun _ hk => hk.1.2)⟩
   have n1_ : Aside0 (((((w38.setCell ⟨gb272, 0, none⟩ (.int .i64 ((rd_T114 x5_2 ((rd_T58 l0_1 x23_2).f1)).f0))).setCell ⟨gb272, 1, none⟩ (.int .i64 ((rd_T114 x5_2 ((rd_T58 l0_1 x23_2).f1)).f1))).setCell ⟨gb272, 0, none⟩ (.int .i64 (wrap64 (((rd_T114 x5_2 ((rd_T58 l0_1 x23_2).f1)).f0) + ((rd_T58 l0_1 x23_2).f2))))).setCell ⟨gb272, 1, none⟩ (.int .i64 (wrap64 (((rd_T114 x5_2 ((rd_T58 l0_1 x23_2).f1)).f1) + 1)))).heap[gb261]? = some (.cells #[.int .i64 a0_0, .slice (some ad269) l0_1.length c0_1] 25 (0, 0))) := ⟨by (with_reducible repeat (first | refine blk_drewN ?_ _ | refine blk_drew ?_ | refine blk_alloc ?_ _)); refine blk_far ?_ NB261_272.out _; refine blk_far ?_ NB261_272.out _; refine blk_far ?_ NB261_272.out _; refine blk_far ?_ NB261_272.out _; (with_reducible repeat (first | refine blk_drewN ?_ _ | refine blk_drew ?_ | refine blk_alloc ?_ _)); exact BK261.out⟩
   have n2_ : Aside0 (((((w38.setCell ⟨gb272, 0, none⟩ (.int .i64 ((rd_T114 x5_2 ((rd_T58 l0_1 x23_2).f1)).f0))).setCell ⟨gb272, 1, none⟩ (.int .i64 ((rd_T114 x5_2 ((rd_T58 l0_1 x23_2).f1)).f1))).setCell ⟨gb272, 0, none⟩ (.int .i64 (wrap64 (((rd_T114 x5_2 ((rd_T58 l0_1 x23_2).f1)).f0) + ((rd_T58 l0_1 x23_2).f2))))).setCell ⟨gb272, 1, none⟩ (.int .i64 (wrap64 (((rd_T114 x5_2 ((rd_T58 l0_1 x23_2).f1)).f1) + 1)))).heap[gb270]? = some (.cells #[.int .i64 ((rd_T58 l0_1 x23_2).f0), .int .i64 ((rd_T58 l0_1 x23_2).f1), .int .i64 ((rd_T58 l0_1 x23_2).f2), .int .i64 ((rd_T58 l0_1 x23_2).f3), .int .i64 ((rd_T58 l0_1 x23_2).f4)] 58 (0, 0))) := ⟨by (with_reducible repeat (first | refine blk_drewN ?_ _ | refine blk_drew ?_ | refine blk_alloc ?_ _)); refine blk_far ?_ NB270_272.out _; refine blk_far ?_ NB270_272.out _; refine blk_far ?_ NB270_272.out _; refine blk_far ?_ NB270_272.out _; (with_reducible repeat (first | refine blk_drewN ?_ _ | refine blk_drew ?_ | refine blk_alloc ?_ _)); exact BK270.out⟩
   have n3_ : Aside0 (((((w38.setCell ⟨gb272, 0, none⟩ (.int .i64 ((rd_T114 x5_2 ((rd_T58 l0_1 x23_2).f1)).f0))).setCell ⟨gb272, 1, none⟩ (.int .i64 ((rd_T114 x5_2 ((rd_T58 l0_1 x23_2).f1)).f1))).setCell ⟨gb272, 0, none⟩ (.int .i64 (wrap64 (((rd_T114 x5_2 ((rd_T58 l0_1 x23_2).f1)).f0) + ((rd_T58 l0_1 x23_2).f2))))).setCell ⟨gb272, 1, none⟩ (.int .i64 (wrap64 (((rd_T114 x5_2 ((rd_T58 l0_1 x23_2).f1)).f1) + 1)))).heap[gb272]? = some (.cells #[.int .i64 (wrap64 (((rd_T114 x5_2 ((rd_T58 l0_1 x23_2).f1)).f0) + ((rd_T58 l0_1 x23_2).f2))), .int .i64 (wrap64 (((rd_T114 x5_2 ((rd_T58 l0_1 x23_2).f1)).f1) + 1))] 114 (0, 0))) := ⟨by (with_reducible repeat (first | refine blk_drewN ?_ _ | refine blk_drew ?_ | refine blk_alloc ?_ _)); refine blk_put (cs := #[.int .i64 (wrap64 (((rd_T114 x5_2 ((rd_T58 l0_1 x23_2).f1)).f0) + ((rd_T58 l0_1 x23_2).f2))), .int .i64 ((rd_T114 x5_2 ((rd_T58 l0_1 x23_2).f1)).f1)]) ?_ 1 _ rfl; (with_reducible repeat (first | refine blk_drewN ?_ _ | refine blk_drew ?_ | refine blk_alloc ?_ _)); refine blk_put (cs := #[.int .i64 ((rd_T114 x5_2 ((rd_T58 l0_1 x23_2).f1)).f0), .int .i64 ((rd_T114 x5_2 ((rd_T58 l0_1 x23_2).f1)).f1)]) ?_ 0 _ rfl; (with_reducible repeat (first | refine blk_drewN ?_ _ | refine blk_drew ?_ | refine blk_alloc ?_ _)); refine blk_put (cs := #[.int .i64 ((rd_T114 x5_2 ((rd_T58 l0_1 x23_2).f1)).f0), .int .i64 0]) ?_ 1 _ rfl; (with_reducible repeat (first | refine blk_drewN ?_ _ | refine blk_drew ?_ | refine blk_alloc ?_ _)); refine blk_put (cs := #[.int .i64 0, .int .i64 0]) ?_ 0 _ rfl; (with_reducible repeat (first | refine blk_drewN ?_ _ | refine blk_drew ?_ | refine blk_alloc ?_ _)); exact BK272.out⟩
   have n4_ : Aside0 (Below w.heap.size w ((((w38.setCell ⟨gb272, 0, none⟩ (.int .i64 ((rd_T114 x5_2 ((rd_T58 l0_1 x23_2).f1)).f0))).setCell ⟨gb272, 1, none⟩ (.int .i64 ((rd_T114 x5_2 ((rd_T58 l0_1 x23_2).f1)).f1))).setCell ⟨gb272, 0, none⟩ (.int .i64 (wrap64 (((rd_T114 x5_2 ((rd_T58 l0_1 x23_2).f1)).f0) + ((rd_T58 l0_1 x23_2).f2))))).setCell ⟨gb272, 1, none⟩ (.int .i64 (wrap64 (((rd_T114 x5_2 ((rd_T58 l0_1 x23_2).f1)).f1) + 1))))) := ⟨bl3 HB GE261 GE270 GE272⟩
   (try clear HO_5)
   (try clear BK261)
   (try clear BK270)
   (try clear BK272)
   (try clear HB)
   generalize ((((w38.setCell ⟨gb272, 0, none⟩ (.int .i64 ((rd_T114 x5_2 ((rd_T58 l0_1 x23_2).f1)).f0))).setCell ⟨gb272, 1, none⟩ (.int .i64 ((rd_T114 x5_2 ((rd_T58 l0_1 x23_2).f1)).f1))).setCell ⟨gb272, 0, none⟩ (.int .i64 (wrap64 (((rd_T114 x5_2 ((rd_T58 l0_1 x23_2).f1)).f0) + ((rd_T58 l0_1 x23_2).f2))))).setCell ⟨gb272, 1, none⟩ (.int .i64 (wrap64 (((rd_T114 x5_2 ((rd_T58 l0_1 x23_2).f1)).f1) + 1)))) = w43 at n0_ n1_ n2_ n3_ n4_ ⊢
   have HO_5 := n0_
   have BK261 := n1_
   have BK270 := n2_
   have BK272 := n3_
   have HB := n4_
   clear n0_ n1_ n2_ n3_ n4_
   replace HO_5 := ak (Kd.R_drew HO_5.out)
   replace BK261 := ak (blk_drew BK261.out)
   replace BK270 := ak (blk_drew BK270.out)
   replace BK272 := ak (blk_drew BK272.out)
   replace HB := ak (below_drew1 HB.out)
   have p273 : 0 ≤ (((rd_T58 l0_1 x23_2).f0) : Int) := oT (by first | (with_reducible assumption) | assumption)
   have q273 : ((rd_T58 l0_1 x23_2).f0) < (x5_2.length : Int) := oT (by first | (with_reducible assumption) | assumption)
   obtain ⟨ad273, e273, hx273_0, hx273_1⟩ := at_T114 (Kd.R_reads' HO_5.out).2.2 ((rd_T58 l0_1 x23_2).f0) p273 q273
   obtain rfl : (⟨go6, 0, none⟩ : Addr) = ad273 := (by injection e273)
   (first | simp only [add_plain] at hx273_0 | simp only [add_at] at hx273_0 | simp only [Addr.add, Nat.zero_add] at hx273_0 | skip)
   (first | simp only [add_plain] at hx273_1 | simp only [add_at] at hx273_1 | simp only [Addr.add, Nat.zero_add] at hx273_1 | skip)
   replace p273 := eq_true p273
   replace q273 := eq_true q273
   refine start_ (n := 7) (S := fun w' => w'.cell? ⟨gb272, 0, none⟩ = some (.int .i64 (wrap64 (((rd_T114 x5_2 ((rd_T58 l0_1 x23_2).f1)).f0) + ((rd_T58 l0_1 x23_2).f2)))) ∧ w'.cell? ⟨gb272, 1, none⟩ = some (.int .i64 (wrap64 (((rd_T114 x5_2 ((rd_T58 l0_1 x23_2).f1)).f1) + 1))) ∧ w'.cell? ⟨gb270, 0, none⟩ = some (.int .i64 ((rd_T58 l0_1 x23_2).f0)) ∧ w'.cell? ⟨gb270, 1, none⟩ = some (.int .i64 ((rd_T58 l0_1 x23_2).f1)) ∧ w'.cell? ⟨gb270, 2, none⟩ = some (.int .i64 ((rd_T58 l0_1 x23_2).f2)) ∧ w'.cell? ⟨gb270, 3, none⟩ = some (.int .i64 ((rd_T58 l0_1 x23_2).f3)) ∧ w'.cell? ⟨gb270, 4, none⟩ = some (.int .i64 ((rd_T58 l0_1 x23_2).f4)) ∧ w'.cell? ⟨go6, (((rd_T58 l0_1 x23_2).f0)).toNat * 2, none⟩ = some (.int .i64 ((rd_T114 x5_2 ((rd_T58 l0_1 x23_2).f0)).f0)) ∧ w'.cell? ⟨go6, (((rd_T58 l0_1 x23_2).f0)).toNat * 2 + 1, none⟩ = some (.int .i64 ((rd_T114 x5_2 ((rd_T58 l0_1 x23_2).f0)).f1))) (ds := []) #[false, false, false, false, false, false, false] (by kernel_rfl) rfl (by kernel_rfl) ⟨(blk_cell BK272.out 0).trans rfl, (blk_cell BK272.out 1).trans rfl, (blk_cell BK270.out 0).trans rfl, (blk_cell BK270.out 1).trans rfl, (blk_cell BK270.out 2).trans rfl, (blk_cell BK270.out 3).trans rfl, (blk_cell BK270.out 4).trans rfl, hx273_0, hx273_1⟩ (fun hHeld => ?_)
   generalize w43.drew = w44 at HO_5 BK261 BK270 BK272 HB hx273_0 hx273_1 hHeld ⊢
   refine pure_ (i := 1) (N := some 45) (v := ?_) (a' := ?_) #[false, true, false, false, false, false, false] rfl rfl (by kernel_rfl) (fun _ _ _ h => h) (Or.inl ⟨by rfl, ?_⟩) ?_ ?_
   rotate_left
   ·intro w'
    go_simp
    with_reducible rfl
   rotate_left
   ·simp only [SX]
    rfl
   refine pure_ (i := 2) (N := some 46) (v := ?_) (a' := ?_) #[false, true, true, false, false, false, false] rfl rfl (by kernel_rfl) (fun _ _ _ h => h) (Or.inl ⟨by rfl, ?_⟩) ?_ ?_
   rotate_left
   ·intro w'
    go_simp
    with_reducible rfl
   rotate_left
   ·simp only [SX]
    rfl
   refine take_ (i := 0) (N := some 44) (v := ?_) (a' := ?_) #[true, true, true, false, false, false, false] rfl rfl (by kernel_rfl) (fun _ _ _ h => h) (Or.inl ⟨by rfl, ?_⟩) hHeld ?_ ?_
   rotate_left
   ·rintro w' ⟨s0, s1, s2, s3, s4, s5, s6, s7, s8⟩
    go_simp
    with_reducible rfl
   rotate_left
   ·simp only [SX]
    rfl
   refine take_ (i := 3) (N := some 47) (v := ?_) (a' := ?_) #[true, true, true, true, false, false, false] rfl rfl (by kernel_rfl) (fun _ _ _ h => h) (Or.inl ⟨by rfl, ?_⟩) hHeld ?_ ?_
   rotate_left
   ·rintro w' ⟨s0, s1, s2, s3, s4, s5, s6, s7, s8⟩
    go_simp
    with_reducible rfl
   rotate_left
   ·simp only [SX]
    rfl
   refine pure_ (i := 4) (N := some 48) (v := ?_) (a' := ?_) #[true, true, true, true, true, false, false] rfl rfl (by kernel_rfl) (fun _ _ _ h => h) (Or.inl ⟨by rfl, ?_⟩) ?_ ?_
   rotate_left
   ·intro w'
    go_simp
    with_reducible rfl
   rotate_left
   ·simp only [SX]
    rfl
   refine take_ (i := 5) (N := some 49) (v := ?_) (a' := ?_) #[true, true, true, true, true, true, false] rfl rfl (by kernel_rfl) (fun _ _ _ h => h) (Or.inl ⟨by rfl, ?_⟩) hHeld ?_ ?_
   rotate_left
   ·rintro w' ⟨s0, s1, s2, s3, s4, s5, s6, s7, s8⟩
    go_simp
    with_reducible rfl
   rotate_left
   ·simp only [SX]
    rfl
   refine one_ (i := 6) (N := some 50) #[true, true, true, true, true, true, true] rfl rfl (by kernel_rfl) (by decide) (fun K hK => ?_)
   refine goes_ Try.func119 (by kernel_rfl) rfl #[.agg #[.int .i64 (wrap64 (((rd_T114 x5_2 ((rd_T58 l0_1 x23_2).f1)).f0) + ((rd_T58 l0_1 x23_2).f2))), .int .i64 (wrap64 (((rd_T114 x5_2 ((rd_T58 l0_1 x23_2).f1)).f1) + 1))], .agg #[.int .i64 ((rd_T114 x5_2 ((rd_T58 l0_1 x23_2).f0)).f0), .int .i64 ((rd_T114 x5_2 ((rd_T58 l0_1 x23_2).f0)).f1)]] (by rfl) rfl rfl (by (try simp only [List.map_toArray, List.map_cons, List.map_nil]); first | done | rfl | (simp only [List.length_drop, List.length_take]; rfl)) ?_
   with_reducible refine (impl_measure_less.calls (wrap64 (((rd_T114 x5_2 ((rd_T58 l0_1 x23_2).f1)).f0) + ((rd_T58 l0_1 x23_2).f2))) (wrap64 (((rd_T114 x5_2 ((rd_T58 l0_1 x23_2).f1)).f1) + 1)) ((rd_T114 x5_2 ((rd_T58 l0_1 x23_2).f0)).f0) ((rd_T114 x5_2 ((rd_T58 l0_1 x23_2).f0)).f1) true _ A32.out).mono ?_
   rintro e w45 ⟨rfl, hb⟩
   have HS7_ := (hb.cell (World.block_lt_of_cell? _ _ (hHeld.2.2.2.2.2.2.2.1))).trans (hHeld.2.2.2.2.2.2.2.1)
   have HS8_ := (hb.cell (World.block_lt_of_cell? _ _ (hHeld.2.2.2.2.2.2.2.2))).trans (hHeld.2.2.2.2.2.2.2.2)
   refine ⟨_, rfl, ?_⟩
   replace HO_5 := ak (Kd.R_below (rk HO_5) hb)
   replace BK261 := ak (blk_below (bk BK261) hb)
   replace BK270 := ak (blk_below (bk BK270) hb)
   replace BK272 := ak (blk_below (bk BK272) hb)
   replace HB := ak (below_step (bl3 HB GE261 GE270 GE272) hb)
   (try clear hb)
   (try clear hb2)
   (try clear hk)
   (try clear hi)
   refine hK.out _ _ ⟨(blk_cell BK272.out 0).trans rfl, (blk_cell BK272.out 1).trans rfl, (blk_cell BK270.out 0).trans rfl, (blk_cell BK270.out 1).trans rfl, (blk_cell BK270.out 2).trans rfl, (blk_cell BK270.out 3).trans rfl, (blk_cell BK270.out 4).trans rfl, HS7_, HS8_⟩ (fun hHeld => ?_)
   clear hK K
   refine norm_ (a' := ?_) ?_ ?_
   rotate_left
   ·show Act.put _ (some 50) _ = _
    simp only [SX]
    rfl
   refine done_ (by kernel_rfl) ?_
   have hcz46_0 := bc w45 BK270 0 (.int .i64 ((rd_T58 l0_1 x23_2).f0)) rfl
   have hcz46_1 := bc w45 BK270 1 (.int .i64 ((rd_T58 l0_1 x23_2).f1)) rfl
   have hcz46_2 := bc w45 BK270 2 (.int .i64 ((rd_T58 l0_1 x23_2).f2)) rfl
   have hcz46_3 := bc w45 BK270 3 (.int .i64 ((rd_T58 l0_1 x23_2).f3)) rfl
   have hcz46_4 := bc w45 BK270 4 (.int .i64 ((rd_T58 l0_1 x23_2).f4)) rfl
   have hfz46_0 := fz BK270 0
   have hfz46_1 := fz BK270 1
   have hfz46_2 := fz BK270 2
   have hfz46_3 := fz BK270 3
   have hfz46_4 := fz BK270 4
   have hcz47_0 := bc w45 BK272 0 (.int .i64 (wrap64 (((rd_T114 x5_2 ((rd_T58 l0_1 x23_2).f1)).f0) + ((rd_T58 l0_1 x23_2).f2)))) rfl
   have hcz47_1 := bc w45 BK272 1 (.int .i64 (wrap64 (((rd_T114 x5_2 ((rd_T58 l0_1 x23_2).f1)).f1) + 1))) rfl
   have hfz47_0 := fz BK272 0
   have hfz47_1 := fz BK272 1
   have p34 : 0 ≤ (((rd_T58 l0_1 x23_2).f0) : Int) := oT (by first | (with_reducible assumption) | assumption)
   have q34 : (((rd_T58 l0_1 x23_2).f0) : Int) < ((x5_2.length : Int) : Int) := oT (by first | (with_reducible assumption) | assumption)
   obtain ⟨ce34, hcl34, hM34, hcc34, hfr34⟩ := Kd.R_elem HO_5.out z114 (((rd_T58 l0_1 x23_2).f0) : Int) p34 q34
   obtain rfl := k114_openM hM34
   have hx34_0 : w45.cell? ⟨go6, (((rd_T58 l0_1 x23_2).f0) : Int).toNat * 2, none⟩ = some (.int .i64 ((rd_T114 x5_2 ((rd_T58 l0_1 x23_2).f0)).f0)) := hcc34 0 _ rfl
   have hx34_1 : w45.cell? ⟨go6, (((rd_T58 l0_1 x23_2).f0) : Int).toNat * 2 + 1, none⟩ = some (.int .i64 ((rd_T114 x5_2 ((rd_T58 l0_1 x23_2).f0)).f1)) := hcc34 1 _ rfl
   have hf34_0 : w45.frozen? ⟨go6, (((rd_T58 l0_1 x23_2).f0) : Int).toNat * 2, none⟩ = false := hfr34 0
   have hf34_1 : w45.frozen? ⟨go6, (((rd_T58 l0_1 x23_2).f0) : Int).toNat * 2 + 1, none⟩ = false := hfr34 1
   clear hcl34 hcc34 hfr34 hM34
   replace p34 := eq_true p34
   replace q34 := eq_true q34
   have HX48 := ak (show Kd.R k114 114 w45 w.heap.size (fun k_ => k_ ≠ gb272) (.slice (some ⟨go6, 0, none⟩) x5_2.length co6) x5_2 from (rk HO_5))
   obtain ⟨ce48, hcl48, hM48, hcc48, hfr48⟩ := Kd.R_elem HX48.out z114 (((rd_T58 l0_1 x23_2).f0) : Int) (oT (by first | (with_reducible assumption) | assumption)) (by have h_ : (((rd_T58 l0_1 x23_2).f0) : Int) < ((x5_2.length : Int) : Int) := oT (by first | (with_reducible assumption) | assumption); first | exact h_ | (have e_ := (Kd.R_reads' HO_5.out).1; omega) | simpa using h_)
   obtain rfl := k114_openM hM48
   have HP48 := Kd.R_seg HX48.out (((rd_T58 l0_1 x23_2).f0) : Int) (oT (by first | (with_reducible assumption) | assumption)) (by have h_ : (((rd_T58 l0_1 x23_2).f0) : Int) < ((x5_2.length : Int) : Int) := oT (by first | (with_reducible assumption) | assumption); first | exact h_ | (have e_ := (Kd.R_reads' HO_5.out).1; omega) | simpa using h_) (seg := [.int .i64 (wrap64 (((rd_T114 x5_2 ((rd_T58 l0_1 x23_2).f1)).f0) + ((rd_T58 l0_1 x23_2).f2))), .int .i64 (wrap64 (((rd_T114 x5_2 ((rd_T58 l0_1 x23_2).f1)).f1) + 1))]) (j := 0) hcl48 hcc48 (show 2 ≤ 2 from by decide) (x' := (⟨wrap64 (((rd_T114 x5_2 ((rd_T58 l0_1 x23_2).f1)).f0) + ((rd_T58 l0_1 x23_2).f2)), wrap64 (((rd_T114 x5_2 ((rd_T58 l0_1 x23_2).f1)).f1) + 1)⟩ : S114)) (k114_mkM _ _ _ (⟨wrap64 (((rd_T114 x5_2 ((rd_T58 l0_1 x23_2).f1)).f0) + ((rd_T58 l0_1 x23_2).f2)), wrap64 (((rd_T114 x5_2 ((rd_T58 l0_1 x23_2).f1)).f1) + 1)⟩ : S114) ) (fun _ hk => hk)
   have hx48_0 := hcc48 0 _ rfl
   (try simp only [show (k114).sz = 2 from rfl, Nat.mul_one, Nat.add_zero] at hx48_0)
   have hf48_0 := hfr48 0
   (try simp only [show (k114).sz = 2 from rfl, Nat.mul_one, Nat.add_zero] at hf48_0)
   have hx48_1 := hcc48 1 _ rfl
   (try simp only [show (k114).sz = 2 from rfl, Nat.mul_one, Nat.add_zero] at hx48_1)
   have hf48_1 := hfr48 1
   (try simp only [show (k114).sz = 2 from rfl, Nat.mul_one, Nat.add_zero] at hf48_1)
   clear hcl48 hcc48 hfr48 hM48
   try go_wp2_with (first | ((with_reducible refine gate_store (t := 114) (p := 55) rfl ?_); refine store_event (t := 114) (p := 55) (v := ?vo_w49) (w1 := ((w45.setCell ⟨go6, (((rd_T58 l0_1 x23_2).f0) : Int).toNat * 2, none⟩ (.int .i64 (wrap64 (((rd_T114 x5_2 ((rd_T58 l0_1 x23_2).f1)).f0) + ((rd_T58 l0_1 x23_2).f2))))).setCell ⟨go6, (((rd_T58 l0_1 x23_2).f0) : Int).toNat * 2 + 1, none⟩ (.int .i64 (wrap64 (((rd_T114 x5_2 ((rd_T58 l0_1 x23_2).f1)).f1) + 1))))) ?hg ?ho ?hn ?hr ?_; (case ho => rfl); (case hg => rfl); (case hn => rfl); (case hr => first | (go_simp; done) | (go_simp; rfl)); intro w49 hw; have hg : w45.grownBy w49 (some go6) := (by rw [hw]; exact HP48.2); have hp_ : Kd.R k114 114 w49 w.heap.size (fun k_ => k_ ≠ gb272) (.slice (some ⟨go6, 0, none⟩) x5_2.length co6) y275 := (by rw [hw, Ny275.out]; exact HP48.1); clear HP48; replace BK261 := ak (blk_grown (bk BK261) hg (Kd.R_ne HO_5.out BK261.out (by decide))); replace BK270 := ak (blk_grown (bk BK270) hg (Kd.R_ne HO_5.out BK270.out (by decide))); replace BK272 := ak (blk_grown (bk BK272) hg (Kd.R_away HO_5.out (fun _ hk => hk))); replace HO_5 := ak (hp_); replace HB := ak ((by rw [hw]; exact below_set (below_set (HB.out) GB6.out) GB6.out : Below w.heap.size w w49)); clear hg hw hp_))
   (try simp only [← hl5_2])
   go_roundg k2
   case measure => have := HK1.out; have := HK2.out; omega
   case rel => exact ⟨(y275), (true), (wrap64 (x23_2 + 1)), (by first | rfl | (simp; done) | (simp [*]; done)), (by first | rfl | (simp; done) | (simp [*]; done)), H', ⟨by have := HK1.out; have := HK2.out; omega⟩, ⟨by (try simp only [hl5_1]); (try simp only [hl5_2]); (with_reducible repeat (first | apply Kd.R_alloc | apply Kd.R_drewN | apply Kd.R_drew)); exact Kd.R_mono HO_5.out (fun _ hk => trivial)⟩, ⟨by (try simp only [hl5_1]); (try simp only [hl5_2]); (with_reducible repeat (first | refine blk_drewN ?_ _ | refine blk_drew ?_ | refine blk_alloc ?_ _)); exact BK261.out⟩, ⟨bl3 HB GE261 GE270 GE272⟩⟩

end Go.Proofs.Ytlgolgfcolnddaa.F
