-- Printed by wip/px/px.py of this claim's repository (the kit's printer, extended there). Lean checks it.
import Derived.Test.YtbappbbljncdeaaFKinds
import Derived.Test.YtbappbbljncdeaaFimplMeas
import Derived.Test.YtbappbbljncdeaaFimplMeas
namespace Go.Proofs.Ytbappbbljncdeaa.F
open Go.RowKit Go.Proofs.YtbappbbljncdeaaW.PrintWords Go.Proofs.YtbappbbljncdeaaW.PrintLast Go.Proofs.YtbappbbljncdeaaW.PrintMore
attribute [local go_sem] max2_int min2_int max_two min_two max_three min_three max_four min_four   -- for this text's walks alone
set_option linter.unusedVariables false
set_option linter.unusedSimpArgs false

/-! ### impl_Net_toward: function 130 -/
mutual
def impl_Net_toward.l0 : Nat → List (S144) → Bool → Int → List (S100) → Option ((List (S144)))
 | 0, _, _, _, _ => none
 | k + 1, x5, x6, x256000, x256001 => if x6 = true then (impl_Net_toward.l1 k x5 false x256001 (x256001.length : Int) 0 x256000 x256001) else (some x5)
def impl_Net_toward.l1 : Nat → List (S144) → Bool → List (S100) → Int → Int → Int → List (S100) → Option ((List (S144)))
 | 0, _, _, _, _, _, _, _ => none
 | k + 1, x5, x6, x21, x22, x23, x256000, x256001 => if x23 < x22 then (if 0 ≤ x23 then (if x23 < (x21.length : Int) then (if 0 ≤ ((rd_T100 x21 x23).f1) then (if ((rd_T100 x21 x23).f1) < (x5.length : Int) then (if ((rd_T144 x5 ((rd_T100 x21 x23).f1)).f0) = 99999 then (impl_Net_toward.l1 k x5 x6 x21 x22 (wrap64 (x23 + 1)) x256000 x256001) else (if 0 ≤ ((rd_T100 x21 x23).f0) then (if ((rd_T100 x21 x23).f0) < (x5.length : Int) then ((impl_measure_less.f (wrap64 (((rd_T144 x5 ((rd_T100 x21 x23).f1)).f0) + ((rd_T100 x21 x23).f2))) (wrap64 (((rd_T144 x5 ((rd_T100 x21 x23).f1)).f1) + 1)) ((rd_T144 x5 ((rd_T100 x21 x23).f0)).f0) ((rd_T144 x5 ((rd_T100 x21 x23).f0)).f1)).bind fun t268 => (if t268 = true then (impl_Net_toward.l1 k (x5.set (((rd_T100 x21 x23).f0) : Int).toNat (⟨wrap64 (((rd_T144 x5 ((rd_T100 x21 x23).f1)).f0) + ((rd_T100 x21 x23).f2)), wrap64 (((rd_T144 x5 ((rd_T100 x21 x23).f1)).f1) + 1)⟩ : S144)) true x21 x22 (wrap64 (x23 + 1)) x256000 x256001) else (impl_Net_toward.l1 k x5 x6 x21 x22 (wrap64 (x23 + 1)) x256000 x256001))) else (none)) else (none))) else (none)) else (none)) else (none)) else (none)) else (impl_Net_toward.l0 k x5 x6 x256000 x256001)
end
def impl_Net_toward.f (k : Nat) (a0_0 : Int) (l0_1 : List (S100)) (a1 : Int) : Option ((List (S144))) := (impl_measure.f (([(⟨99999, 0⟩ : S144)] : List (S144))) a0_0).bind fun t259 => (if 0 ≤ a1 then (if a1 < (t259.length : Int) then (impl_Net_toward.l0 k (t259.set (a1 : Int).toNat (⟨0, 0⟩ : S144)) true a0_0 l0_1) else (none)) else (none))
theorem impl_Net_toward.mono_l : ∀ k, (∀ y0 y1 y2 y3, LeO (impl_Net_toward.l0 k y0 y1 y2 y3) (impl_Net_toward.l0 (k + 1) y0 y1 y2 y3)) ∧ (∀ y0 y1 y2 y3 y4 y5 y6, LeO (impl_Net_toward.l1 k y0 y1 y2 y3 y4 y5 y6) (impl_Net_toward.l1 (k + 1) y0 y1 y2 y3 y4 y5 y6))
 | 0 => ⟨fun _ _ _ _ r h => by simp [impl_Net_toward.l0] at h, fun _ _ _ _ _ _ _ r h => by simp [impl_Net_toward.l1] at h⟩
 | k + 1 => by
  obtain ⟨ih0, ih1⟩ := impl_Net_toward.mono_l k
  refine ⟨?_, ?_⟩
  ·intro y0 y1 y2 y3
   unfold impl_Net_toward.l0
   repeat' first
   | (with_reducible exact ih0 _ _ _ _)
   | (with_reducible exact ih1 _ _ _ _ _ _ _)
   | (with_reducible exact LeO.refl _)
   | (with_reducible exact LeO.none _)
   | (with_reducible refine LeO.ite ?_ ?_)
   | (with_reducible refine LeO.bind ?_ (fun _ => ?_))
   | exact ih0 _ _ _ _
   | exact ih1 _ _ _ _ _ _ _
   | exact LeO.none _
   | refine LeO.ite ?_ ?_
   | refine LeO.bind ?_ (fun _ => ?_)
  ·intro y0 y1 y2 y3 y4 y5 y6
   unfold impl_Net_toward.l1
   repeat' first
   | (with_reducible exact ih0 _ _ _ _)
   | (with_reducible exact ih1 _ _ _ _ _ _ _)
   | (with_reducible exact LeO.refl _)
   | (with_reducible exact LeO.none _)
   | (with_reducible refine LeO.ite ?_ ?_)
   | (with_reducible refine LeO.bind ?_ (fun _ => ?_))
   | exact ih0 _ _ _ _
   | exact ih1 _ _ _ _ _ _ _
   | exact LeO.none _
   | refine LeO.ite ?_ ?_
   | refine LeO.bind ?_ (fun _ => ?_)
theorem impl_Net_toward.mono : ∀ a0 a1 a2 k, LeO (impl_Net_toward.f k a0 a1 a2) (impl_Net_toward.f (k + 1) a0 a1 a2) := by
 intro a0 a1 a2 k
 obtain ⟨ih0, ih1⟩ := impl_Net_toward.mono_l k
 unfold impl_Net_toward.f
 repeat' first
   | (with_reducible exact ih0 _ _ _ _)
   | (with_reducible exact ih1 _ _ _ _ _ _ _)
   | (with_reducible exact LeO.refl _)
   | (with_reducible exact LeO.none _)
   | (with_reducible refine LeO.ite ?_ ?_)
   | (with_reducible refine LeO.bind ?_ (fun _ => ?_))
   | exact ih0 _ _ _ _
   | exact ih1 _ _ _ _ _ _ _
   | exact LeO.none _
   | refine LeO.ite ?_ ?_
   | refine LeO.bind ?_ (fun _ => ?_)
set_option maxHeartbeats 8000000 in
set_option maxRecDepth 100000 in
theorem impl_Net_toward.calls (k : Nat) (a0_0 : Int) (A0_1 : Option Addr) (c0_1 : Nat) (l0_1 : List (S100)) (a1 : Int) (r : List (S144)) (w : World) (hr0_1 : Kd.C k100 w A0_1 l0_1.length l0_1) (hc0_1 : l0_1.length ≤ c0_1) (h : impl_Net_toward.f k a0_0 l0_1 a1 = some r) :
  Calls Try.prog 130 #[.agg #[.int .i64 a0_0, .slice A0_1 l0_1.length c0_1], .int .i64 a1] w fun e w' => ∃ v0_ : Value, e = .returned (v0_) ∧ Kd.R k144 144 w' w.heap.size (fun _ => True) v0_ r ∧ Below w.heap.size w w' := by
 have hu30 := Try.underlying30
 have hu144 := Try.underlying144
 have hu100 := Try.underlying100
 have HR0_1 := Aside0.mk hr0_1
 have HC0_1 := Aside0.mk hc0_1
 clear hr0_1 hc0_1
 have HB := Aside0.mk (Below.refl w.heap.size w)
 have H : ((impl_measure.f (([(⟨99999, 0⟩ : S144)] : List (S144))) a0_0).bind fun t259 => (if 0 ≤ a1 then (if a1 < (t259.length : Int) then (impl_Net_toward.l0 k (t259.set (a1 : Int).toNat (⟨0, 0⟩ : S144)) true a0_0 l0_1) else (none)) else (none))) = some r := h
 clear h
 obtain ⟨y256, hy256⟩ : ∃ y_ : List (S144), y_ = (([(⟨99999, 0⟩ : S144)] : List (S144))) := ⟨_, rfl⟩
 replace H : ((impl_measure.f y256 a0_0).bind fun t259 => (if 0 ≤ a1 then (if a1 < (t259.length : Int) then (impl_Net_toward.l0 k (t259.set (a1 : Int).toNat (⟨0, 0⟩ : S144)) true a0_0 l0_1) else (none)) else (none))) = some r := by first | (rw [hy256]; with_reducible exact H) | (have H2_ := (Option.bind_some _ _).symm.trans H; rw [hy256]; with_reducible exact H2_) | (have H2_ := (Option.bind_some _ _).symm.trans H; with_reducible exact H2_) | with_reducible exact H | (rw [hy256]; exact H) | exact H
 have Ny256 := Aside0.mk hy256
 clear hy256
 replace H := Option.bind_eq_some_iff.mp H
 obtain ⟨t259, A30, H⟩ := H
 have A3 := Aside0.mk A30
 clear A30
 by_cases c4 : 0 ≤ a1
 rotate_left
 ·rw [if_neg c4] at H
  exact absurd H (by simp)
 rw [if_pos c4] at H
 have c4b0 : decide (0 ≤ a1) = true := decide_eq_true c4
 clear c4
 by_cases c5 : a1 < (t259.length : Int)
 rotate_left
 ·rw [if_neg c5] at H
  exact absurd H (by simp)
 rw [if_pos c5] at H
 have c5b0 : decide (a1 < (t259.length : Int)) = true := decide_eq_true c5
 clear c5
 obtain ⟨y262, hy262⟩ : ∃ y_ : List (S144), y_ = (t259.set (a1 : Int).toNat (⟨0, 0⟩ : S144)) := ⟨_, rfl⟩
 replace H : (impl_Net_toward.l0 k y262 true a0_0 l0_1) = some r := by first | (rw [hy262]; with_reducible exact H) | (have H2_ := (Option.bind_some _ _).symm.trans H; rw [hy262]; with_reducible exact H2_) | (have H2_ := (Option.bind_some _ _).symm.trans H; with_reducible exact H2_) | with_reducible exact H | (rw [hy262]; exact H) | exact H
 have Ny262 := Aside0.mk hy262
 clear hy262
 have H' := Aside0.mk H
 clear H
 go_enter Try.func130, Try.ntmps130
 go_wp2_with (first | ((with_reducible refine gate_dst (N := 2) rfl ?_); refine box_event ?hg (N := 2) ?hd (cs := #[.int .i64 a0_0, .slice A0_1 l0_1.length c0_1]) (t := 30) ?hr ?_; (case hd => rfl); (case hg => rfl); (case hr => first | (go_simp; done) | (go_simp; rfl)); intro gb255 hg w7 hbox hb; have BK255 := Aside0.mk (hbox); have GW255 := Aside0.mk ((by rw [hg]; exact (below_size (bl HB)) : w.heap.size ≤ gb255)); have GE255 := Aside0.mk ((by rw [hg]; exact (below_size (bl HB)) : w.heap.size ≤ gb255)); replace HB := Aside0.mk (below_step (bl HB) hb); clear hb hbox hg) | ((with_reducible refine gate_dst (N := 11) rfl ?_); refine Kd.R_lit k144 _ 144 ?hg (N := 11) ?hd (xs := ([(⟨99999, 0⟩ : S144)] : List (S144))) (inner := [.int .i64 99999, .int .i64 0]) (ok := fun _ => True) (okp := fun _ => True) ?hr ?hp (fun _ hk => hk) trivial (Below.refl _ _) (Nat.le_refl _) (by simp) ?_; (case hd => rfl); (case hg => rfl); (case hr => first | (go_simp; done) | (go_simp; rfl)); (case hp => exact (Reps.c2 (show Kd.M k144 _ _ _ (⟨99999, 0⟩ : S144) [.int .i64 99999, .int .i64 0] from (k144_mkM _ _ _ (⟨99999, 0⟩ : S144) )) (Reps.none _ _))); intro v257 w8 ho9 hb hg_ hnew_; clear hg_ hnew_; (first | rw [← Ny256.out] at ho9 | (simp only [Int.reduceToNat] at ho9; rw [← Ny256.out] at ho9)); have HO258 := Aside0.mk (Kd.R_lower ho9 (below_size (bl1 HB GE255))); replace BK255 := Aside0.mk (blk_below (bk BK255) hb); replace HB := Aside0.mk (below_step (bl1 HB GE255) hb); clear hb ho9; have hcz10_0 : w8.cell? ⟨gb255, 0, none⟩ = some (.int .i64 a0_0) := (blk_cell BK255.out 0).trans rfl; have hcz10_1 : w8.cell? ⟨gb255, 1, none⟩ = some (.slice A0_1 l0_1.length c0_1) := (blk_cell BK255.out 1).trans rfl; have hfz10_0 := blk_frozen BK255.out 0; have hfz10_1 := blk_frozen BK255.out 1; obtain ⟨Ao11, co11, eo11⟩ := Kd.R_slice HO258.out; subst eo11) | ((with_reducible refine gate_callee (f := 152) rfl ?_); refine goesL_ (some 14) rfl rfl Try.func152 (by kernel_rfl) rfl #[.slice Ao11 y256.length co11, .int .i64 a0_0] rfl (by (try simp only [List.map_toArray, List.map_cons, List.map_nil]); first | done | rfl | (simp only [List.length_drop, List.length_take]; rfl)) ?_; (with_reducible refine (impl_measure.calls _ _ y256 a0_0 t259 _ ?side1 ?side2 A3.out).mono ?_); (case side1 => repeat (first | exact (Kd.R_reads' HO258.out).2.2 | (with_reducible refine Kd.C_alloc ?_ _) | (with_reducible refine Kd.C_drewN ?_ _) | (with_reducible refine Kd.C_drew ?_))); (case side2 => exact (Kd.R_reads' HO258.out).2.1); rintro e w12 ⟨v260, rfl, ho0, hb⟩; refine ⟨_, rfl, ?_⟩; have HO261 := Aside0.mk (Kd.R_lower (Kd.R_new' ho0 (Kd.R_lt (rk HO258))) (below_size (bl1 HB GE255))); replace HO258 := Aside0.mk (Kd.R_elder' (rk HO258) (Kd.R_base ho0) hb); replace BK255 := Aside0.mk (blk_below (bk BK255) hb); replace HB := Aside0.mk (below_step (bl1 HB GE255) hb); (try clear hb); (try clear hb2); (try clear hk); (try clear hi); (try clear ho0); have p6 : 0 ≤ (a1 : Int) := oT (by first | (with_reducible assumption) | assumption); have q6 : (a1 : Int) < ((t259.length : Int) : Int) := oT (by first | (with_reducible assumption) | assumption); obtain ⟨go6, co6, eo6, gb6, gl6, cl6, HG6⟩ := Kd.R_form HO261.out (by omega); (first | cases eo6 | (injection eo6 with ea_ en_ ec_; (first | subst ea_ | (injection ea_ with ea_; subst ea_)); subst ec_; clear en_)); have GB6 := Aside0.mk gb6; have GG6 := Aside0.mk HG6; clear gb6 gl6 HG6; obtain ⟨ce6, hcl6, hM6, hcc6, hfr6⟩ := Kd.R_elem HO261.out z144 (a1 : Int) p6 q6; obtain rfl := k144_openM hM6; have hx6_0 : w12.cell? ⟨go6, (a1 : Int).toNat * 2, none⟩ = some (.int .i64 ((rd_T144 t259 a1).f0)) := hcc6 0 _ rfl; have hx6_1 : w12.cell? ⟨go6, (a1 : Int).toNat * 2 + 1, none⟩ = some (.int .i64 ((rd_T144 t259 a1).f1)) := hcc6 1 _ rfl; have hf6_0 : w12.frozen? ⟨go6, (a1 : Int).toNat * 2, none⟩ = false := hfr6 0; have hf6_1 : w12.frozen? ⟨go6, (a1 : Int).toNat * 2 + 1, none⟩ = false := hfr6 1; clear hcl6 hcc6 hfr6 hM6; replace p6 := eq_true p6; replace q6 := eq_true q6; have n_ := Aside0.mk (Kd.R_mono (ok' := (fun k_ => some k_ ≠ (.slice Ao11 y256.length co11 : Value).ownBlock)) HO261.out (fun k_ hk => hk.2)); clear HO261; have HO261 := n_; clear n_; have HX13 := Aside0.mk (show Kd.R k144 144 w12 w.heap.size (fun k_ => some k_ ≠ (.slice Ao11 y256.length co11 : Value).ownBlock) (.slice (some ⟨go6, 0, none⟩) t259.length co6) t259 from (rk HO261)); obtain ⟨ce13, hcl13, hM13, hcc13, hfr13⟩ := Kd.R_elem HX13.out z144 (a1 : Int) (oT (by first | (with_reducible assumption) | assumption)) (by have h_ : (a1 : Int) < ((t259.length : Int) : Int) := oT (by first | (with_reducible assumption) | assumption); first | exact h_ | (have e_ := (Kd.R_reads' HO261.out).1; omega) | simpa using h_); obtain rfl := k144_openM hM13; have HP13 := Kd.R_seg HX13.out (a1 : Int) (oT (by first | (with_reducible assumption) | assumption)) (by have h_ : (a1 : Int) < ((t259.length : Int) : Int) := oT (by first | (with_reducible assumption) | assumption); first | exact h_ | (have e_ := (Kd.R_reads' HO261.out).1; omega) | simpa using h_) (seg := [.int .i64 0, .int .i64 0]) (j := 0) hcl13 hcc13 (show 2 ≤ 2 from by decide) (x' := (⟨0, 0⟩ : S144)) (k144_mkM _ _ _ (⟨0, 0⟩ : S144) ) (fun _ hk => hk); have hx13_0 := hcc13 0 _ rfl; (try simp only [show (k144).sz = 2 from rfl, Nat.mul_one, Nat.add_zero] at hx13_0); have hf13_0 := hfr13 0; (try simp only [show (k144).sz = 2 from rfl, Nat.mul_one, Nat.add_zero] at hf13_0); have hx13_1 := hcc13 1 _ rfl; (try simp only [show (k144).sz = 2 from rfl, Nat.mul_one, Nat.add_zero] at hx13_1); have hf13_1 := hfr13 1; (try simp only [show (k144).sz = 2 from rfl, Nat.mul_one, Nat.add_zero] at hf13_1); clear hcl13 hcc13 hfr13 hM13) | ((with_reducible refine gate_store (t := 144) (p := 18) rfl ?_); refine store_event (t := 144) (p := 18) (v := ?vo_w14) (w1 := ((w12.setCell ⟨go6, (a1 : Int).toNat * 2, none⟩ (.int .i64 0)).setCell ⟨go6, (a1 : Int).toNat * 2 + 1, none⟩ (.int .i64 0))) ?hg ?ho ?hn ?hr ?_; (case ho => rfl); (case hg => rfl); (case hn => rfl); (case hr => first | (go_simp; done) | (go_simp; rfl)); intro w14 hw; have hg : w12.grownBy w14 (some go6) := (by rw [hw]; exact HP13.2); have hp_ : Kd.R k144 144 w14 w.heap.size (fun k_ => some k_ ≠ (.slice Ao11 y256.length co11 : Value).ownBlock) (.slice (some ⟨go6, 0, none⟩) t259.length co6) y262 := (by rw [hw, Ny262.out]; exact HP13.1); clear HP13; replace BK255 := Aside0.mk (blk_grown (bk BK255) hg (Kd.R_ne HO261.out BK255.out (by decide))); replace HO258 := Aside0.mk (Kd.R_after (v := (.slice (some ⟨go6, 0, none⟩) t259.length co6)) (v1 := (.slice (some ⟨go6, 0, none⟩) t259.length co6)) (ok := (fun _ => True)) (rk HO258) hg (.inl rfl)); replace HO261 := Aside0.mk (hp_); replace HB := Aside0.mk ((by rw [hw]; exact below_set (below_set (HB.out) GB6.out) GB6.out : Below w.heap.size w w14)); clear hg hw hp_))
 go_loopg [6] k (fun kq v6 w' => ∃ (x5_1 : List (S144)) (x6_1 : Bool), v6 = .bool x6_1 ∧ Aside0 (impl_Net_toward.l0 kq x5_1 x6_1 a0_0 l0_1 = some r) ∧ Aside0 (kq ≤ k) ∧ Aside0 (Kd.R k144 144 w' w.heap.size (fun _ => True) (.slice (some ⟨go6, 0, none⟩) t259.length co6) x5_1) ∧ Aside0 (w'.heap[gb255]? = some (.cells #[.int .i64 a0_0, (.slice A0_1 l0_1.length c0_1)] 30 (0, 0))) ∧ Aside0 (Below w.heap.size w w'))
 case atStart => exact ⟨(y262), (true), (by first | rfl | (simp; done) | (simp [*]; done)), H', ⟨Nat.le_refl _⟩, ⟨by (with_reducible repeat (first | apply Kd.R_alloc | apply Kd.R_drewN | apply Kd.R_drew)); exact Kd.R_mono HO261.out (fun _ hk => trivial)⟩, ⟨bk BK255⟩, ⟨bl1 HB GE255⟩⟩
 clear H'
 try clear c1
 try clear hx1
 try clear c2
 try clear p2
 try clear c4
 try clear c4b0
 try clear c5
 try clear c5b0
 try clear c6
 try clear p6
 try clear q6
 try clear hx6
 try clear hf6
 try clear c13
 try clear hx13
 try clear hf13
 try clear hcz10_0
 try clear hcz10_1
 try clear hfz10_0
 try clear hfz10_1
 try clear hx13_0
 try clear hx13_1
 try clear hx6_0
 try clear hx6_1
 try clear p6
 try clear q6
 obtain ⟨x5_1, x6_1, rfl, HA, HK1, HO_5, BK255, HB⟩ := hrel
 have hl5_1 := (Kd.R_reads' HO_5.out).1
 rw [hl5_1] at HO_5
 (try simp only [hl5_1])
 (try simp only [hl5_1] at BK255)
 cases gk with
 | zero => exact absurd HA.out (by simp [impl_Net_toward.l0])
 | succ k1 =>
  have H := HA.out
  clear HA
  simp only [impl_Net_toward.l0] at H
  by_cases c15 : x6_1 = true
  rotate_left
  ·replace c15 := Bool.eq_false_iff.mpr c15
   subst c15
   rw [if_neg (show ¬ (false = true) by decide)] at H
   obtain rfl := Option.some.inj H
   go_wp2
   go_ret
   exact ⟨_, by first | rfl | (simp [errW_none, errW_some] <;> rfl) | (simp [*, errW_none, errW_some] <;> rfl), rk HO_5, bl1 HB GE255⟩
  subst c15
  rw [if_pos rfl] at H
  have H' := Aside0.mk H
  clear H
  have hcz16_0 : wr.cell? ⟨gb255, 0, none⟩ = some (.int .i64 a0_0) := (blk_cell BK255.out 0).trans rfl
  have hcz16_1 : wr.cell? ⟨gb255, 1, none⟩ = some (.slice A0_1 l0_1.length c0_1) := (blk_cell BK255.out 1).trans rfl
  have hfz16_0 := blk_frozen BK255.out 0
  have hfz16_1 := blk_frozen BK255.out 1
  go_wp2
  go_loopg [6, 23] k1 (fun kq v6 v23 w' => ∃ (x5_2 : List (S144)) (x6_2 : Bool) (x23_2 : Int), v6 = .bool x6_2 ∧ v23 = .int .i64 x23_2 ∧ Aside0 (impl_Net_toward.l1 kq x5_2 x6_2 l0_1 (l0_1.length : Int) x23_2 a0_0 l0_1 = some r) ∧ Aside0 (kq ≤ k1) ∧ Aside0 (Kd.R k144 144 w' w.heap.size (fun _ => True) (.slice (some ⟨go6, 0, none⟩) x5_1.length co6) x5_2) ∧ Aside0 (w'.heap[gb255]? = some (.cells #[.int .i64 a0_0, (.slice A0_1 l0_1.length c0_1)] 30 (0, 0))) ∧ Aside0 (Below w.heap.size w w'))
  case atStart => exact ⟨(x5_1), (false), (0), (by first | rfl | (simp; done) | (simp [*]; done)), (by first | rfl | (simp; done) | (simp [*]; done)), H', ⟨Nat.le_refl _⟩, ⟨by (try simp only [hl5_1]); (with_reducible repeat (first | apply Kd.R_alloc | apply Kd.R_drewN | apply Kd.R_drew)); exact HO_5.out⟩, ⟨by (try simp only [hl5_1]); (with_reducible repeat (first | refine blk_drewN ?_ _ | refine blk_drew ?_ | refine blk_alloc ?_ _)); exact BK255.out⟩, ⟨bl1 HB GE255⟩⟩
  clear H'
  try clear c1
  try clear hx1
  try clear c2
  try clear p2
  try clear c4
  try clear c4b0
  try clear c5
  try clear c5b0
  try clear c6
  try clear p6
  try clear q6
  try clear hx6
  try clear hf6
  try clear c13
  try clear hx13
  try clear hf13
  try clear c15
  try clear hcz10_0
  try clear hcz10_1
  try clear hcz16_0
  try clear hcz16_1
  try clear hfz10_0
  try clear hfz10_1
  try clear hfz16_0
  try clear hfz16_1
  try clear hx13_0
  try clear hx13_1
  try clear hx6_0
  try clear hx6_1
  try clear p2
  try clear p6
  try clear q6
  obtain ⟨x5_2, x6_2, x23_2, rfl, rfl, HA, HK2, HO_5, BK255, HB⟩ := hrel
  have hl5_2 := (Kd.R_reads' HO_5.out).1
  rw [hl5_2] at HO_5
  (try simp only [hl5_2])
  (try simp only [hl5_2] at BK255)
  cases gk with
  | zero => exact absurd HA.out (by simp [impl_Net_toward.l1])
  | succ k2 =>
   have H := HA.out
   clear HA
   simp only [impl_Net_toward.l1] at H
   by_cases c17 : x23_2 < (l0_1.length : Int)
   rotate_left
   ·rw [if_neg c17] at H
    have c17b0 : decide (x23_2 < (l0_1.length : Int)) = false := decide_eq_false c17
    clear c17
    have H' := Aside0.mk H
    clear H
    go_wp2
    (try simp only [← hl5_1, ← hl5_2])
    go_roundg k2
    case measure => have := HK1.out; have := HK2.out; omega
    case rel => exact ⟨(x5_2), (x6_2), (by first | rfl | (simp; done) | (simp [*]; done)), H', ⟨by have := HK1.out; have := HK2.out; omega⟩, ⟨by (try simp only [hl5_1]); (try simp only [hl5_2]); (with_reducible repeat (first | apply Kd.R_alloc | apply Kd.R_drewN | apply Kd.R_drew)); exact HO_5.out⟩, ⟨by (try simp only [hl5_1]); (try simp only [hl5_2]); (with_reducible repeat (first | refine blk_drewN ?_ _ | refine blk_drew ?_ | refine blk_alloc ?_ _)); exact BK255.out⟩, ⟨bl1 HB GE255⟩⟩
   rw [if_pos c17] at H
   have c17b0 : decide (x23_2 < (l0_1.length : Int)) = true := decide_eq_true c17
   clear c17
   by_cases c18 : 0 ≤ x23_2
   rotate_left
   ·rw [if_neg c18] at H
    exact absurd H (by simp)
   rw [if_pos c18] at H
   have c18b0 : decide (0 ≤ x23_2) = true := decide_eq_true c18
   clear c18
   by_cases c19 : x23_2 < (l0_1.length : Int)
   rotate_left
   ·rw [if_neg c19] at H
    exact absurd H (by simp)
   rw [if_pos c19] at H
   have c19b0 : decide (x23_2 < (l0_1.length : Int)) = true := decide_eq_true c19
   clear c19
   by_cases c20 : 0 ≤ ((rd_T100 l0_1 x23_2).f1)
   rotate_left
   ·rw [if_neg c20] at H
    exact absurd H (by simp)
   rw [if_pos c20] at H
   have c20b0 : decide (0 ≤ ((rd_T100 l0_1 x23_2).f1)) = true := decide_eq_true c20
   clear c20
   by_cases c21 : ((rd_T100 l0_1 x23_2).f1) < (x5_2.length : Int)
   rotate_left
   ·rw [if_neg c21] at H
    exact absurd H (by simp)
   rw [if_pos c21] at H
   have c21b0 : decide (((rd_T100 l0_1 x23_2).f1) < (x5_2.length : Int)) = true := decide_eq_true c21
   clear c21
   by_cases c22 : ((rd_T144 x5_2 ((rd_T100 l0_1 x23_2).f1)).f0) = 99999
   ·rw [if_pos c22] at H
    have c22b0 : (((rd_T144 x5_2 ((rd_T100 l0_1 x23_2).f1)).f0) == 99999) = true := beq_iff_eq.mpr c22
    have c22b1 : (((rd_T144 x5_2 ((rd_T100 l0_1 x23_2).f1)).f0) != 99999) = false := bne_eq_false_iff_eq.mpr c22
    clear c22
    have H' := Aside0.mk H
    clear H
    have p263 : 0 ≤ (x23_2 : Int) := oT (by first | (with_reducible assumption) | assumption)
    have q263 : x23_2 < (l0_1.length : Int) := oT (by first | (with_reducible assumption) | assumption)
    obtain ⟨ad263, e263, hx263_0, hx263_1, hx263_2, hx263_3, hx263_4⟩ := at_T100 HR0_1.out x23_2 p263 q263
    cases e263
    replace hx263_0 := hcb HB.out hx263_0
    replace hx263_1 := hcb HB.out hx263_1
    replace hx263_2 := hcb HB.out hx263_2
    replace hx263_3 := hcb HB.out hx263_3
    replace hx263_4 := hcb HB.out hx263_4
    replace p263 := eq_true p263
    replace q263 := eq_true q263
    go_wp2_with (first | ((with_reducible refine gate_dst (N := 8) rfl ?_); refine box_event ?hg (N := 8) ?hd (cs := #[.int .i64 0, .int .i64 0, .int .i64 0, .int .i64 0, .int .i64 0]) (t := 100) ?hr ?_; (case hd => rfl); (case hg => rfl); (case hr => first | (go_simp; done) | (go_simp; rfl)); intro gb264 hg w23 hbox hb; replace HO_5 := Aside0.mk (Kd.R_below (rk HO_5) hb); have BK264 := Aside0.mk (hbox); have GW264 := Aside0.mk ((by rw [hg]; exact (below_size (bl1 HB GE255)) : w.heap.size ≤ gb264)); have GE264 := Aside0.mk ((by rw [hg]; exact (below_size (bl1 HB GE255)) : w.heap.size ≤ gb264)); replace HB := Aside0.mk (below_step (bl1 HB GE255) hb); have NB255_264 := Aside0.mk ((by rw [hg]; exact Nat.ne_of_lt (blk_lt (bk BK255)) : gb255 ≠ gb264)); have NB264_255 := Aside0.mk ((by rw [hg]; exact Nat.ne_of_gt (blk_lt (bk BK255)) : gb264 ≠ gb255)); replace BK255 := Aside0.mk (blk_below (bk BK255) hb); clear hb hbox hg; have hnb24 := NB264_255.out; have hnc24 := NB255_264.out; have hcz25_0 : w23.cell? ⟨gb264, 0, none⟩ = some (.int .i64 0) := (blk_cell BK264.out 0).trans rfl; have hcz25_1 : w23.cell? ⟨gb264, 1, none⟩ = some (.int .i64 0) := (blk_cell BK264.out 1).trans rfl; have hcz25_2 : w23.cell? ⟨gb264, 2, none⟩ = some (.int .i64 0) := (blk_cell BK264.out 2).trans rfl; have hcz25_3 : w23.cell? ⟨gb264, 3, none⟩ = some (.int .i64 0) := (blk_cell BK264.out 3).trans rfl; have hcz25_4 : w23.cell? ⟨gb264, 4, none⟩ = some (.int .i64 0) := (blk_cell BK264.out 4).trans rfl; have hfz25_0 := blk_frozen BK264.out 0; have hfz25_1 := blk_frozen BK264.out 1; have hfz25_2 := blk_frozen BK264.out 2; have hfz25_3 := blk_frozen BK264.out 3; have hfz25_4 := blk_frozen BK264.out 4; have p265 : 0 ≤ (((rd_T100 l0_1 x23_2).f1) : Int) := oT (by first | (with_reducible assumption) | assumption); have q265 : ((rd_T100 l0_1 x23_2).f1) < (x5_2.length : Int) := oT (by first | (with_reducible assumption) | assumption); obtain ⟨ad265, e265, hx265_0, hx265_1⟩ := at_T144 (Kd.R_reads' HO_5.out).2.2 ((rd_T100 l0_1 x23_2).f1) p265 q265; obtain rfl : (⟨go6, 0, none⟩ : Addr) = ad265 := (by injection e265); (first | simp only [add_plain] at hx265_0 | simp only [add_at] at hx265_0 | simp only [Addr.add, Nat.zero_add] at hx265_0 | skip); (first | simp only [add_plain] at hx265_1 | simp only [add_at] at hx265_1 | simp only [Addr.add, Nat.zero_add] at hx265_1 | skip); have hn265_0 : (⟨go6, 0, none⟩ : Addr).block ≠ gb264 := Kd.own_blk (Kd.R_ne HO_5.out BK264.out (by decide)); have hn265_1 : (⟨go6, 0, none⟩ : Addr).block ≠ gb264 := Kd.own_blk (Kd.R_ne HO_5.out BK264.out (by decide)); have hn265_2 : (⟨go6, 0, none⟩ : Addr).block ≠ gb264 := Kd.own_blk (Kd.R_ne HO_5.out BK264.out (by decide)); have hn265_3 : (⟨go6, 0, none⟩ : Addr).block ≠ gb264 := Kd.own_blk (Kd.R_ne HO_5.out BK264.out (by decide)); have hn265_4 : (⟨go6, 0, none⟩ : Addr).block ≠ gb264 := Kd.own_blk (Kd.R_ne HO_5.out BK264.out (by decide)); replace hx265_0 := (cell_far (p := ⟨gb264, 0, none⟩) (by first | (rw [add_block]; exact hn265_0) | (show (Addr.add _ _).block ≠ _; rw [add_block]; exact hn265_0) | exact hn265_0) (.int .i64 ((rd_T100 l0_1 x23_2).f0))).trans hx265_0; replace hx265_1 := (cell_far (p := ⟨gb264, 0, none⟩) (by first | (rw [add_block]; exact hn265_0) | (show (Addr.add _ _).block ≠ _; rw [add_block]; exact hn265_0) | exact hn265_0) (.int .i64 ((rd_T100 l0_1 x23_2).f0))).trans hx265_1; replace hx265_0 := (cell_far (p := ⟨gb264, 1, none⟩) (by first | (rw [add_block]; exact hn265_1) | (show (Addr.add _ _).block ≠ _; rw [add_block]; exact hn265_1) | exact hn265_1) (.int .i64 ((rd_T100 l0_1 x23_2).f1))).trans hx265_0; replace hx265_1 := (cell_far (p := ⟨gb264, 1, none⟩) (by first | (rw [add_block]; exact hn265_1) | (show (Addr.add _ _).block ≠ _; rw [add_block]; exact hn265_1) | exact hn265_1) (.int .i64 ((rd_T100 l0_1 x23_2).f1))).trans hx265_1; replace hx265_0 := (cell_far (p := ⟨gb264, 2, none⟩) (by first | (rw [add_block]; exact hn265_2) | (show (Addr.add _ _).block ≠ _; rw [add_block]; exact hn265_2) | exact hn265_2) (.int .i64 ((rd_T100 l0_1 x23_2).f2))).trans hx265_0; replace hx265_1 := (cell_far (p := ⟨gb264, 2, none⟩) (by first | (rw [add_block]; exact hn265_2) | (show (Addr.add _ _).block ≠ _; rw [add_block]; exact hn265_2) | exact hn265_2) (.int .i64 ((rd_T100 l0_1 x23_2).f2))).trans hx265_1; replace hx265_0 := (cell_far (p := ⟨gb264, 3, none⟩) (by first | (rw [add_block]; exact hn265_3) | (show (Addr.add _ _).block ≠ _; rw [add_block]; exact hn265_3) | exact hn265_3) (.int .i64 ((rd_T100 l0_1 x23_2).f3))).trans hx265_0; replace hx265_1 := (cell_far (p := ⟨gb264, 3, none⟩) (by first | (rw [add_block]; exact hn265_3) | (show (Addr.add _ _).block ≠ _; rw [add_block]; exact hn265_3) | exact hn265_3) (.int .i64 ((rd_T100 l0_1 x23_2).f3))).trans hx265_1; replace hx265_0 := (cell_far (p := ⟨gb264, 4, none⟩) (by first | (rw [add_block]; exact hn265_4) | (show (Addr.add _ _).block ≠ _; rw [add_block]; exact hn265_4) | exact hn265_4) (.int .i64 ((rd_T100 l0_1 x23_2).f4))).trans hx265_0; replace hx265_1 := (cell_far (p := ⟨gb264, 4, none⟩) (by first | (rw [add_block]; exact hn265_4) | (show (Addr.add _ _).block ≠ _; rw [add_block]; exact hn265_4) | exact hn265_4) (.int .i64 ((rd_T100 l0_1 x23_2).f4))).trans hx265_1; clear hn265_0; clear hn265_1; clear hn265_2; clear hn265_3; clear hn265_4; replace p265 := eq_true p265; replace q265 := eq_true q265) | ((with_reducible refine gate_dst (N := 9) rfl ?_); refine box_event ?hg (N := 9) ?hd (cs := #[.int .i64 0, .int .i64 0]) (t := 144) ?hr ?_; (case hd => rfl); (case hg => rfl); (case hr => first | (go_simp; done) | (go_simp; rfl)); intro gb266 hg w26 hbox hb; replace HO_5 := Aside0.mk (Kd.R_below (Kd.R_elderB (by (with_reducible repeat (first | apply Kd.R_alloc | apply Kd.R_drewN | apply Kd.R_drew)); exact (Kd.R_mono (Kd.R_far (p := ⟨gb264, 4, none⟩) (Kd.R_far (p := ⟨gb264, 3, none⟩) (Kd.R_far (p := ⟨gb264, 2, none⟩) (Kd.R_far (p := ⟨gb264, 1, none⟩) (Kd.R_far (p := ⟨gb264, 0, none⟩) (Kd.R_types HO_5.out BK264.out (by decide)) (fun _ hk => hk.2) (.int .i64 ((rd_T100 l0_1 x23_2).f0))) (fun _ hk => hk.2) (.int .i64 ((rd_T100 l0_1 x23_2).f1))) (fun _ hk => hk.2) (.int .i64 ((rd_T100 l0_1 x23_2).f2))) (fun _ hk => hk.2) (.int .i64 ((rd_T100 l0_1 x23_2).f3))) (fun _ hk => hk.2) (.int .i64 ((rd_T100 l0_1 x23_2).f4))) (fun _ h_ => h_.1))) gb266 (Nat.le_of_eq hg.symm)) hb); have BK266 := Aside0.mk (hbox); have GW266 := Aside0.mk ((by rw [hg]; exact (below_size (bl2 HB GE255 GE264)) : w.heap.size ≤ gb266)); have GE266 := Aside0.mk ((by rw [hg]; exact (below_size (bl2 HB GE255 GE264)) : w.heap.size ≤ gb266)); replace HB := Aside0.mk (below_step (bl2 HB GE255 GE264) hb); have NB255_266 := Aside0.mk ((by rw [hg]; exact Nat.ne_of_lt (blk_lt (g := gb255) (o := .cells #[.int .i64 a0_0, .slice (some ad263) l0_1.length c0_1] 30 (0, 0)) (by (with_reducible repeat (first | refine blk_drewN ?_ _ | refine blk_drew ?_ | refine blk_alloc ?_ _)); refine blk_far ?_ NB255_264.out _; refine blk_far ?_ NB255_264.out _; refine blk_far ?_ NB255_264.out _; refine blk_far ?_ NB255_264.out _; refine blk_far ?_ NB255_264.out _; (with_reducible repeat (first | refine blk_drewN ?_ _ | refine blk_drew ?_ | refine blk_alloc ?_ _)); exact BK255.out)) : gb255 ≠ gb266)); have NB266_255 := Aside0.mk ((by rw [hg]; exact Nat.ne_of_gt (blk_lt (g := gb255) (o := .cells #[.int .i64 a0_0, .slice (some ad263) l0_1.length c0_1] 30 (0, 0)) (by (with_reducible repeat (first | refine blk_drewN ?_ _ | refine blk_drew ?_ | refine blk_alloc ?_ _)); refine blk_far ?_ NB255_264.out _; refine blk_far ?_ NB255_264.out _; refine blk_far ?_ NB255_264.out _; refine blk_far ?_ NB255_264.out _; refine blk_far ?_ NB255_264.out _; (with_reducible repeat (first | refine blk_drewN ?_ _ | refine blk_drew ?_ | refine blk_alloc ?_ _)); exact BK255.out)) : gb266 ≠ gb255)); replace BK255 := Aside0.mk (blk_below (g := gb255) (o := .cells #[.int .i64 a0_0, .slice (some ad263) l0_1.length c0_1] 30 (0, 0)) (by (with_reducible repeat (first | refine blk_drewN ?_ _ | refine blk_drew ?_ | refine blk_alloc ?_ _)); refine blk_far ?_ NB255_264.out _; refine blk_far ?_ NB255_264.out _; refine blk_far ?_ NB255_264.out _; refine blk_far ?_ NB255_264.out _; refine blk_far ?_ NB255_264.out _; (with_reducible repeat (first | refine blk_drewN ?_ _ | refine blk_drew ?_ | refine blk_alloc ?_ _)); exact BK255.out) hb); have NB264_266 := Aside0.mk ((by rw [hg]; exact Nat.ne_of_lt (blk_lt (g := gb264) (o := .cells #[.int .i64 ((rd_T100 l0_1 x23_2).f0), .int .i64 ((rd_T100 l0_1 x23_2).f1), .int .i64 ((rd_T100 l0_1 x23_2).f2), .int .i64 ((rd_T100 l0_1 x23_2).f3), .int .i64 ((rd_T100 l0_1 x23_2).f4)] 100 (0, 0)) (by (with_reducible repeat (first | refine blk_drewN ?_ _ | refine blk_drew ?_ | refine blk_alloc ?_ _)); refine blk_put (cs := #[.int .i64 ((rd_T100 l0_1 x23_2).f0), .int .i64 ((rd_T100 l0_1 x23_2).f1), .int .i64 ((rd_T100 l0_1 x23_2).f2), .int .i64 ((rd_T100 l0_1 x23_2).f3), .int .i64 0]) ?_ 4 _ rfl; refine blk_put (cs := #[.int .i64 ((rd_T100 l0_1 x23_2).f0), .int .i64 ((rd_T100 l0_1 x23_2).f1), .int .i64 ((rd_T100 l0_1 x23_2).f2), .int .i64 0, .int .i64 0]) ?_ 3 _ rfl; refine blk_put (cs := #[.int .i64 ((rd_T100 l0_1 x23_2).f0), .int .i64 ((rd_T100 l0_1 x23_2).f1), .int .i64 0, .int .i64 0, .int .i64 0]) ?_ 2 _ rfl; refine blk_put (cs := #[.int .i64 ((rd_T100 l0_1 x23_2).f0), .int .i64 0, .int .i64 0, .int .i64 0, .int .i64 0]) ?_ 1 _ rfl; refine blk_put (cs := #[.int .i64 0, .int .i64 0, .int .i64 0, .int .i64 0, .int .i64 0]) ?_ 0 _ rfl; (with_reducible repeat (first | refine blk_drewN ?_ _ | refine blk_drew ?_ | refine blk_alloc ?_ _)); exact BK264.out)) : gb264 ≠ gb266)); have NB266_264 := Aside0.mk ((by rw [hg]; exact Nat.ne_of_gt (blk_lt (g := gb264) (o := .cells #[.int .i64 ((rd_T100 l0_1 x23_2).f0), .int .i64 ((rd_T100 l0_1 x23_2).f1), .int .i64 ((rd_T100 l0_1 x23_2).f2), .int .i64 ((rd_T100 l0_1 x23_2).f3), .int .i64 ((rd_T100 l0_1 x23_2).f4)] 100 (0, 0)) (by (with_reducible repeat (first | refine blk_drewN ?_ _ | refine blk_drew ?_ | refine blk_alloc ?_ _)); refine blk_put (cs := #[.int .i64 ((rd_T100 l0_1 x23_2).f0), .int .i64 ((rd_T100 l0_1 x23_2).f1), .int .i64 ((rd_T100 l0_1 x23_2).f2), .int .i64 ((rd_T100 l0_1 x23_2).f3), .int .i64 0]) ?_ 4 _ rfl; refine blk_put (cs := #[.int .i64 ((rd_T100 l0_1 x23_2).f0), .int .i64 ((rd_T100 l0_1 x23_2).f1), .int .i64 ((rd_T100 l0_1 x23_2).f2), .int .i64 0, .int .i64 0]) ?_ 3 _ rfl; refine blk_put (cs := #[.int .i64 ((rd_T100 l0_1 x23_2).f0), .int .i64 ((rd_T100 l0_1 x23_2).f1), .int .i64 0, .int .i64 0, .int .i64 0]) ?_ 2 _ rfl; refine blk_put (cs := #[.int .i64 ((rd_T100 l0_1 x23_2).f0), .int .i64 0, .int .i64 0, .int .i64 0, .int .i64 0]) ?_ 1 _ rfl; refine blk_put (cs := #[.int .i64 0, .int .i64 0, .int .i64 0, .int .i64 0, .int .i64 0]) ?_ 0 _ rfl; (with_reducible repeat (first | refine blk_drewN ?_ _ | refine blk_drew ?_ | refine blk_alloc ?_ _)); exact BK264.out)) : gb266 ≠ gb264)); replace BK264 := Aside0.mk (blk_below (g := gb264) (o := .cells #[.int .i64 ((rd_T100 l0_1 x23_2).f0), .int .i64 ((rd_T100 l0_1 x23_2).f1), .int .i64 ((rd_T100 l0_1 x23_2).f2), .int .i64 ((rd_T100 l0_1 x23_2).f3), .int .i64 ((rd_T100 l0_1 x23_2).f4)] 100 (0, 0)) (by (with_reducible repeat (first | refine blk_drewN ?_ _ | refine blk_drew ?_ | refine blk_alloc ?_ _)); refine blk_put (cs := #[.int .i64 ((rd_T100 l0_1 x23_2).f0), .int .i64 ((rd_T100 l0_1 x23_2).f1), .int .i64 ((rd_T100 l0_1 x23_2).f2), .int .i64 ((rd_T100 l0_1 x23_2).f3), .int .i64 0]) ?_ 4 _ rfl; refine blk_put (cs := #[.int .i64 ((rd_T100 l0_1 x23_2).f0), .int .i64 ((rd_T100 l0_1 x23_2).f1), .int .i64 ((rd_T100 l0_1 x23_2).f2), .int .i64 0, .int .i64 0]) ?_ 3 _ rfl; refine blk_put (cs := #[.int .i64 ((rd_T100 l0_1 x23_2).f0), .int .i64 ((rd_T100 l0_1 x23_2).f1), .int .i64 0, .int .i64 0, .int .i64 0]) ?_ 2 _ rfl; refine blk_put (cs := #[.int .i64 ((rd_T100 l0_1 x23_2).f0), .int .i64 0, .int .i64 0, .int .i64 0, .int .i64 0]) ?_ 1 _ rfl; refine blk_put (cs := #[.int .i64 0, .int .i64 0, .int .i64 0, .int .i64 0, .int .i64 0]) ?_ 0 _ rfl; (with_reducible repeat (first | refine blk_drewN ?_ _ | refine blk_drew ?_ | refine blk_alloc ?_ _)); exact BK264.out) hb); clear hb hbox hg; have hnb27 := NB266_255.out; have hnc27 := NB255_266.out; have hnb28 := NB266_264.out; have hnc28 := NB264_266.out; have hcz29_0 : w26.cell? ⟨gb266, 0, none⟩ = some (.int .i64 0) := (blk_cell BK266.out 0).trans rfl; have hcz29_1 : w26.cell? ⟨gb266, 1, none⟩ = some (.int .i64 0) := (blk_cell BK266.out 1).trans rfl; have hfz29_0 := blk_frozen BK266.out 0; have hfz29_1 := blk_frozen BK266.out 1))
    (try simp only [← hl5_2])
    go_roundg k2
    case measure => have := HK1.out; have := HK2.out; omega
    case rel => exact ⟨(x5_2), (x6_2), (wrap64 (x23_2 + 1)), (by first | rfl | (simp; done) | (simp [*]; done)), (by first | rfl | (simp; done) | (simp [*]; done)), H', ⟨by have := HK1.out; have := HK2.out; omega⟩, ⟨by (try simp only [hl5_1]); (try simp only [hl5_2]); (with_reducible repeat (first | apply Kd.R_alloc | apply Kd.R_drewN | apply Kd.R_drew)); exact Kd.R_mono (Kd.R_far (p := ⟨gb266, 1, none⟩) (Kd.R_far (p := ⟨gb266, 0, none⟩) (Kd.R_mono HO_5.out (fun k_ hk => (⟨hk, hk.2⟩ : _ ∧ k_ ≠ gb266))) (fun _ hk => hk.2) (.int .i64 ((rd_T144 x5_2 ((rd_T100 l0_1 x23_2).f1)).f0))) (fun _ hk => hk.2) (.int .i64 ((rd_T144 x5_2 ((rd_T100 l0_1 x23_2).f1)).f1))) (fun _ hk => trivial)⟩, ⟨by (try simp only [hl5_1]); (try simp only [hl5_2]); (with_reducible repeat (first | refine blk_drewN ?_ _ | refine blk_drew ?_ | refine blk_alloc ?_ _)); refine blk_far ?_ NB255_266.out _; refine blk_far ?_ NB255_266.out _; (with_reducible repeat (first | refine blk_drewN ?_ _ | refine blk_drew ?_ | refine blk_alloc ?_ _)); exact BK255.out⟩, ⟨bl3 HB GE255 GE264 GE266⟩⟩
   rw [if_neg c22] at H
   have c22b0 : (((rd_T144 x5_2 ((rd_T100 l0_1 x23_2).f1)).f0) == 99999) = false := beq_eq_false_iff_ne.mpr c22
   have c22b1 : (((rd_T144 x5_2 ((rd_T100 l0_1 x23_2).f1)).f0) != 99999) = true := bne_iff_ne.mpr c22
   by_cases c30 : 0 ≤ ((rd_T100 l0_1 x23_2).f0)
   rotate_left
   ·rw [if_neg c30] at H
    exact absurd H (by simp)
   rw [if_pos c30] at H
   have c30b0 : decide (0 ≤ ((rd_T100 l0_1 x23_2).f0)) = true := decide_eq_true c30
   clear c30
   by_cases c31 : ((rd_T100 l0_1 x23_2).f0) < (x5_2.length : Int)
   rotate_left
   ·rw [if_neg c31] at H
    exact absurd H (by simp)
   rw [if_pos c31] at H
   have c31b0 : decide (((rd_T100 l0_1 x23_2).f0) < (x5_2.length : Int)) = true := decide_eq_true c31
   clear c31
   replace H := Option.bind_eq_some_iff.mp H
   obtain ⟨t268, A320, H⟩ := H
   have A32 := Aside0.mk A320
   clear A320
   by_cases c33 : t268 = true
   rotate_left
   ·replace c33 := Bool.eq_false_iff.mpr c33
    subst c33
    rw [if_neg (show ¬ (false = true) by decide)] at H
    have H' := Aside0.mk H
    clear H
    have p263 : 0 ≤ (x23_2 : Int) := oT (by first | (with_reducible assumption) | assumption)
    have q263 : x23_2 < (l0_1.length : Int) := oT (by first | (with_reducible assumption) | assumption)
    obtain ⟨ad263, e263, hx263_0, hx263_1, hx263_2, hx263_3, hx263_4⟩ := at_T100 HR0_1.out x23_2 p263 q263
    cases e263
    replace hx263_0 := hcb HB.out hx263_0
    replace hx263_1 := hcb HB.out hx263_1
    replace hx263_2 := hcb HB.out hx263_2
    replace hx263_3 := hcb HB.out hx263_3
    replace hx263_4 := hcb HB.out hx263_4
    replace p263 := eq_true p263
    replace q263 := eq_true q263
    try go_wp2_with (first | ((with_reducible refine gate_dst (N := 8) rfl ?_); refine box_event ?hg (N := 8) ?hd (cs := #[.int .i64 0, .int .i64 0, .int .i64 0, .int .i64 0, .int .i64 0]) (t := 100) ?hr ?_; (case hd => rfl); (case hg => rfl); (case hr => first | (go_simp; done) | (go_simp; rfl)); intro gb264 hg w50 hbox hb; replace HO_5 := Aside0.mk (Kd.R_below (rk HO_5) hb); have BK264 := Aside0.mk (hbox); have GW264 := Aside0.mk ((by rw [hg]; exact (below_size (bl1 HB GE255)) : w.heap.size ≤ gb264)); have GE264 := Aside0.mk ((by rw [hg]; exact (below_size (bl1 HB GE255)) : w.heap.size ≤ gb264)); replace HB := Aside0.mk (below_step (bl1 HB GE255) hb); have NB255_264 := Aside0.mk ((by rw [hg]; exact Nat.ne_of_lt (blk_lt (bk BK255)) : gb255 ≠ gb264)); have NB264_255 := Aside0.mk ((by rw [hg]; exact Nat.ne_of_gt (blk_lt (bk BK255)) : gb264 ≠ gb255)); replace BK255 := Aside0.mk (blk_below (bk BK255) hb); clear hb hbox hg; have hnb51 := NB264_255.out; have hnc51 := NB255_264.out; have hcz52_0 : w50.cell? ⟨gb264, 0, none⟩ = some (.int .i64 0) := (blk_cell BK264.out 0).trans rfl; have hcz52_1 : w50.cell? ⟨gb264, 1, none⟩ = some (.int .i64 0) := (blk_cell BK264.out 1).trans rfl; have hcz52_2 : w50.cell? ⟨gb264, 2, none⟩ = some (.int .i64 0) := (blk_cell BK264.out 2).trans rfl; have hcz52_3 : w50.cell? ⟨gb264, 3, none⟩ = some (.int .i64 0) := (blk_cell BK264.out 3).trans rfl; have hcz52_4 : w50.cell? ⟨gb264, 4, none⟩ = some (.int .i64 0) := (blk_cell BK264.out 4).trans rfl; have hfz52_0 := blk_frozen BK264.out 0; have hfz52_1 := blk_frozen BK264.out 1; have hfz52_2 := blk_frozen BK264.out 2; have hfz52_3 := blk_frozen BK264.out 3; have hfz52_4 := blk_frozen BK264.out 4; have p265 : 0 ≤ (((rd_T100 l0_1 x23_2).f1) : Int) := oT (by first | (with_reducible assumption) | assumption); have q265 : ((rd_T100 l0_1 x23_2).f1) < (x5_2.length : Int) := oT (by first | (with_reducible assumption) | assumption); obtain ⟨ad265, e265, hx265_0, hx265_1⟩ := at_T144 (Kd.R_reads' HO_5.out).2.2 ((rd_T100 l0_1 x23_2).f1) p265 q265; obtain rfl : (⟨go6, 0, none⟩ : Addr) = ad265 := (by injection e265); (first | simp only [add_plain] at hx265_0 | simp only [add_at] at hx265_0 | simp only [Addr.add, Nat.zero_add] at hx265_0 | skip); (first | simp only [add_plain] at hx265_1 | simp only [add_at] at hx265_1 | simp only [Addr.add, Nat.zero_add] at hx265_1 | skip); have hn265_0 : (⟨go6, 0, none⟩ : Addr).block ≠ gb264 := Kd.own_blk (Kd.R_ne HO_5.out BK264.out (by decide)); have hn265_1 : (⟨go6, 0, none⟩ : Addr).block ≠ gb264 := Kd.own_blk (Kd.R_ne HO_5.out BK264.out (by decide)); have hn265_2 : (⟨go6, 0, none⟩ : Addr).block ≠ gb264 := Kd.own_blk (Kd.R_ne HO_5.out BK264.out (by decide)); have hn265_3 : (⟨go6, 0, none⟩ : Addr).block ≠ gb264 := Kd.own_blk (Kd.R_ne HO_5.out BK264.out (by decide)); have hn265_4 : (⟨go6, 0, none⟩ : Addr).block ≠ gb264 := Kd.own_blk (Kd.R_ne HO_5.out BK264.out (by decide)); replace hx265_0 := (cell_far (p := ⟨gb264, 0, none⟩) (by first | (rw [add_block]; exact hn265_0) | (show (Addr.add _ _).block ≠ _; rw [add_block]; exact hn265_0) | exact hn265_0) (.int .i64 ((rd_T100 l0_1 x23_2).f0))).trans hx265_0; replace hx265_1 := (cell_far (p := ⟨gb264, 0, none⟩) (by first | (rw [add_block]; exact hn265_0) | (show (Addr.add _ _).block ≠ _; rw [add_block]; exact hn265_0) | exact hn265_0) (.int .i64 ((rd_T100 l0_1 x23_2).f0))).trans hx265_1; replace hx265_0 := (cell_far (p := ⟨gb264, 1, none⟩) (by first | (rw [add_block]; exact hn265_1) | (show (Addr.add _ _).block ≠ _; rw [add_block]; exact hn265_1) | exact hn265_1) (.int .i64 ((rd_T100 l0_1 x23_2).f1))).trans hx265_0; replace hx265_1 := (cell_far (p := ⟨gb264, 1, none⟩) (by first | (rw [add_block]; exact hn265_1) | (show (Addr.add _ _).block ≠ _; rw [add_block]; exact hn265_1) | exact hn265_1) (.int .i64 ((rd_T100 l0_1 x23_2).f1))).trans hx265_1; replace hx265_0 := (cell_far (p := ⟨gb264, 2, none⟩) (by first | (rw [add_block]; exact hn265_2) | (show (Addr.add _ _).block ≠ _; rw [add_block]; exact hn265_2) | exact hn265_2) (.int .i64 ((rd_T100 l0_1 x23_2).f2))).trans hx265_0; replace hx265_1 := (cell_far (p := ⟨gb264, 2, none⟩) (by first | (rw [add_block]; exact hn265_2) | (show (Addr.add _ _).block ≠ _; rw [add_block]; exact hn265_2) | exact hn265_2) (.int .i64 ((rd_T100 l0_1 x23_2).f2))).trans hx265_1; replace hx265_0 := (cell_far (p := ⟨gb264, 3, none⟩) (by first | (rw [add_block]; exact hn265_3) | (show (Addr.add _ _).block ≠ _; rw [add_block]; exact hn265_3) | exact hn265_3) (.int .i64 ((rd_T100 l0_1 x23_2).f3))).trans hx265_0; replace hx265_1 := (cell_far (p := ⟨gb264, 3, none⟩) (by first | (rw [add_block]; exact hn265_3) | (show (Addr.add _ _).block ≠ _; rw [add_block]; exact hn265_3) | exact hn265_3) (.int .i64 ((rd_T100 l0_1 x23_2).f3))).trans hx265_1; replace hx265_0 := (cell_far (p := ⟨gb264, 4, none⟩) (by first | (rw [add_block]; exact hn265_4) | (show (Addr.add _ _).block ≠ _; rw [add_block]; exact hn265_4) | exact hn265_4) (.int .i64 ((rd_T100 l0_1 x23_2).f4))).trans hx265_0; replace hx265_1 := (cell_far (p := ⟨gb264, 4, none⟩) (by first | (rw [add_block]; exact hn265_4) | (show (Addr.add _ _).block ≠ _; rw [add_block]; exact hn265_4) | exact hn265_4) (.int .i64 ((rd_T100 l0_1 x23_2).f4))).trans hx265_1; clear hn265_0; clear hn265_1; clear hn265_2; clear hn265_3; clear hn265_4; replace p265 := eq_true p265; replace q265 := eq_true q265) | ((with_reducible refine gate_dst (N := 9) rfl ?_); refine box_event ?hg (N := 9) ?hd (cs := #[.int .i64 0, .int .i64 0]) (t := 144) ?hr ?_; (case hd => rfl); (case hg => rfl); (case hr => first | (go_simp; done) | (go_simp; rfl)); intro gb266 hg w53 hbox hb; replace HO_5 := Aside0.mk (Kd.R_below (Kd.R_elderB (by (with_reducible repeat (first | apply Kd.R_alloc | apply Kd.R_drewN | apply Kd.R_drew)); exact (Kd.R_mono (Kd.R_far (p := ⟨gb264, 4, none⟩) (Kd.R_far (p := ⟨gb264, 3, none⟩) (Kd.R_far (p := ⟨gb264, 2, none⟩) (Kd.R_far (p := ⟨gb264, 1, none⟩) (Kd.R_far (p := ⟨gb264, 0, none⟩) (Kd.R_types HO_5.out BK264.out (by decide)) (fun _ hk => hk.2) (.int .i64 ((rd_T100 l0_1 x23_2).f0))) (fun _ hk => hk.2) (.int .i64 ((rd_T100 l0_1 x23_2).f1))) (fun _ hk => hk.2) (.int .i64 ((rd_T100 l0_1 x23_2).f2))) (fun _ hk => hk.2) (.int .i64 ((rd_T100 l0_1 x23_2).f3))) (fun _ hk => hk.2) (.int .i64 ((rd_T100 l0_1 x23_2).f4))) (fun _ h_ => h_.1))) gb266 (Nat.le_of_eq hg.symm)) hb); have BK266 := Aside0.mk (hbox); have GW266 := Aside0.mk ((by rw [hg]; exact (below_size (bl2 HB GE255 GE264)) : w.heap.size ≤ gb266)); have GE266 := Aside0.mk ((by rw [hg]; exact (below_size (bl2 HB GE255 GE264)) : w.heap.size ≤ gb266)); replace HB := Aside0.mk (below_step (bl2 HB GE255 GE264) hb); have NB255_266 := Aside0.mk ((by rw [hg]; exact Nat.ne_of_lt (blk_lt (g := gb255) (o := .cells #[.int .i64 a0_0, .slice (some ad263) l0_1.length c0_1] 30 (0, 0)) (by (with_reducible repeat (first | refine blk_drewN ?_ _ | refine blk_drew ?_ | refine blk_alloc ?_ _)); refine blk_far ?_ NB255_264.out _; refine blk_far ?_ NB255_264.out _; refine blk_far ?_ NB255_264.out _; refine blk_far ?_ NB255_264.out _; refine blk_far ?_ NB255_264.out _; (with_reducible repeat (first | refine blk_drewN ?_ _ | refine blk_drew ?_ | refine blk_alloc ?_ _)); exact BK255.out)) : gb255 ≠ gb266)); have NB266_255 := Aside0.mk ((by rw [hg]; exact Nat.ne_of_gt (blk_lt (g := gb255) (o := .cells #[.int .i64 a0_0, .slice (some ad263) l0_1.length c0_1] 30 (0, 0)) (by (with_reducible repeat (first | refine blk_drewN ?_ _ | refine blk_drew ?_ | refine blk_alloc ?_ _)); refine blk_far ?_ NB255_264.out _; refine blk_far ?_ NB255_264.out _; refine blk_far ?_ NB255_264.out _; refine blk_far ?_ NB255_264.out _; refine blk_far ?_ NB255_264.out _; (with_reducible repeat (first | refine blk_drewN ?_ _ | refine blk_drew ?_ | refine blk_alloc ?_ _)); exact BK255.out)) : gb266 ≠ gb255)); replace BK255 := Aside0.mk (blk_below (g := gb255) (o := .cells #[.int .i64 a0_0, .slice (some ad263) l0_1.length c0_1] 30 (0, 0)) (by (with_reducible repeat (first | refine blk_drewN ?_ _ | refine blk_drew ?_ | refine blk_alloc ?_ _)); refine blk_far ?_ NB255_264.out _; refine blk_far ?_ NB255_264.out _; refine blk_far ?_ NB255_264.out _; refine blk_far ?_ NB255_264.out _; refine blk_far ?_ NB255_264.out _; (with_reducible repeat (first | refine blk_drewN ?_ _ | refine blk_drew ?_ | refine blk_alloc ?_ _)); exact BK255.out) hb); have NB264_266 := Aside0.mk ((by rw [hg]; exact Nat.ne_of_lt (blk_lt (g := gb264) (o := .cells #[.int .i64 ((rd_T100 l0_1 x23_2).f0), .int .i64 ((rd_T100 l0_1 x23_2).f1), .int .i64 ((rd_T100 l0_1 x23_2).f2), .int .i64 ((rd_T100 l0_1 x23_2).f3), .int .i64 ((rd_T100 l0_1 x23_2).f4)] 100 (0, 0)) (by (with_reducible repeat (first | refine blk_drewN ?_ _ | refine blk_drew ?_ | refine blk_alloc ?_ _)); refine blk_put (cs := #[.int .i64 ((rd_T100 l0_1 x23_2).f0), .int .i64 ((rd_T100 l0_1 x23_2).f1), .int .i64 ((rd_T100 l0_1 x23_2).f2), .int .i64 ((rd_T100 l0_1 x23_2).f3), .int .i64 0]) ?_ 4 _ rfl; refine blk_put (cs := #[.int .i64 ((rd_T100 l0_1 x23_2).f0), .int .i64 ((rd_T100 l0_1 x23_2).f1), .int .i64 ((rd_T100 l0_1 x23_2).f2), .int .i64 0, .int .i64 0]) ?_ 3 _ rfl; refine blk_put (cs := #[.int .i64 ((rd_T100 l0_1 x23_2).f0), .int .i64 ((rd_T100 l0_1 x23_2).f1), .int .i64 0, .int .i64 0, .int .i64 0]) ?_ 2 _ rfl; refine blk_put (cs := #[.int .i64 ((rd_T100 l0_1 x23_2).f0), .int .i64 0, .int .i64 0, .int .i64 0, .int .i64 0]) ?_ 1 _ rfl; refine blk_put (cs := #[.int .i64 0, .int .i64 0, .int .i64 0, .int .i64 0, .int .i64 0]) ?_ 0 _ rfl; (with_reducible repeat (first | refine blk_drewN ?_ _ | refine blk_drew ?_ | refine blk_alloc ?_ _)); exact BK264.out)) : gb264 ≠ gb266)); have NB266_264 := Aside0.mk ((by rw [hg]; exact Nat.ne_of_gt (blk_lt (g := gb264) (o := .cells #[.int .i64 ((rd_T100 l0_1 x23_2).f0), .int .i64 ((rd_T100 l0_1 x23_2).f1), .int .i64 ((rd_T100 l0_1 x23_2).f2), .int .i64 ((rd_T100 l0_1 x23_2).f3), .int .i64 ((rd_T100 l0_1 x23_2).f4)] 100 (0, 0)) (by (with_reducible repeat (first | refine blk_drewN ?_ _ | refine blk_drew ?_ | refine blk_alloc ?_ _)); refine blk_put (cs := #[.int .i64 ((rd_T100 l0_1 x23_2).f0), .int .i64 ((rd_T100 l0_1 x23_2).f1), .int .i64 ((rd_T100 l0_1 x23_2).f2), .int .i64 ((rd_T100 l0_1 x23_2).f3), .int .i64 0]) ?_ 4 _ rfl; refine blk_put (cs := #[.int .i64 ((rd_T100 l0_1 x23_2).f0), .int .i64 ((rd_T100 l0_1 x23_2).f1), .int .i64 ((rd_T100 l0_1 x23_2).f2), .int .i64 0, .int .i64 0]) ?_ 3 _ rfl; refine blk_put (cs := #[.int .i64 ((rd_T100 l0_1 x23_2).f0), .int .i64 ((rd_T100 l0_1 x23_2).f1), .int .i64 0, .int .i64 0, .int .i64 0]) ?_ 2 _ rfl; refine blk_put (cs := #[.int .i64 ((rd_T100 l0_1 x23_2).f0), .int .i64 0, .int .i64 0, .int .i64 0, .int .i64 0]) ?_ 1 _ rfl; refine blk_put (cs := #[.int .i64 0, .int .i64 0, .int .i64 0, .int .i64 0, .int .i64 0]) ?_ 0 _ rfl; (with_reducible repeat (first | refine blk_drewN ?_ _ | refine blk_drew ?_ | refine blk_alloc ?_ _)); exact BK264.out)) : gb266 ≠ gb264)); replace BK264 := Aside0.mk (blk_below (g := gb264) (o := .cells #[.int .i64 ((rd_T100 l0_1 x23_2).f0), .int .i64 ((rd_T100 l0_1 x23_2).f1), .int .i64 ((rd_T100 l0_1 x23_2).f2), .int .i64 ((rd_T100 l0_1 x23_2).f3), .int .i64 ((rd_T100 l0_1 x23_2).f4)] 100 (0, 0)) (by (with_reducible repeat (first | refine blk_drewN ?_ _ | refine blk_drew ?_ | refine blk_alloc ?_ _)); refine blk_put (cs := #[.int .i64 ((rd_T100 l0_1 x23_2).f0), .int .i64 ((rd_T100 l0_1 x23_2).f1), .int .i64 ((rd_T100 l0_1 x23_2).f2), .int .i64 ((rd_T100 l0_1 x23_2).f3), .int .i64 0]) ?_ 4 _ rfl; refine blk_put (cs := #[.int .i64 ((rd_T100 l0_1 x23_2).f0), .int .i64 ((rd_T100 l0_1 x23_2).f1), .int .i64 ((rd_T100 l0_1 x23_2).f2), .int .i64 0, .int .i64 0]) ?_ 3 _ rfl; refine blk_put (cs := #[.int .i64 ((rd_T100 l0_1 x23_2).f0), .int .i64 ((rd_T100 l0_1 x23_2).f1), .int .i64 0, .int .i64 0, .int .i64 0]) ?_ 2 _ rfl; refine blk_put (cs := #[.int .i64 ((rd_T100 l0_1 x23_2).f0), .int .i64 0, .int .i64 0, .int .i64 0, .int .i64 0]) ?_ 1 _ rfl; refine blk_put (cs := #[.int .i64 0, .int .i64 0, .int .i64 0, .int .i64 0, .int .i64 0]) ?_ 0 _ rfl; (with_reducible repeat (first | refine blk_drewN ?_ _ | refine blk_drew ?_ | refine blk_alloc ?_ _)); exact BK264.out) hb); clear hb hbox hg; have hnb54 := NB266_255.out; have hnc54 := NB255_266.out; have hnb55 := NB266_264.out; have hnc55 := NB264_266.out; have hcz56_0 : w53.cell? ⟨gb266, 0, none⟩ = some (.int .i64 0) := (blk_cell BK266.out 0).trans rfl; have hcz56_1 : w53.cell? ⟨gb266, 1, none⟩ = some (.int .i64 0) := (blk_cell BK266.out 1).trans rfl; have hfz56_0 := blk_frozen BK266.out 0; have hfz56_1 := blk_frozen BK266.out 1; have hcz57_0 : w53.cell? ⟨gb264, 0, none⟩ = some (.int .i64 ((rd_T100 l0_1 x23_2).f0)) := (blk_cell BK264.out 0).trans rfl; have hcz57_1 : w53.cell? ⟨gb264, 1, none⟩ = some (.int .i64 ((rd_T100 l0_1 x23_2).f1)) := (blk_cell BK264.out 1).trans rfl; have hcz57_2 : w53.cell? ⟨gb264, 2, none⟩ = some (.int .i64 ((rd_T100 l0_1 x23_2).f2)) := (blk_cell BK264.out 2).trans rfl; have hcz57_3 : w53.cell? ⟨gb264, 3, none⟩ = some (.int .i64 ((rd_T100 l0_1 x23_2).f3)) := (blk_cell BK264.out 3).trans rfl; have hcz57_4 : w53.cell? ⟨gb264, 4, none⟩ = some (.int .i64 ((rd_T100 l0_1 x23_2).f4)) := (blk_cell BK264.out 4).trans rfl; have hfz57_0 := blk_frozen BK264.out 0; have hfz57_1 := blk_frozen BK264.out 1; have hfz57_2 := blk_frozen BK264.out 2; have hfz57_3 := blk_frozen BK264.out 3; have hfz57_4 := blk_frozen BK264.out 4))
    have n0_ : Aside0 (Kd.R k144 144 ((((w53.setCell ⟨gb266, 0, none⟩ (.int .i64 ((rd_T144 x5_2 ((rd_T100 l0_1 x23_2).f1)).f0))).setCell ⟨gb266, 1, none⟩ (.int .i64 ((rd_T144 x5_2 ((rd_T100 l0_1 x23_2).f1)).f1))).setCell ⟨gb266, 0, none⟩ (.int .i64 (wrap64 (((rd_T144 x5_2 ((rd_T100 l0_1 x23_2).f1)).f0) + ((rd_T100 l0_1 x23_2).f2))))).setCell ⟨gb266, 1, none⟩ (.int .i64 (wrap64 (((rd_T144 x5_2 ((rd_T100 l0_1 x23_2).f1)).f1) + 1)))) w.heap.size (fun k_ => k_ ≠ gb266) (.slice (some ⟨go6, 0, none⟩) x5_2.length co6) x5_2) := ⟨by (with_reducible repeat (first | apply Kd.R_alloc | apply Kd.R_drewN | apply Kd.R_drew)); exact Kd.R_mono (Kd.R_far (p := ⟨gb266, 1, none⟩) (Kd.R_far (p := ⟨gb266, 0, none⟩) (Kd.R_far (p := ⟨gb266, 1, none⟩) (Kd.R_far (p := ⟨gb266, 0, none⟩) (Kd.R_mono HO_5.out (fun k_ hk => (⟨hk, hk.2⟩ : _ ∧ k_ ≠ gb266))) (fun _ hk => hk.2) (.int .i64 ((rd_T144 x5_2 ((rd_T100 l0_1 x23_2).f1)).f0))) (fun _ hk => hk.2) (.int .i64 ((rd_T144 x5_2 ((rd_T100 l0_1 x23_2).f1)).f1))) (fun _ hk => hk.2) (.int .i64 (wrap64 (((rd_T144 x5_2 ((rd_T100 l0_1 x23_2).f1)).f0) + ((rd_T100 l0_1 x23_2).f2))))) (fun _ hk => hk.2) (.int .i64 (wrap64 (((rd_T144 x5_2 ((rd_T100 l0_1 x23_2).f1)).f1) + 1)))) (fun _ hk => hk.1.2)⟩
    have n1_ : Aside0 (((((w53.setCell ⟨gb266, 0, none⟩ (.int .i64 ((rd_T144 x5_2 ((rd_T100 l0_1 x23_2).f1)).f0))).setCell ⟨gb266, 1, none⟩ (.int .i64 ((rd_T144 x5_2 ((rd_T100 l0_1 x23_2).f1)).f1))).setCell ⟨gb266, 0, none⟩ (.int .i64 (wrap64 (((rd_T144 x5_2 ((rd_T100 l0_1 x23_2).f1)).f0) + ((rd_T100 l0_1 x23_2).f2))))).setCell ⟨gb266, 1, none⟩ (.int .i64 (wrap64 (((rd_T144 x5_2 ((rd_T100 l0_1 x23_2).f1)).f1) + 1)))).heap[gb255]? = some (.cells #[.int .i64 a0_0, .slice (some ad263) l0_1.length c0_1] 30 (0, 0))) := ⟨by (with_reducible repeat (first | refine blk_drewN ?_ _ | refine blk_drew ?_ | refine blk_alloc ?_ _)); refine blk_far ?_ NB255_266.out _; refine blk_far ?_ NB255_266.out _; refine blk_far ?_ NB255_266.out _; refine blk_far ?_ NB255_266.out _; (with_reducible repeat (first | refine blk_drewN ?_ _ | refine blk_drew ?_ | refine blk_alloc ?_ _)); exact BK255.out⟩
    have n2_ : Aside0 (((((w53.setCell ⟨gb266, 0, none⟩ (.int .i64 ((rd_T144 x5_2 ((rd_T100 l0_1 x23_2).f1)).f0))).setCell ⟨gb266, 1, none⟩ (.int .i64 ((rd_T144 x5_2 ((rd_T100 l0_1 x23_2).f1)).f1))).setCell ⟨gb266, 0, none⟩ (.int .i64 (wrap64 (((rd_T144 x5_2 ((rd_T100 l0_1 x23_2).f1)).f0) + ((rd_T100 l0_1 x23_2).f2))))).setCell ⟨gb266, 1, none⟩ (.int .i64 (wrap64 (((rd_T144 x5_2 ((rd_T100 l0_1 x23_2).f1)).f1) + 1)))).heap[gb264]? = some (.cells #[.int .i64 ((rd_T100 l0_1 x23_2).f0), .int .i64 ((rd_T100 l0_1 x23_2).f1), .int .i64 ((rd_T100 l0_1 x23_2).f2), .int .i64 ((rd_T100 l0_1 x23_2).f3), .int .i64 ((rd_T100 l0_1 x23_2).f4)] 100 (0, 0))) := ⟨by (with_reducible repeat (first | refine blk_drewN ?_ _ | refine blk_drew ?_ | refine blk_alloc ?_ _)); refine blk_far ?_ NB264_266.out _; refine blk_far ?_ NB264_266.out _; refine blk_far ?_ NB264_266.out _; refine blk_far ?_ NB264_266.out _; (with_reducible repeat (first | refine blk_drewN ?_ _ | refine blk_drew ?_ | refine blk_alloc ?_ _)); exact BK264.out⟩
    have n3_ : Aside0 (((((w53.setCell ⟨gb266, 0, none⟩ (.int .i64 ((rd_T144 x5_2 ((rd_T100 l0_1 x23_2).f1)).f0))).setCell ⟨gb266, 1, none⟩ (.int .i64 ((rd_T144 x5_2 ((rd_T100 l0_1 x23_2).f1)).f1))).setCell ⟨gb266, 0, none⟩ (.int .i64 (wrap64 (((rd_T144 x5_2 ((rd_T100 l0_1 x23_2).f1)).f0) + ((rd_T100 l0_1 x23_2).f2))))).setCell ⟨gb266, 1, none⟩ (.int .i64 (wrap64 (((rd_T144 x5_2 ((rd_T100 l0_1 x23_2).f1)).f1) + 1)))).heap[gb266]? = some (.cells #[.int .i64 (wrap64 (((rd_T144 x5_2 ((rd_T100 l0_1 x23_2).f1)).f0) + ((rd_T100 l0_1 x23_2).f2))), .int .i64 (wrap64 (((rd_T144 x5_2 ((rd_T100 l0_1 x23_2).f1)).f1) + 1))] 144 (0, 0))) := ⟨by (with_reducible repeat (first | refine blk_drewN ?_ _ | refine blk_drew ?_ | refine blk_alloc ?_ _)); refine blk_put (cs := #[.int .i64 (wrap64 (((rd_T144 x5_2 ((rd_T100 l0_1 x23_2).f1)).f0) + ((rd_T100 l0_1 x23_2).f2))), .int .i64 ((rd_T144 x5_2 ((rd_T100 l0_1 x23_2).f1)).f1)]) ?_ 1 _ rfl; (with_reducible repeat (first | refine blk_drewN ?_ _ | refine blk_drew ?_ | refine blk_alloc ?_ _)); refine blk_put (cs := #[.int .i64 ((rd_T144 x5_2 ((rd_T100 l0_1 x23_2).f1)).f0), .int .i64 ((rd_T144 x5_2 ((rd_T100 l0_1 x23_2).f1)).f1)]) ?_ 0 _ rfl; (with_reducible repeat (first | refine blk_drewN ?_ _ | refine blk_drew ?_ | refine blk_alloc ?_ _)); refine blk_put (cs := #[.int .i64 ((rd_T144 x5_2 ((rd_T100 l0_1 x23_2).f1)).f0), .int .i64 0]) ?_ 1 _ rfl; (with_reducible repeat (first | refine blk_drewN ?_ _ | refine blk_drew ?_ | refine blk_alloc ?_ _)); refine blk_put (cs := #[.int .i64 0, .int .i64 0]) ?_ 0 _ rfl; (with_reducible repeat (first | refine blk_drewN ?_ _ | refine blk_drew ?_ | refine blk_alloc ?_ _)); exact BK266.out⟩
    have n4_ : Aside0 (Below w.heap.size w ((((w53.setCell ⟨gb266, 0, none⟩ (.int .i64 ((rd_T144 x5_2 ((rd_T100 l0_1 x23_2).f1)).f0))).setCell ⟨gb266, 1, none⟩ (.int .i64 ((rd_T144 x5_2 ((rd_T100 l0_1 x23_2).f1)).f1))).setCell ⟨gb266, 0, none⟩ (.int .i64 (wrap64 (((rd_T144 x5_2 ((rd_T100 l0_1 x23_2).f1)).f0) + ((rd_T100 l0_1 x23_2).f2))))).setCell ⟨gb266, 1, none⟩ (.int .i64 (wrap64 (((rd_T144 x5_2 ((rd_T100 l0_1 x23_2).f1)).f1) + 1))))) := ⟨bl3 HB GE255 GE264 GE266⟩
    (try clear HO_5)
    (try clear BK255)
    (try clear BK264)
    (try clear BK266)
    (try clear HB)
    generalize ((((w53.setCell ⟨gb266, 0, none⟩ (.int .i64 ((rd_T144 x5_2 ((rd_T100 l0_1 x23_2).f1)).f0))).setCell ⟨gb266, 1, none⟩ (.int .i64 ((rd_T144 x5_2 ((rd_T100 l0_1 x23_2).f1)).f1))).setCell ⟨gb266, 0, none⟩ (.int .i64 (wrap64 (((rd_T144 x5_2 ((rd_T100 l0_1 x23_2).f1)).f0) + ((rd_T100 l0_1 x23_2).f2))))).setCell ⟨gb266, 1, none⟩ (.int .i64 (wrap64 (((rd_T144 x5_2 ((rd_T100 l0_1 x23_2).f1)).f1) + 1)))) = w58 at n0_ n1_ n2_ n3_ n4_ ⊢
    have HO_5 := n0_
    have BK255 := n1_
    have BK264 := n2_
    have BK266 := n3_
    have HB := n4_
    clear n0_ n1_ n2_ n3_ n4_
    replace HO_5 := Aside0.mk (Kd.R_drew HO_5.out)
    replace BK255 := Aside0.mk (blk_drew BK255.out)
    replace BK264 := Aside0.mk (blk_drew BK264.out)
    replace BK266 := Aside0.mk (blk_drew BK266.out)
    replace HB := Aside0.mk (below_drew1 HB.out)
    have p267 : 0 ≤ (((rd_T100 l0_1 x23_2).f0) : Int) := oT (by first | (with_reducible assumption) | assumption)
    have q267 : ((rd_T100 l0_1 x23_2).f0) < (x5_2.length : Int) := oT (by first | (with_reducible assumption) | assumption)
    obtain ⟨ad267, e267, hx267_0, hx267_1⟩ := at_T144 (Kd.R_reads' HO_5.out).2.2 ((rd_T100 l0_1 x23_2).f0) p267 q267
    obtain rfl : (⟨go6, 0, none⟩ : Addr) = ad267 := (by injection e267)
    (first | simp only [add_plain] at hx267_0 | simp only [add_at] at hx267_0 | simp only [Addr.add, Nat.zero_add] at hx267_0 | skip)
    (first | simp only [add_plain] at hx267_1 | simp only [add_at] at hx267_1 | simp only [Addr.add, Nat.zero_add] at hx267_1 | skip)
    replace p267 := eq_true p267
    replace q267 := eq_true q267
    refine start_ (n := 7) (S := fun w' => w'.cell? ⟨gb266, 0, none⟩ = some (.int .i64 (wrap64 (((rd_T144 x5_2 ((rd_T100 l0_1 x23_2).f1)).f0) + ((rd_T100 l0_1 x23_2).f2)))) ∧ w'.cell? ⟨gb266, 1, none⟩ = some (.int .i64 (wrap64 (((rd_T144 x5_2 ((rd_T100 l0_1 x23_2).f1)).f1) + 1))) ∧ w'.cell? ⟨gb264, 0, none⟩ = some (.int .i64 ((rd_T100 l0_1 x23_2).f0)) ∧ w'.cell? ⟨gb264, 1, none⟩ = some (.int .i64 ((rd_T100 l0_1 x23_2).f1)) ∧ w'.cell? ⟨gb264, 2, none⟩ = some (.int .i64 ((rd_T100 l0_1 x23_2).f2)) ∧ w'.cell? ⟨gb264, 3, none⟩ = some (.int .i64 ((rd_T100 l0_1 x23_2).f3)) ∧ w'.cell? ⟨gb264, 4, none⟩ = some (.int .i64 ((rd_T100 l0_1 x23_2).f4)) ∧ w'.cell? ⟨go6, (((rd_T100 l0_1 x23_2).f0)).toNat * 2, none⟩ = some (.int .i64 ((rd_T144 x5_2 ((rd_T100 l0_1 x23_2).f0)).f0)) ∧ w'.cell? ⟨go6, (((rd_T100 l0_1 x23_2).f0)).toNat * 2 + 1, none⟩ = some (.int .i64 ((rd_T144 x5_2 ((rd_T100 l0_1 x23_2).f0)).f1))) (ds := []) #[false, false, false, false, false, false, false] (by kernel_rfl) rfl (by kernel_rfl) ⟨(blk_cell BK266.out 0).trans rfl, (blk_cell BK266.out 1).trans rfl, (blk_cell BK264.out 0).trans rfl, (blk_cell BK264.out 1).trans rfl, (blk_cell BK264.out 2).trans rfl, (blk_cell BK264.out 3).trans rfl, (blk_cell BK264.out 4).trans rfl, hx267_0, hx267_1⟩ (fun hHeld => ?_)
    generalize w58.drew = w59 at HO_5 BK255 BK264 BK266 HB hx267_0 hx267_1 hHeld ⊢
    refine pure_ (i := 1) (N := some 45) (v := ?_) (a' := ?_) #[false, true, false, false, false, false, false] rfl rfl (by kernel_rfl) (fun _ _ _ h => h) (Or.inl ⟨by rfl, ?_⟩) ?_ ?_
    rotate_left
    ·intro w'
     go_simp
     with_reducible rfl
    rotate_left
    ·simp only [Act.put, sA, sB, sC, i64_w, i32_w]
     rfl
    refine pure_ (i := 2) (N := some 46) (v := ?_) (a' := ?_) #[false, true, true, false, false, false, false] rfl rfl (by kernel_rfl) (fun _ _ _ h => h) (Or.inl ⟨by rfl, ?_⟩) ?_ ?_
    rotate_left
    ·intro w'
     go_simp
     with_reducible rfl
    rotate_left
    ·simp only [Act.put, sA, sB, sC, i64_w, i32_w]
     rfl
    refine take_ (i := 0) (N := some 44) (v := ?_) (a' := ?_) #[true, true, true, false, false, false, false] rfl rfl (by kernel_rfl) (fun _ _ _ h => h) (Or.inl ⟨by rfl, ?_⟩) hHeld ?_ ?_
    rotate_left
    ·rintro w' ⟨s0, s1, s2, s3, s4, s5, s6, s7, s8⟩
     go_simp
     with_reducible rfl
    rotate_left
    ·simp only [Act.put, sA, sB, sC, i64_w, i32_w]
     rfl
    refine take_ (i := 3) (N := some 47) (v := ?_) (a' := ?_) #[true, true, true, true, false, false, false] rfl rfl (by kernel_rfl) (fun _ _ _ h => h) (Or.inl ⟨by rfl, ?_⟩) hHeld ?_ ?_
    rotate_left
    ·rintro w' ⟨s0, s1, s2, s3, s4, s5, s6, s7, s8⟩
     go_simp
     with_reducible rfl
    rotate_left
    ·simp only [Act.put, sA, sB, sC, i64_w, i32_w]
     rfl
    refine pure_ (i := 4) (N := some 48) (v := ?_) (a' := ?_) #[true, true, true, true, true, false, false] rfl rfl (by kernel_rfl) (fun _ _ _ h => h) (Or.inl ⟨by rfl, ?_⟩) ?_ ?_
    rotate_left
    ·intro w'
     go_simp
     with_reducible rfl
    rotate_left
    ·simp only [Act.put, sA, sB, sC, i64_w, i32_w]
     rfl
    refine take_ (i := 5) (N := some 49) (v := ?_) (a' := ?_) #[true, true, true, true, true, true, false] rfl rfl (by kernel_rfl) (fun _ _ _ h => h) (Or.inl ⟨by rfl, ?_⟩) hHeld ?_ ?_
    rotate_left
    ·rintro w' ⟨s0, s1, s2, s3, s4, s5, s6, s7, s8⟩
     go_simp
     with_reducible rfl
    rotate_left
    ·simp only [Act.put, sA, sB, sC, i64_w, i32_w]
     rfl
    refine one_ (i := 6) (N := some 50) #[true, true, true, true, true, true, true] rfl rfl (by kernel_rfl) (by decide) (fun K hK => ?_)
    refine goes_ Try.func153 (by kernel_rfl) rfl #[.agg #[.int .i64 (wrap64 (((rd_T144 x5_2 ((rd_T100 l0_1 x23_2).f1)).f0) + ((rd_T100 l0_1 x23_2).f2))), .int .i64 (wrap64 (((rd_T144 x5_2 ((rd_T100 l0_1 x23_2).f1)).f1) + 1))], .agg #[.int .i64 ((rd_T144 x5_2 ((rd_T100 l0_1 x23_2).f0)).f0), .int .i64 ((rd_T144 x5_2 ((rd_T100 l0_1 x23_2).f0)).f1)]] (by rfl) rfl rfl (by (try simp only [List.map_toArray, List.map_cons, List.map_nil]); first | done | rfl | (simp only [List.length_drop, List.length_take]; rfl)) ?_
    with_reducible refine (impl_measure_less.calls (wrap64 (((rd_T144 x5_2 ((rd_T100 l0_1 x23_2).f1)).f0) + ((rd_T100 l0_1 x23_2).f2))) (wrap64 (((rd_T144 x5_2 ((rd_T100 l0_1 x23_2).f1)).f1) + 1)) ((rd_T144 x5_2 ((rd_T100 l0_1 x23_2).f0)).f0) ((rd_T144 x5_2 ((rd_T100 l0_1 x23_2).f0)).f1) false _ A32.out).mono ?_
    rintro e w60 ⟨rfl, hb⟩
    have HS7_ := (hb.cell (World.block_lt_of_cell? _ _ (hHeld.2.2.2.2.2.2.2.1))).trans (hHeld.2.2.2.2.2.2.2.1)
    have HS8_ := (hb.cell (World.block_lt_of_cell? _ _ (hHeld.2.2.2.2.2.2.2.2))).trans (hHeld.2.2.2.2.2.2.2.2)
    refine ⟨_, rfl, ?_⟩
    replace HO_5 := Aside0.mk (Kd.R_below (rk HO_5) hb)
    replace BK255 := Aside0.mk (blk_below (bk BK255) hb)
    replace BK264 := Aside0.mk (blk_below (bk BK264) hb)
    replace BK266 := Aside0.mk (blk_below (bk BK266) hb)
    replace HB := Aside0.mk (below_step (bl3 HB GE255 GE264 GE266) hb)
    (try clear hb)
    (try clear hb2)
    (try clear hk)
    (try clear hi)
    refine hK.out _ _ ⟨(blk_cell BK266.out 0).trans rfl, (blk_cell BK266.out 1).trans rfl, (blk_cell BK264.out 0).trans rfl, (blk_cell BK264.out 1).trans rfl, (blk_cell BK264.out 2).trans rfl, (blk_cell BK264.out 3).trans rfl, (blk_cell BK264.out 4).trans rfl, HS7_, HS8_⟩ (fun hHeld => ?_)
    clear hK K
    refine norm_ (a' := ?_) ?_ ?_
    rotate_left
    ·show Act.put _ (some 50) _ = _
     simp only [Act.put, sA, sB, sC, i64_w, i32_w]
     rfl
    refine done_ (by kernel_rfl) ?_
    try go_wp2
    (try simp only [← hl5_2])
    go_roundg k2
    case measure => have := HK1.out; have := HK2.out; omega
    case rel => exact ⟨(x5_2), (x6_2), (wrap64 (x23_2 + 1)), (by first | rfl | (simp; done) | (simp [*]; done)), (by first | rfl | (simp; done) | (simp [*]; done)), H', ⟨by have := HK1.out; have := HK2.out; omega⟩, ⟨by (try simp only [hl5_1]); (try simp only [hl5_2]); (with_reducible repeat (first | apply Kd.R_alloc | apply Kd.R_drewN | apply Kd.R_drew)); exact Kd.R_mono HO_5.out (fun _ hk => trivial)⟩, ⟨by (try simp only [hl5_1]); (try simp only [hl5_2]); (with_reducible repeat (first | refine blk_drewN ?_ _ | refine blk_drew ?_ | refine blk_alloc ?_ _)); exact BK255.out⟩, ⟨bl3 HB GE255 GE264 GE266⟩⟩
   subst c33
   rw [if_pos rfl] at H
   obtain ⟨y269, hy269⟩ : ∃ y_ : List (S144), y_ = (x5_2.set (((rd_T100 l0_1 x23_2).f0) : Int).toNat (⟨wrap64 (((rd_T144 x5_2 ((rd_T100 l0_1 x23_2).f1)).f0) + ((rd_T100 l0_1 x23_2).f2)), wrap64 (((rd_T144 x5_2 ((rd_T100 l0_1 x23_2).f1)).f1) + 1)⟩ : S144)) := ⟨_, rfl⟩
   replace H : (impl_Net_toward.l1 k2 y269 true l0_1 (l0_1.length : Int) (wrap64 (x23_2 + 1)) a0_0 l0_1) = some r := by first | (rw [hy269]; with_reducible exact H) | (have H2_ := (Option.bind_some _ _).symm.trans H; rw [hy269]; with_reducible exact H2_) | (have H2_ := (Option.bind_some _ _).symm.trans H; with_reducible exact H2_) | with_reducible exact H | (rw [hy269]; exact H) | exact H
   have Ny269 := Aside0.mk hy269
   clear hy269
   have H' := Aside0.mk H
   clear H
   have p263 : 0 ≤ (x23_2 : Int) := oT (by first | (with_reducible assumption) | assumption)
   have q263 : x23_2 < (l0_1.length : Int) := oT (by first | (with_reducible assumption) | assumption)
   obtain ⟨ad263, e263, hx263_0, hx263_1, hx263_2, hx263_3, hx263_4⟩ := at_T100 HR0_1.out x23_2 p263 q263
   cases e263
   replace hx263_0 := hcb HB.out hx263_0
   replace hx263_1 := hcb HB.out hx263_1
   replace hx263_2 := hcb HB.out hx263_2
   replace hx263_3 := hcb HB.out hx263_3
   replace hx263_4 := hcb HB.out hx263_4
   replace p263 := eq_true p263
   replace q263 := eq_true q263
   try go_wp2_with (first | ((with_reducible refine gate_dst (N := 8) rfl ?_); refine box_event ?hg (N := 8) ?hd (cs := #[.int .i64 0, .int .i64 0, .int .i64 0, .int .i64 0, .int .i64 0]) (t := 100) ?hr ?_; (case hd => rfl); (case hg => rfl); (case hr => first | (go_simp; done) | (go_simp; rfl)); intro gb264 hg w35 hbox hb; replace HO_5 := Aside0.mk (Kd.R_below (rk HO_5) hb); have BK264 := Aside0.mk (hbox); have GW264 := Aside0.mk ((by rw [hg]; exact (below_size (bl1 HB GE255)) : w.heap.size ≤ gb264)); have GE264 := Aside0.mk ((by rw [hg]; exact (below_size (bl1 HB GE255)) : w.heap.size ≤ gb264)); replace HB := Aside0.mk (below_step (bl1 HB GE255) hb); have NB255_264 := Aside0.mk ((by rw [hg]; exact Nat.ne_of_lt (blk_lt (bk BK255)) : gb255 ≠ gb264)); have NB264_255 := Aside0.mk ((by rw [hg]; exact Nat.ne_of_gt (blk_lt (bk BK255)) : gb264 ≠ gb255)); replace BK255 := Aside0.mk (blk_below (bk BK255) hb); clear hb hbox hg; have hnb36 := NB264_255.out; have hnc36 := NB255_264.out; have hcz37_0 : w35.cell? ⟨gb264, 0, none⟩ = some (.int .i64 0) := (blk_cell BK264.out 0).trans rfl; have hcz37_1 : w35.cell? ⟨gb264, 1, none⟩ = some (.int .i64 0) := (blk_cell BK264.out 1).trans rfl; have hcz37_2 : w35.cell? ⟨gb264, 2, none⟩ = some (.int .i64 0) := (blk_cell BK264.out 2).trans rfl; have hcz37_3 : w35.cell? ⟨gb264, 3, none⟩ = some (.int .i64 0) := (blk_cell BK264.out 3).trans rfl; have hcz37_4 : w35.cell? ⟨gb264, 4, none⟩ = some (.int .i64 0) := (blk_cell BK264.out 4).trans rfl; have hfz37_0 := blk_frozen BK264.out 0; have hfz37_1 := blk_frozen BK264.out 1; have hfz37_2 := blk_frozen BK264.out 2; have hfz37_3 := blk_frozen BK264.out 3; have hfz37_4 := blk_frozen BK264.out 4; have p265 : 0 ≤ (((rd_T100 l0_1 x23_2).f1) : Int) := oT (by first | (with_reducible assumption) | assumption); have q265 : ((rd_T100 l0_1 x23_2).f1) < (x5_2.length : Int) := oT (by first | (with_reducible assumption) | assumption); obtain ⟨ad265, e265, hx265_0, hx265_1⟩ := at_T144 (Kd.R_reads' HO_5.out).2.2 ((rd_T100 l0_1 x23_2).f1) p265 q265; obtain rfl : (⟨go6, 0, none⟩ : Addr) = ad265 := (by injection e265); (first | simp only [add_plain] at hx265_0 | simp only [add_at] at hx265_0 | simp only [Addr.add, Nat.zero_add] at hx265_0 | skip); (first | simp only [add_plain] at hx265_1 | simp only [add_at] at hx265_1 | simp only [Addr.add, Nat.zero_add] at hx265_1 | skip); have hn265_0 : (⟨go6, 0, none⟩ : Addr).block ≠ gb264 := Kd.own_blk (Kd.R_ne HO_5.out BK264.out (by decide)); have hn265_1 : (⟨go6, 0, none⟩ : Addr).block ≠ gb264 := Kd.own_blk (Kd.R_ne HO_5.out BK264.out (by decide)); have hn265_2 : (⟨go6, 0, none⟩ : Addr).block ≠ gb264 := Kd.own_blk (Kd.R_ne HO_5.out BK264.out (by decide)); have hn265_3 : (⟨go6, 0, none⟩ : Addr).block ≠ gb264 := Kd.own_blk (Kd.R_ne HO_5.out BK264.out (by decide)); have hn265_4 : (⟨go6, 0, none⟩ : Addr).block ≠ gb264 := Kd.own_blk (Kd.R_ne HO_5.out BK264.out (by decide)); replace hx265_0 := (cell_far (p := ⟨gb264, 0, none⟩) (by first | (rw [add_block]; exact hn265_0) | (show (Addr.add _ _).block ≠ _; rw [add_block]; exact hn265_0) | exact hn265_0) (.int .i64 ((rd_T100 l0_1 x23_2).f0))).trans hx265_0; replace hx265_1 := (cell_far (p := ⟨gb264, 0, none⟩) (by first | (rw [add_block]; exact hn265_0) | (show (Addr.add _ _).block ≠ _; rw [add_block]; exact hn265_0) | exact hn265_0) (.int .i64 ((rd_T100 l0_1 x23_2).f0))).trans hx265_1; replace hx265_0 := (cell_far (p := ⟨gb264, 1, none⟩) (by first | (rw [add_block]; exact hn265_1) | (show (Addr.add _ _).block ≠ _; rw [add_block]; exact hn265_1) | exact hn265_1) (.int .i64 ((rd_T100 l0_1 x23_2).f1))).trans hx265_0; replace hx265_1 := (cell_far (p := ⟨gb264, 1, none⟩) (by first | (rw [add_block]; exact hn265_1) | (show (Addr.add _ _).block ≠ _; rw [add_block]; exact hn265_1) | exact hn265_1) (.int .i64 ((rd_T100 l0_1 x23_2).f1))).trans hx265_1; replace hx265_0 := (cell_far (p := ⟨gb264, 2, none⟩) (by first | (rw [add_block]; exact hn265_2) | (show (Addr.add _ _).block ≠ _; rw [add_block]; exact hn265_2) | exact hn265_2) (.int .i64 ((rd_T100 l0_1 x23_2).f2))).trans hx265_0; replace hx265_1 := (cell_far (p := ⟨gb264, 2, none⟩) (by first | (rw [add_block]; exact hn265_2) | (show (Addr.add _ _).block ≠ _; rw [add_block]; exact hn265_2) | exact hn265_2) (.int .i64 ((rd_T100 l0_1 x23_2).f2))).trans hx265_1; replace hx265_0 := (cell_far (p := ⟨gb264, 3, none⟩) (by first | (rw [add_block]; exact hn265_3) | (show (Addr.add _ _).block ≠ _; rw [add_block]; exact hn265_3) | exact hn265_3) (.int .i64 ((rd_T100 l0_1 x23_2).f3))).trans hx265_0; replace hx265_1 := (cell_far (p := ⟨gb264, 3, none⟩) (by first | (rw [add_block]; exact hn265_3) | (show (Addr.add _ _).block ≠ _; rw [add_block]; exact hn265_3) | exact hn265_3) (.int .i64 ((rd_T100 l0_1 x23_2).f3))).trans hx265_1; replace hx265_0 := (cell_far (p := ⟨gb264, 4, none⟩) (by first | (rw [add_block]; exact hn265_4) | (show (Addr.add _ _).block ≠ _; rw [add_block]; exact hn265_4) | exact hn265_4) (.int .i64 ((rd_T100 l0_1 x23_2).f4))).trans hx265_0; replace hx265_1 := (cell_far (p := ⟨gb264, 4, none⟩) (by first | (rw [add_block]; exact hn265_4) | (show (Addr.add _ _).block ≠ _; rw [add_block]; exact hn265_4) | exact hn265_4) (.int .i64 ((rd_T100 l0_1 x23_2).f4))).trans hx265_1; clear hn265_0; clear hn265_1; clear hn265_2; clear hn265_3; clear hn265_4; replace p265 := eq_true p265; replace q265 := eq_true q265) | ((with_reducible refine gate_dst (N := 9) rfl ?_); refine box_event ?hg (N := 9) ?hd (cs := #[.int .i64 0, .int .i64 0]) (t := 144) ?hr ?_; (case hd => rfl); (case hg => rfl); (case hr => first | (go_simp; done) | (go_simp; rfl)); intro gb266 hg w38 hbox hb; replace HO_5 := Aside0.mk (Kd.R_below (Kd.R_elderB (by (with_reducible repeat (first | apply Kd.R_alloc | apply Kd.R_drewN | apply Kd.R_drew)); exact (Kd.R_mono (Kd.R_far (p := ⟨gb264, 4, none⟩) (Kd.R_far (p := ⟨gb264, 3, none⟩) (Kd.R_far (p := ⟨gb264, 2, none⟩) (Kd.R_far (p := ⟨gb264, 1, none⟩) (Kd.R_far (p := ⟨gb264, 0, none⟩) (Kd.R_types HO_5.out BK264.out (by decide)) (fun _ hk => hk.2) (.int .i64 ((rd_T100 l0_1 x23_2).f0))) (fun _ hk => hk.2) (.int .i64 ((rd_T100 l0_1 x23_2).f1))) (fun _ hk => hk.2) (.int .i64 ((rd_T100 l0_1 x23_2).f2))) (fun _ hk => hk.2) (.int .i64 ((rd_T100 l0_1 x23_2).f3))) (fun _ hk => hk.2) (.int .i64 ((rd_T100 l0_1 x23_2).f4))) (fun _ h_ => h_.1))) gb266 (Nat.le_of_eq hg.symm)) hb); have BK266 := Aside0.mk (hbox); have GW266 := Aside0.mk ((by rw [hg]; exact (below_size (bl2 HB GE255 GE264)) : w.heap.size ≤ gb266)); have GE266 := Aside0.mk ((by rw [hg]; exact (below_size (bl2 HB GE255 GE264)) : w.heap.size ≤ gb266)); replace HB := Aside0.mk (below_step (bl2 HB GE255 GE264) hb); have NB255_266 := Aside0.mk ((by rw [hg]; exact Nat.ne_of_lt (blk_lt (g := gb255) (o := .cells #[.int .i64 a0_0, .slice (some ad263) l0_1.length c0_1] 30 (0, 0)) (by (with_reducible repeat (first | refine blk_drewN ?_ _ | refine blk_drew ?_ | refine blk_alloc ?_ _)); refine blk_far ?_ NB255_264.out _; refine blk_far ?_ NB255_264.out _; refine blk_far ?_ NB255_264.out _; refine blk_far ?_ NB255_264.out _; refine blk_far ?_ NB255_264.out _; (with_reducible repeat (first | refine blk_drewN ?_ _ | refine blk_drew ?_ | refine blk_alloc ?_ _)); exact BK255.out)) : gb255 ≠ gb266)); have NB266_255 := Aside0.mk ((by rw [hg]; exact Nat.ne_of_gt (blk_lt (g := gb255) (o := .cells #[.int .i64 a0_0, .slice (some ad263) l0_1.length c0_1] 30 (0, 0)) (by (with_reducible repeat (first | refine blk_drewN ?_ _ | refine blk_drew ?_ | refine blk_alloc ?_ _)); refine blk_far ?_ NB255_264.out _; refine blk_far ?_ NB255_264.out _; refine blk_far ?_ NB255_264.out _; refine blk_far ?_ NB255_264.out _; refine blk_far ?_ NB255_264.out _; (with_reducible repeat (first | refine blk_drewN ?_ _ | refine blk_drew ?_ | refine blk_alloc ?_ _)); exact BK255.out)) : gb266 ≠ gb255)); replace BK255 := Aside0.mk (blk_below (g := gb255) (o := .cells #[.int .i64 a0_0, .slice (some ad263) l0_1.length c0_1] 30 (0, 0)) (by (with_reducible repeat (first | refine blk_drewN ?_ _ | refine blk_drew ?_ | refine blk_alloc ?_ _)); refine blk_far ?_ NB255_264.out _; refine blk_far ?_ NB255_264.out _; refine blk_far ?_ NB255_264.out _; refine blk_far ?_ NB255_264.out _; refine blk_far ?_ NB255_264.out _; (with_reducible repeat (first | refine blk_drewN ?_ _ | refine blk_drew ?_ | refine blk_alloc ?_ _)); exact BK255.out) hb); have NB264_266 := Aside0.mk ((by rw [hg]; exact Nat.ne_of_lt (blk_lt (g := gb264) (o := .cells #[.int .i64 ((rd_T100 l0_1 x23_2).f0), .int .i64 ((rd_T100 l0_1 x23_2).f1), .int .i64 ((rd_T100 l0_1 x23_2).f2), .int .i64 ((rd_T100 l0_1 x23_2).f3), .int .i64 ((rd_T100 l0_1 x23_2).f4)] 100 (0, 0)) (by (with_reducible repeat (first | refine blk_drewN ?_ _ | refine blk_drew ?_ | refine blk_alloc ?_ _)); refine blk_put (cs := #[.int .i64 ((rd_T100 l0_1 x23_2).f0), .int .i64 ((rd_T100 l0_1 x23_2).f1), .int .i64 ((rd_T100 l0_1 x23_2).f2), .int .i64 ((rd_T100 l0_1 x23_2).f3), .int .i64 0]) ?_ 4 _ rfl; refine blk_put (cs := #[.int .i64 ((rd_T100 l0_1 x23_2).f0), .int .i64 ((rd_T100 l0_1 x23_2).f1), .int .i64 ((rd_T100 l0_1 x23_2).f2), .int .i64 0, .int .i64 0]) ?_ 3 _ rfl; refine blk_put (cs := #[.int .i64 ((rd_T100 l0_1 x23_2).f0), .int .i64 ((rd_T100 l0_1 x23_2).f1), .int .i64 0, .int .i64 0, .int .i64 0]) ?_ 2 _ rfl; refine blk_put (cs := #[.int .i64 ((rd_T100 l0_1 x23_2).f0), .int .i64 0, .int .i64 0, .int .i64 0, .int .i64 0]) ?_ 1 _ rfl; refine blk_put (cs := #[.int .i64 0, .int .i64 0, .int .i64 0, .int .i64 0, .int .i64 0]) ?_ 0 _ rfl; (with_reducible repeat (first | refine blk_drewN ?_ _ | refine blk_drew ?_ | refine blk_alloc ?_ _)); exact BK264.out)) : gb264 ≠ gb266)); have NB266_264 := Aside0.mk ((by rw [hg]; exact Nat.ne_of_gt (blk_lt (g := gb264) (o := .cells #[.int .i64 ((rd_T100 l0_1 x23_2).f0), .int .i64 ((rd_T100 l0_1 x23_2).f1), .int .i64 ((rd_T100 l0_1 x23_2).f2), .int .i64 ((rd_T100 l0_1 x23_2).f3), .int .i64 ((rd_T100 l0_1 x23_2).f4)] 100 (0, 0)) (by (with_reducible repeat (first | refine blk_drewN ?_ _ | refine blk_drew ?_ | refine blk_alloc ?_ _)); refine blk_put (cs := #[.int .i64 ((rd_T100 l0_1 x23_2).f0), .int .i64 ((rd_T100 l0_1 x23_2).f1), .int .i64 ((rd_T100 l0_1 x23_2).f2), .int .i64 ((rd_T100 l0_1 x23_2).f3), .int .i64 0]) ?_ 4 _ rfl; refine blk_put (cs := #[.int .i64 ((rd_T100 l0_1 x23_2).f0), .int .i64 ((rd_T100 l0_1 x23_2).f1), .int .i64 ((rd_T100 l0_1 x23_2).f2), .int .i64 0, .int .i64 0]) ?_ 3 _ rfl; refine blk_put (cs := #[.int .i64 ((rd_T100 l0_1 x23_2).f0), .int .i64 ((rd_T100 l0_1 x23_2).f1), .int .i64 0, .int .i64 0, .int .i64 0]) ?_ 2 _ rfl; refine blk_put (cs := #[.int .i64 ((rd_T100 l0_1 x23_2).f0), .int .i64 0, .int .i64 0, .int .i64 0, .int .i64 0]) ?_ 1 _ rfl; refine blk_put (cs := #[.int .i64 0, .int .i64 0, .int .i64 0, .int .i64 0, .int .i64 0]) ?_ 0 _ rfl; (with_reducible repeat (first | refine blk_drewN ?_ _ | refine blk_drew ?_ | refine blk_alloc ?_ _)); exact BK264.out)) : gb266 ≠ gb264)); replace BK264 := Aside0.mk (blk_below (g := gb264) (o := .cells #[.int .i64 ((rd_T100 l0_1 x23_2).f0), .int .i64 ((rd_T100 l0_1 x23_2).f1), .int .i64 ((rd_T100 l0_1 x23_2).f2), .int .i64 ((rd_T100 l0_1 x23_2).f3), .int .i64 ((rd_T100 l0_1 x23_2).f4)] 100 (0, 0)) (by (with_reducible repeat (first | refine blk_drewN ?_ _ | refine blk_drew ?_ | refine blk_alloc ?_ _)); refine blk_put (cs := #[.int .i64 ((rd_T100 l0_1 x23_2).f0), .int .i64 ((rd_T100 l0_1 x23_2).f1), .int .i64 ((rd_T100 l0_1 x23_2).f2), .int .i64 ((rd_T100 l0_1 x23_2).f3), .int .i64 0]) ?_ 4 _ rfl; refine blk_put (cs := #[.int .i64 ((rd_T100 l0_1 x23_2).f0), .int .i64 ((rd_T100 l0_1 x23_2).f1), .int .i64 ((rd_T100 l0_1 x23_2).f2), .int .i64 0, .int .i64 0]) ?_ 3 _ rfl; refine blk_put (cs := #[.int .i64 ((rd_T100 l0_1 x23_2).f0), .int .i64 ((rd_T100 l0_1 x23_2).f1), .int .i64 0, .int .i64 0, .int .i64 0]) ?_ 2 _ rfl; refine blk_put (cs := #[.int .i64 ((rd_T100 l0_1 x23_2).f0), .int .i64 0, .int .i64 0, .int .i64 0, .int .i64 0]) ?_ 1 _ rfl; refine blk_put (cs := #[.int .i64 0, .int .i64 0, .int .i64 0, .int .i64 0, .int .i64 0]) ?_ 0 _ rfl; (with_reducible repeat (first | refine blk_drewN ?_ _ | refine blk_drew ?_ | refine blk_alloc ?_ _)); exact BK264.out) hb); clear hb hbox hg; have hnb39 := NB266_255.out; have hnc39 := NB255_266.out; have hnb40 := NB266_264.out; have hnc40 := NB264_266.out; have hcz41_0 : w38.cell? ⟨gb266, 0, none⟩ = some (.int .i64 0) := (blk_cell BK266.out 0).trans rfl; have hcz41_1 : w38.cell? ⟨gb266, 1, none⟩ = some (.int .i64 0) := (blk_cell BK266.out 1).trans rfl; have hfz41_0 := blk_frozen BK266.out 0; have hfz41_1 := blk_frozen BK266.out 1; have hcz42_0 : w38.cell? ⟨gb264, 0, none⟩ = some (.int .i64 ((rd_T100 l0_1 x23_2).f0)) := (blk_cell BK264.out 0).trans rfl; have hcz42_1 : w38.cell? ⟨gb264, 1, none⟩ = some (.int .i64 ((rd_T100 l0_1 x23_2).f1)) := (blk_cell BK264.out 1).trans rfl; have hcz42_2 : w38.cell? ⟨gb264, 2, none⟩ = some (.int .i64 ((rd_T100 l0_1 x23_2).f2)) := (blk_cell BK264.out 2).trans rfl; have hcz42_3 : w38.cell? ⟨gb264, 3, none⟩ = some (.int .i64 ((rd_T100 l0_1 x23_2).f3)) := (blk_cell BK264.out 3).trans rfl; have hcz42_4 : w38.cell? ⟨gb264, 4, none⟩ = some (.int .i64 ((rd_T100 l0_1 x23_2).f4)) := (blk_cell BK264.out 4).trans rfl; have hfz42_0 := blk_frozen BK264.out 0; have hfz42_1 := blk_frozen BK264.out 1; have hfz42_2 := blk_frozen BK264.out 2; have hfz42_3 := blk_frozen BK264.out 3; have hfz42_4 := blk_frozen BK264.out 4))
   have n0_ : Aside0 (Kd.R k144 144 ((((w38.setCell ⟨gb266, 0, none⟩ (.int .i64 ((rd_T144 x5_2 ((rd_T100 l0_1 x23_2).f1)).f0))).setCell ⟨gb266, 1, none⟩ (.int .i64 ((rd_T144 x5_2 ((rd_T100 l0_1 x23_2).f1)).f1))).setCell ⟨gb266, 0, none⟩ (.int .i64 (wrap64 (((rd_T144 x5_2 ((rd_T100 l0_1 x23_2).f1)).f0) + ((rd_T100 l0_1 x23_2).f2))))).setCell ⟨gb266, 1, none⟩ (.int .i64 (wrap64 (((rd_T144 x5_2 ((rd_T100 l0_1 x23_2).f1)).f1) + 1)))) w.heap.size (fun k_ => k_ ≠ gb266) (.slice (some ⟨go6, 0, none⟩) x5_2.length co6) x5_2) := ⟨by (with_reducible repeat (first | apply Kd.R_alloc | apply Kd.R_drewN | apply Kd.R_drew)); exact Kd.R_mono (Kd.R_far (p := ⟨gb266, 1, none⟩) (Kd.R_far (p := ⟨gb266, 0, none⟩) (Kd.R_far (p := ⟨gb266, 1, none⟩) (Kd.R_far (p := ⟨gb266, 0, none⟩) (Kd.R_mono HO_5.out (fun k_ hk => (⟨hk, hk.2⟩ : _ ∧ k_ ≠ gb266))) (fun _ hk => hk.2) (.int .i64 ((rd_T144 x5_2 ((rd_T100 l0_1 x23_2).f1)).f0))) (fun _ hk => hk.2) (.int .i64 ((rd_T144 x5_2 ((rd_T100 l0_1 x23_2).f1)).f1))) (fun _ hk => hk.2) (.int .i64 (wrap64 (((rd_T144 x5_2 ((rd_T100 l0_1 x23_2).f1)).f0) + ((rd_T100 l0_1 x23_2).f2))))) (fun _ hk => hk.2) (.int .i64 (wrap64 (((rd_T144 x5_2 ((rd_T100 l0_1 x23_2).f1)).f1) + 1)))) (fun _ hk => hk.1.2)⟩
   have n1_ : Aside0 (((((w38.setCell ⟨gb266, 0, none⟩ (.int .i64 ((rd_T144 x5_2 ((rd_T100 l0_1 x23_2).f1)).f0))).setCell ⟨gb266, 1, none⟩ (.int .i64 ((rd_T144 x5_2 ((rd_T100 l0_1 x23_2).f1)).f1))).setCell ⟨gb266, 0, none⟩ (.int .i64 (wrap64 (((rd_T144 x5_2 ((rd_T100 l0_1 x23_2).f1)).f0) + ((rd_T100 l0_1 x23_2).f2))))).setCell ⟨gb266, 1, none⟩ (.int .i64 (wrap64 (((rd_T144 x5_2 ((rd_T100 l0_1 x23_2).f1)).f1) + 1)))).heap[gb255]? = some (.cells #[.int .i64 a0_0, .slice (some ad263) l0_1.length c0_1] 30 (0, 0))) := ⟨by (with_reducible repeat (first | refine blk_drewN ?_ _ | refine blk_drew ?_ | refine blk_alloc ?_ _)); refine blk_far ?_ NB255_266.out _; refine blk_far ?_ NB255_266.out _; refine blk_far ?_ NB255_266.out _; refine blk_far ?_ NB255_266.out _; (with_reducible repeat (first | refine blk_drewN ?_ _ | refine blk_drew ?_ | refine blk_alloc ?_ _)); exact BK255.out⟩
   have n2_ : Aside0 (((((w38.setCell ⟨gb266, 0, none⟩ (.int .i64 ((rd_T144 x5_2 ((rd_T100 l0_1 x23_2).f1)).f0))).setCell ⟨gb266, 1, none⟩ (.int .i64 ((rd_T144 x5_2 ((rd_T100 l0_1 x23_2).f1)).f1))).setCell ⟨gb266, 0, none⟩ (.int .i64 (wrap64 (((rd_T144 x5_2 ((rd_T100 l0_1 x23_2).f1)).f0) + ((rd_T100 l0_1 x23_2).f2))))).setCell ⟨gb266, 1, none⟩ (.int .i64 (wrap64 (((rd_T144 x5_2 ((rd_T100 l0_1 x23_2).f1)).f1) + 1)))).heap[gb264]? = some (.cells #[.int .i64 ((rd_T100 l0_1 x23_2).f0), .int .i64 ((rd_T100 l0_1 x23_2).f1), .int .i64 ((rd_T100 l0_1 x23_2).f2), .int .i64 ((rd_T100 l0_1 x23_2).f3), .int .i64 ((rd_T100 l0_1 x23_2).f4)] 100 (0, 0))) := ⟨by (with_reducible repeat (first | refine blk_drewN ?_ _ | refine blk_drew ?_ | refine blk_alloc ?_ _)); refine blk_far ?_ NB264_266.out _; refine blk_far ?_ NB264_266.out _; refine blk_far ?_ NB264_266.out _; refine blk_far ?_ NB264_266.out _; (with_reducible repeat (first | refine blk_drewN ?_ _ | refine blk_drew ?_ | refine blk_alloc ?_ _)); exact BK264.out⟩
   have n3_ : Aside0 (((((w38.setCell ⟨gb266, 0, none⟩ (.int .i64 ((rd_T144 x5_2 ((rd_T100 l0_1 x23_2).f1)).f0))).setCell ⟨gb266, 1, none⟩ (.int .i64 ((rd_T144 x5_2 ((rd_T100 l0_1 x23_2).f1)).f1))).setCell ⟨gb266, 0, none⟩ (.int .i64 (wrap64 (((rd_T144 x5_2 ((rd_T100 l0_1 x23_2).f1)).f0) + ((rd_T100 l0_1 x23_2).f2))))).setCell ⟨gb266, 1, none⟩ (.int .i64 (wrap64 (((rd_T144 x5_2 ((rd_T100 l0_1 x23_2).f1)).f1) + 1)))).heap[gb266]? = some (.cells #[.int .i64 (wrap64 (((rd_T144 x5_2 ((rd_T100 l0_1 x23_2).f1)).f0) + ((rd_T100 l0_1 x23_2).f2))), .int .i64 (wrap64 (((rd_T144 x5_2 ((rd_T100 l0_1 x23_2).f1)).f1) + 1))] 144 (0, 0))) := ⟨by (with_reducible repeat (first | refine blk_drewN ?_ _ | refine blk_drew ?_ | refine blk_alloc ?_ _)); refine blk_put (cs := #[.int .i64 (wrap64 (((rd_T144 x5_2 ((rd_T100 l0_1 x23_2).f1)).f0) + ((rd_T100 l0_1 x23_2).f2))), .int .i64 ((rd_T144 x5_2 ((rd_T100 l0_1 x23_2).f1)).f1)]) ?_ 1 _ rfl; (with_reducible repeat (first | refine blk_drewN ?_ _ | refine blk_drew ?_ | refine blk_alloc ?_ _)); refine blk_put (cs := #[.int .i64 ((rd_T144 x5_2 ((rd_T100 l0_1 x23_2).f1)).f0), .int .i64 ((rd_T144 x5_2 ((rd_T100 l0_1 x23_2).f1)).f1)]) ?_ 0 _ rfl; (with_reducible repeat (first | refine blk_drewN ?_ _ | refine blk_drew ?_ | refine blk_alloc ?_ _)); refine blk_put (cs := #[.int .i64 ((rd_T144 x5_2 ((rd_T100 l0_1 x23_2).f1)).f0), .int .i64 0]) ?_ 1 _ rfl; (with_reducible repeat (first | refine blk_drewN ?_ _ | refine blk_drew ?_ | refine blk_alloc ?_ _)); refine blk_put (cs := #[.int .i64 0, .int .i64 0]) ?_ 0 _ rfl; (with_reducible repeat (first | refine blk_drewN ?_ _ | refine blk_drew ?_ | refine blk_alloc ?_ _)); exact BK266.out⟩
   have n4_ : Aside0 (Below w.heap.size w ((((w38.setCell ⟨gb266, 0, none⟩ (.int .i64 ((rd_T144 x5_2 ((rd_T100 l0_1 x23_2).f1)).f0))).setCell ⟨gb266, 1, none⟩ (.int .i64 ((rd_T144 x5_2 ((rd_T100 l0_1 x23_2).f1)).f1))).setCell ⟨gb266, 0, none⟩ (.int .i64 (wrap64 (((rd_T144 x5_2 ((rd_T100 l0_1 x23_2).f1)).f0) + ((rd_T100 l0_1 x23_2).f2))))).setCell ⟨gb266, 1, none⟩ (.int .i64 (wrap64 (((rd_T144 x5_2 ((rd_T100 l0_1 x23_2).f1)).f1) + 1))))) := ⟨bl3 HB GE255 GE264 GE266⟩
   (try clear HO_5)
   (try clear BK255)
   (try clear BK264)
   (try clear BK266)
   (try clear HB)
   generalize ((((w38.setCell ⟨gb266, 0, none⟩ (.int .i64 ((rd_T144 x5_2 ((rd_T100 l0_1 x23_2).f1)).f0))).setCell ⟨gb266, 1, none⟩ (.int .i64 ((rd_T144 x5_2 ((rd_T100 l0_1 x23_2).f1)).f1))).setCell ⟨gb266, 0, none⟩ (.int .i64 (wrap64 (((rd_T144 x5_2 ((rd_T100 l0_1 x23_2).f1)).f0) + ((rd_T100 l0_1 x23_2).f2))))).setCell ⟨gb266, 1, none⟩ (.int .i64 (wrap64 (((rd_T144 x5_2 ((rd_T100 l0_1 x23_2).f1)).f1) + 1)))) = w43 at n0_ n1_ n2_ n3_ n4_ ⊢
   have HO_5 := n0_
   have BK255 := n1_
   have BK264 := n2_
   have BK266 := n3_
   have HB := n4_
   clear n0_ n1_ n2_ n3_ n4_
   replace HO_5 := Aside0.mk (Kd.R_drew HO_5.out)
   replace BK255 := Aside0.mk (blk_drew BK255.out)
   replace BK264 := Aside0.mk (blk_drew BK264.out)
   replace BK266 := Aside0.mk (blk_drew BK266.out)
   replace HB := Aside0.mk (below_drew1 HB.out)
   have p267 : 0 ≤ (((rd_T100 l0_1 x23_2).f0) : Int) := oT (by first | (with_reducible assumption) | assumption)
   have q267 : ((rd_T100 l0_1 x23_2).f0) < (x5_2.length : Int) := oT (by first | (with_reducible assumption) | assumption)
   obtain ⟨ad267, e267, hx267_0, hx267_1⟩ := at_T144 (Kd.R_reads' HO_5.out).2.2 ((rd_T100 l0_1 x23_2).f0) p267 q267
   obtain rfl : (⟨go6, 0, none⟩ : Addr) = ad267 := (by injection e267)
   (first | simp only [add_plain] at hx267_0 | simp only [add_at] at hx267_0 | simp only [Addr.add, Nat.zero_add] at hx267_0 | skip)
   (first | simp only [add_plain] at hx267_1 | simp only [add_at] at hx267_1 | simp only [Addr.add, Nat.zero_add] at hx267_1 | skip)
   replace p267 := eq_true p267
   replace q267 := eq_true q267
   refine start_ (n := 7) (S := fun w' => w'.cell? ⟨gb266, 0, none⟩ = some (.int .i64 (wrap64 (((rd_T144 x5_2 ((rd_T100 l0_1 x23_2).f1)).f0) + ((rd_T100 l0_1 x23_2).f2)))) ∧ w'.cell? ⟨gb266, 1, none⟩ = some (.int .i64 (wrap64 (((rd_T144 x5_2 ((rd_T100 l0_1 x23_2).f1)).f1) + 1))) ∧ w'.cell? ⟨gb264, 0, none⟩ = some (.int .i64 ((rd_T100 l0_1 x23_2).f0)) ∧ w'.cell? ⟨gb264, 1, none⟩ = some (.int .i64 ((rd_T100 l0_1 x23_2).f1)) ∧ w'.cell? ⟨gb264, 2, none⟩ = some (.int .i64 ((rd_T100 l0_1 x23_2).f2)) ∧ w'.cell? ⟨gb264, 3, none⟩ = some (.int .i64 ((rd_T100 l0_1 x23_2).f3)) ∧ w'.cell? ⟨gb264, 4, none⟩ = some (.int .i64 ((rd_T100 l0_1 x23_2).f4)) ∧ w'.cell? ⟨go6, (((rd_T100 l0_1 x23_2).f0)).toNat * 2, none⟩ = some (.int .i64 ((rd_T144 x5_2 ((rd_T100 l0_1 x23_2).f0)).f0)) ∧ w'.cell? ⟨go6, (((rd_T100 l0_1 x23_2).f0)).toNat * 2 + 1, none⟩ = some (.int .i64 ((rd_T144 x5_2 ((rd_T100 l0_1 x23_2).f0)).f1))) (ds := []) #[false, false, false, false, false, false, false] (by kernel_rfl) rfl (by kernel_rfl) ⟨(blk_cell BK266.out 0).trans rfl, (blk_cell BK266.out 1).trans rfl, (blk_cell BK264.out 0).trans rfl, (blk_cell BK264.out 1).trans rfl, (blk_cell BK264.out 2).trans rfl, (blk_cell BK264.out 3).trans rfl, (blk_cell BK264.out 4).trans rfl, hx267_0, hx267_1⟩ (fun hHeld => ?_)
   generalize w43.drew = w44 at HO_5 BK255 BK264 BK266 HB hx267_0 hx267_1 hHeld ⊢
   refine pure_ (i := 1) (N := some 45) (v := ?_) (a' := ?_) #[false, true, false, false, false, false, false] rfl rfl (by kernel_rfl) (fun _ _ _ h => h) (Or.inl ⟨by rfl, ?_⟩) ?_ ?_
   rotate_left
   ·intro w'
    go_simp
    with_reducible rfl
   rotate_left
   ·simp only [Act.put, sA, sB, sC, i64_w, i32_w]
    rfl
   refine pure_ (i := 2) (N := some 46) (v := ?_) (a' := ?_) #[false, true, true, false, false, false, false] rfl rfl (by kernel_rfl) (fun _ _ _ h => h) (Or.inl ⟨by rfl, ?_⟩) ?_ ?_
   rotate_left
   ·intro w'
    go_simp
    with_reducible rfl
   rotate_left
   ·simp only [Act.put, sA, sB, sC, i64_w, i32_w]
    rfl
   refine take_ (i := 0) (N := some 44) (v := ?_) (a' := ?_) #[true, true, true, false, false, false, false] rfl rfl (by kernel_rfl) (fun _ _ _ h => h) (Or.inl ⟨by rfl, ?_⟩) hHeld ?_ ?_
   rotate_left
   ·rintro w' ⟨s0, s1, s2, s3, s4, s5, s6, s7, s8⟩
    go_simp
    with_reducible rfl
   rotate_left
   ·simp only [Act.put, sA, sB, sC, i64_w, i32_w]
    rfl
   refine take_ (i := 3) (N := some 47) (v := ?_) (a' := ?_) #[true, true, true, true, false, false, false] rfl rfl (by kernel_rfl) (fun _ _ _ h => h) (Or.inl ⟨by rfl, ?_⟩) hHeld ?_ ?_
   rotate_left
   ·rintro w' ⟨s0, s1, s2, s3, s4, s5, s6, s7, s8⟩
    go_simp
    with_reducible rfl
   rotate_left
   ·simp only [Act.put, sA, sB, sC, i64_w, i32_w]
    rfl
   refine pure_ (i := 4) (N := some 48) (v := ?_) (a' := ?_) #[true, true, true, true, true, false, false] rfl rfl (by kernel_rfl) (fun _ _ _ h => h) (Or.inl ⟨by rfl, ?_⟩) ?_ ?_
   rotate_left
   ·intro w'
    go_simp
    with_reducible rfl
   rotate_left
   ·simp only [Act.put, sA, sB, sC, i64_w, i32_w]
    rfl
   refine take_ (i := 5) (N := some 49) (v := ?_) (a' := ?_) #[true, true, true, true, true, true, false] rfl rfl (by kernel_rfl) (fun _ _ _ h => h) (Or.inl ⟨by rfl, ?_⟩) hHeld ?_ ?_
   rotate_left
   ·rintro w' ⟨s0, s1, s2, s3, s4, s5, s6, s7, s8⟩
    go_simp
    with_reducible rfl
   rotate_left
   ·simp only [Act.put, sA, sB, sC, i64_w, i32_w]
    rfl
   refine one_ (i := 6) (N := some 50) #[true, true, true, true, true, true, true] rfl rfl (by kernel_rfl) (by decide) (fun K hK => ?_)
   refine goes_ Try.func153 (by kernel_rfl) rfl #[.agg #[.int .i64 (wrap64 (((rd_T144 x5_2 ((rd_T100 l0_1 x23_2).f1)).f0) + ((rd_T100 l0_1 x23_2).f2))), .int .i64 (wrap64 (((rd_T144 x5_2 ((rd_T100 l0_1 x23_2).f1)).f1) + 1))], .agg #[.int .i64 ((rd_T144 x5_2 ((rd_T100 l0_1 x23_2).f0)).f0), .int .i64 ((rd_T144 x5_2 ((rd_T100 l0_1 x23_2).f0)).f1)]] (by rfl) rfl rfl (by (try simp only [List.map_toArray, List.map_cons, List.map_nil]); first | done | rfl | (simp only [List.length_drop, List.length_take]; rfl)) ?_
   with_reducible refine (impl_measure_less.calls (wrap64 (((rd_T144 x5_2 ((rd_T100 l0_1 x23_2).f1)).f0) + ((rd_T100 l0_1 x23_2).f2))) (wrap64 (((rd_T144 x5_2 ((rd_T100 l0_1 x23_2).f1)).f1) + 1)) ((rd_T144 x5_2 ((rd_T100 l0_1 x23_2).f0)).f0) ((rd_T144 x5_2 ((rd_T100 l0_1 x23_2).f0)).f1) true _ A32.out).mono ?_
   rintro e w45 ⟨rfl, hb⟩
   have HS7_ := (hb.cell (World.block_lt_of_cell? _ _ (hHeld.2.2.2.2.2.2.2.1))).trans (hHeld.2.2.2.2.2.2.2.1)
   have HS8_ := (hb.cell (World.block_lt_of_cell? _ _ (hHeld.2.2.2.2.2.2.2.2))).trans (hHeld.2.2.2.2.2.2.2.2)
   refine ⟨_, rfl, ?_⟩
   replace HO_5 := Aside0.mk (Kd.R_below (rk HO_5) hb)
   replace BK255 := Aside0.mk (blk_below (bk BK255) hb)
   replace BK264 := Aside0.mk (blk_below (bk BK264) hb)
   replace BK266 := Aside0.mk (blk_below (bk BK266) hb)
   replace HB := Aside0.mk (below_step (bl3 HB GE255 GE264 GE266) hb)
   (try clear hb)
   (try clear hb2)
   (try clear hk)
   (try clear hi)
   refine hK.out _ _ ⟨(blk_cell BK266.out 0).trans rfl, (blk_cell BK266.out 1).trans rfl, (blk_cell BK264.out 0).trans rfl, (blk_cell BK264.out 1).trans rfl, (blk_cell BK264.out 2).trans rfl, (blk_cell BK264.out 3).trans rfl, (blk_cell BK264.out 4).trans rfl, HS7_, HS8_⟩ (fun hHeld => ?_)
   clear hK K
   refine norm_ (a' := ?_) ?_ ?_
   rotate_left
   ·show Act.put _ (some 50) _ = _
    simp only [Act.put, sA, sB, sC, i64_w, i32_w]
    rfl
   refine done_ (by kernel_rfl) ?_
   have hcz46_0 : w45.cell? ⟨gb264, 0, none⟩ = some (.int .i64 ((rd_T100 l0_1 x23_2).f0)) := (blk_cell BK264.out 0).trans rfl
   have hcz46_1 : w45.cell? ⟨gb264, 1, none⟩ = some (.int .i64 ((rd_T100 l0_1 x23_2).f1)) := (blk_cell BK264.out 1).trans rfl
   have hcz46_2 : w45.cell? ⟨gb264, 2, none⟩ = some (.int .i64 ((rd_T100 l0_1 x23_2).f2)) := (blk_cell BK264.out 2).trans rfl
   have hcz46_3 : w45.cell? ⟨gb264, 3, none⟩ = some (.int .i64 ((rd_T100 l0_1 x23_2).f3)) := (blk_cell BK264.out 3).trans rfl
   have hcz46_4 : w45.cell? ⟨gb264, 4, none⟩ = some (.int .i64 ((rd_T100 l0_1 x23_2).f4)) := (blk_cell BK264.out 4).trans rfl
   have hfz46_0 := blk_frozen BK264.out 0
   have hfz46_1 := blk_frozen BK264.out 1
   have hfz46_2 := blk_frozen BK264.out 2
   have hfz46_3 := blk_frozen BK264.out 3
   have hfz46_4 := blk_frozen BK264.out 4
   have hcz47_0 : w45.cell? ⟨gb266, 0, none⟩ = some (.int .i64 (wrap64 (((rd_T144 x5_2 ((rd_T100 l0_1 x23_2).f1)).f0) + ((rd_T100 l0_1 x23_2).f2)))) := (blk_cell BK266.out 0).trans rfl
   have hcz47_1 : w45.cell? ⟨gb266, 1, none⟩ = some (.int .i64 (wrap64 (((rd_T144 x5_2 ((rd_T100 l0_1 x23_2).f1)).f1) + 1))) := (blk_cell BK266.out 1).trans rfl
   have hfz47_0 := blk_frozen BK266.out 0
   have hfz47_1 := blk_frozen BK266.out 1
   have p34 : 0 ≤ (((rd_T100 l0_1 x23_2).f0) : Int) := oT (by first | (with_reducible assumption) | assumption)
   have q34 : (((rd_T100 l0_1 x23_2).f0) : Int) < ((x5_2.length : Int) : Int) := oT (by first | (with_reducible assumption) | assumption)
   obtain ⟨ce34, hcl34, hM34, hcc34, hfr34⟩ := Kd.R_elem HO_5.out z144 (((rd_T100 l0_1 x23_2).f0) : Int) p34 q34
   obtain rfl := k144_openM hM34
   have hx34_0 : w45.cell? ⟨go6, (((rd_T100 l0_1 x23_2).f0) : Int).toNat * 2, none⟩ = some (.int .i64 ((rd_T144 x5_2 ((rd_T100 l0_1 x23_2).f0)).f0)) := hcc34 0 _ rfl
   have hx34_1 : w45.cell? ⟨go6, (((rd_T100 l0_1 x23_2).f0) : Int).toNat * 2 + 1, none⟩ = some (.int .i64 ((rd_T144 x5_2 ((rd_T100 l0_1 x23_2).f0)).f1)) := hcc34 1 _ rfl
   have hf34_0 : w45.frozen? ⟨go6, (((rd_T100 l0_1 x23_2).f0) : Int).toNat * 2, none⟩ = false := hfr34 0
   have hf34_1 : w45.frozen? ⟨go6, (((rd_T100 l0_1 x23_2).f0) : Int).toNat * 2 + 1, none⟩ = false := hfr34 1
   clear hcl34 hcc34 hfr34 hM34
   replace p34 := eq_true p34
   replace q34 := eq_true q34
   have HX48 := Aside0.mk (show Kd.R k144 144 w45 w.heap.size (fun k_ => k_ ≠ gb266) (.slice (some ⟨go6, 0, none⟩) x5_2.length co6) x5_2 from (rk HO_5))
   obtain ⟨ce48, hcl48, hM48, hcc48, hfr48⟩ := Kd.R_elem HX48.out z144 (((rd_T100 l0_1 x23_2).f0) : Int) (oT (by first | (with_reducible assumption) | assumption)) (by have h_ : (((rd_T100 l0_1 x23_2).f0) : Int) < ((x5_2.length : Int) : Int) := oT (by first | (with_reducible assumption) | assumption); first | exact h_ | (have e_ := (Kd.R_reads' HO_5.out).1; omega) | simpa using h_)
   obtain rfl := k144_openM hM48
   have HP48 := Kd.R_seg HX48.out (((rd_T100 l0_1 x23_2).f0) : Int) (oT (by first | (with_reducible assumption) | assumption)) (by have h_ : (((rd_T100 l0_1 x23_2).f0) : Int) < ((x5_2.length : Int) : Int) := oT (by first | (with_reducible assumption) | assumption); first | exact h_ | (have e_ := (Kd.R_reads' HO_5.out).1; omega) | simpa using h_) (seg := [.int .i64 (wrap64 (((rd_T144 x5_2 ((rd_T100 l0_1 x23_2).f1)).f0) + ((rd_T100 l0_1 x23_2).f2))), .int .i64 (wrap64 (((rd_T144 x5_2 ((rd_T100 l0_1 x23_2).f1)).f1) + 1))]) (j := 0) hcl48 hcc48 (show 2 ≤ 2 from by decide) (x' := (⟨wrap64 (((rd_T144 x5_2 ((rd_T100 l0_1 x23_2).f1)).f0) + ((rd_T100 l0_1 x23_2).f2)), wrap64 (((rd_T144 x5_2 ((rd_T100 l0_1 x23_2).f1)).f1) + 1)⟩ : S144)) (k144_mkM _ _ _ (⟨wrap64 (((rd_T144 x5_2 ((rd_T100 l0_1 x23_2).f1)).f0) + ((rd_T100 l0_1 x23_2).f2)), wrap64 (((rd_T144 x5_2 ((rd_T100 l0_1 x23_2).f1)).f1) + 1)⟩ : S144) ) (fun _ hk => hk)
   have hx48_0 := hcc48 0 _ rfl
   (try simp only [show (k144).sz = 2 from rfl, Nat.mul_one, Nat.add_zero] at hx48_0)
   have hf48_0 := hfr48 0
   (try simp only [show (k144).sz = 2 from rfl, Nat.mul_one, Nat.add_zero] at hf48_0)
   have hx48_1 := hcc48 1 _ rfl
   (try simp only [show (k144).sz = 2 from rfl, Nat.mul_one, Nat.add_zero] at hx48_1)
   have hf48_1 := hfr48 1
   (try simp only [show (k144).sz = 2 from rfl, Nat.mul_one, Nat.add_zero] at hf48_1)
   clear hcl48 hcc48 hfr48 hM48
   try go_wp2_with (first | ((with_reducible refine gate_store (t := 144) (p := 55) rfl ?_); refine store_event (t := 144) (p := 55) (v := ?vo_w49) (w1 := ((w45.setCell ⟨go6, (((rd_T100 l0_1 x23_2).f0) : Int).toNat * 2, none⟩ (.int .i64 (wrap64 (((rd_T144 x5_2 ((rd_T100 l0_1 x23_2).f1)).f0) + ((rd_T100 l0_1 x23_2).f2))))).setCell ⟨go6, (((rd_T100 l0_1 x23_2).f0) : Int).toNat * 2 + 1, none⟩ (.int .i64 (wrap64 (((rd_T144 x5_2 ((rd_T100 l0_1 x23_2).f1)).f1) + 1))))) ?hg ?ho ?hn ?hr ?_; (case ho => rfl); (case hg => rfl); (case hn => rfl); (case hr => first | (go_simp; done) | (go_simp; rfl)); intro w49 hw; have hg : w45.grownBy w49 (some go6) := (by rw [hw]; exact HP48.2); have hp_ : Kd.R k144 144 w49 w.heap.size (fun k_ => k_ ≠ gb266) (.slice (some ⟨go6, 0, none⟩) x5_2.length co6) y269 := (by rw [hw, Ny269.out]; exact HP48.1); clear HP48; replace BK255 := Aside0.mk (blk_grown (bk BK255) hg (Kd.R_ne HO_5.out BK255.out (by decide))); replace BK264 := Aside0.mk (blk_grown (bk BK264) hg (Kd.R_ne HO_5.out BK264.out (by decide))); replace BK266 := Aside0.mk (blk_grown (bk BK266) hg (Kd.R_away HO_5.out (fun _ hk => hk))); replace HO_5 := Aside0.mk (hp_); replace HB := Aside0.mk ((by rw [hw]; exact below_set (below_set (HB.out) GB6.out) GB6.out : Below w.heap.size w w49)); clear hg hw hp_))
   (try simp only [← hl5_2])
   go_roundg k2
   case measure => have := HK1.out; have := HK2.out; omega
   case rel => exact ⟨(y269), (true), (wrap64 (x23_2 + 1)), (by first | rfl | (simp; done) | (simp [*]; done)), (by first | rfl | (simp; done) | (simp [*]; done)), H', ⟨by have := HK1.out; have := HK2.out; omega⟩, ⟨by (try simp only [hl5_1]); (try simp only [hl5_2]); (with_reducible repeat (first | apply Kd.R_alloc | apply Kd.R_drewN | apply Kd.R_drew)); exact Kd.R_mono HO_5.out (fun _ hk => trivial)⟩, ⟨by (try simp only [hl5_1]); (try simp only [hl5_2]); (with_reducible repeat (first | refine blk_drewN ?_ _ | refine blk_drew ?_ | refine blk_alloc ?_ _)); exact BK255.out⟩, ⟨bl3 HB GE255 GE264 GE266⟩⟩

end Go.Proofs.Ytbappbbljncdeaa.F
