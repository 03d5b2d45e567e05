-- Printed by wip/px/px.py of this claim's repository (the kit's printer, extended there). Lean checks it.
import Derived.Test.YtlgolgfcolnddaaFKinds
import Derived.Test.YtlgolgfcolnddaaFspecl14Go
namespace Go.Proofs.Ytlgolgfcolnddaa.F
open Go.RowKit Go.Proofs.YtlgolgfcolnddaaW.PrintWords Go.Proofs.YtlgolgfcolnddaaW.PrintLast Go.Proofs.YtlgolgfcolnddaaW.PrintMore
attribute [local go_sem] max2_int min2_int max_two min_two max_three min_three max_four min_four   -- for this text's walks alone
set_option linter.unusedVariables false
set_option linter.unusedSimpArgs false

/-! ### spec_l14Some: function 55 -/
def spec_l14Some.l0 : Nat → List (S103) → List (List Int) → Int → Option ((List (List Int)))
 | 0, _, _, _ => none
 | k + 1, x10, x11, x12 => if x12 < (x10.length : Int) then (if 0 ≤ x12 then (if x11.length < 5864062014805 then (spec_l14Some.l0 k x10 (x11 ++ [(rd_T103 x10 x12).f0]) (wrap64 (x12 + 1))) else (none)) else (none)) else (some x11)
def spec_l14Some.f (k : Nat) (a0_0 : Int) (l0_1 : List (S58)) (a1 : Int) (a2 : Int) (a3 : Int) : Option ((List (List Int))) := if 0 ≤ a0_0 then (if (a0_0 : Int).toNat ≤ 281474976710656 then ((some (List.replicate (a0_0 : Int).toNat false : List Bool)).bind fun y273 => (if 0 ≤ a1 then (if a1 < (y273.length : Int) then ((spec_l14Go.f k a0_0 l0_1 a2 a3 a1 (y273.set (a1 : Int).toNat true) ([] : List Int) 0 ([] : List (S103))).bind fun bt277 => (spec_l14Some.l0 k bt277.1 (([] : List (List Int))) 0)) else (none)) else (none))) else (none)) else (none)
theorem spec_l14Some.mono_l : ∀ k, (∀ y0 y1 y2, LeO (spec_l14Some.l0 k y0 y1 y2) (spec_l14Some.l0 (k + 1) y0 y1 y2))
 | 0 => fun _ _ _ r h => by simp [spec_l14Some.l0] at h
 | k + 1 => by
  have ih0 := spec_l14Some.mono_l k
  ·intro y0 y1 y2
   unfold spec_l14Some.l0
   repeat' first
   | (with_reducible exact ih0 _ _ _)
   | (with_reducible exact spec_l14Go.mono _ _ _ _ _ _ _ _ _ _)
   | (with_reducible exact LeO.refl _)
   | (with_reducible exact LeO.none _)
   | (with_reducible refine LeO.ite ?_ ?_)
   | (with_reducible refine LeO.bind ?_ (fun _ => ?_))
   | exact ih0 _ _ _
   | exact spec_l14Go.mono _ _ _ _ _ _ _ _ _ _
   | exact LeO.none _
   | refine LeO.ite ?_ ?_
   | refine LeO.bind ?_ (fun _ => ?_)
theorem spec_l14Some.mono : ∀ a0 a1 a2 a3 a4 k, LeO (spec_l14Some.f k a0 a1 a2 a3 a4) (spec_l14Some.f (k + 1) a0 a1 a2 a3 a4) := by
 intro a0 a1 a2 a3 a4 k
 have ih0 := spec_l14Some.mono_l k
 unfold spec_l14Some.f
 repeat' first
   | (with_reducible exact ih0 _ _ _)
   | (with_reducible exact spec_l14Go.mono _ _ _ _ _ _ _ _ _ _)
   | (with_reducible exact LeO.refl _)
   | (with_reducible exact LeO.none _)
   | (with_reducible refine LeO.ite ?_ ?_)
   | (with_reducible refine LeO.bind ?_ (fun _ => ?_))
   | exact ih0 _ _ _
   | exact spec_l14Go.mono _ _ _ _ _ _ _ _ _ _
   | exact LeO.none _
   | refine LeO.ite ?_ ?_
   | refine LeO.bind ?_ (fun _ => ?_)
set_option maxHeartbeats 8000000 in
set_option maxRecDepth 100000 in
theorem spec_l14Some.calls (k : Nat) (a0_0 : Int) (A0_1 : Option Addr) (c0_1 : Nat) (l0_1 : List (S58)) (a1 : Int) (a2 : Int) (a3 : Int) (r : List (List Int)) (w : World) (hr0_1 : Kd.C k58 w A0_1 l0_1.length l0_1) (hc0_1 : l0_1.length ≤ c0_1) (h : spec_l14Some.f k a0_0 l0_1 a1 a2 a3 = some r) :
  Calls Try.prog 55 #[.agg #[.int .i64 a0_0, .slice A0_1 l0_1.length c0_1], .int .i64 a1, .int .i64 a2, .int .i64 a3] w fun e w' => ∃ v0_ : Value, e = .returned (v0_) ∧ Kd.N (Kd.slice 3 (Kd.int .i64)) 33 w' w.heap.size (fun k_ => (w.heap.size ≤ k_)) v0_ r ∧ Below w.heap.size w w' := by
 have hu25 := Try.underlying25
 have hu103 := Try.underlying103
 have HR0_1 := ak hr0_1
 have HC0_1 := ak hc0_1
 clear hr0_1 hc0_1
 have HB := ak (Below.refl w.heap.size w)
 have H : (if 0 ≤ a0_0 then (if (a0_0 : Int).toNat ≤ 281474976710656 then ((some (List.replicate (a0_0 : Int).toNat false : List Bool)).bind fun y273 => (if 0 ≤ a1 then (if a1 < (y273.length : Int) then ((spec_l14Go.f k a0_0 l0_1 a2 a3 a1 (y273.set (a1 : Int).toNat true) ([] : List Int) 0 ([] : List (S103))).bind fun bt277 => (spec_l14Some.l0 k bt277.1 (([] : List (List Int))) 0)) else (none)) else (none))) else (none)) else (none)) = some r := h
 clear h
 by_cases c5 : 0 ≤ a0_0
 rotate_left
 ·rw [if_neg c5] at H
  exact absurd H (by simp)
 rw [if_pos c5] at H
 have c5b0 := eq_true c5
 have c5b1 : decide (0 ≤ a0_0) = true := decide_eq_true c5
 clear c5
 by_cases c6 : (a0_0 : Int).toNat ≤ 281474976710656
 rotate_left
 ·rw [if_neg c6] at H
  exact absurd H (by simp)
 rw [if_pos c6] at H
 have c6b0 := eq_true c6
 have c6b1 : decide ((a0_0 : Int).toNat ≤ 281474976710656) = true := decide_eq_true c6
 clear c6
 obtain ⟨y273, hy273⟩ : ∃ y_ : List Bool, y_ = (List.replicate (a0_0 : Int).toNat false) := ⟨_, rfl⟩
 replace H : (if 0 ≤ a1 then (if a1 < (y273.length : Int) then ((spec_l14Go.f k a0_0 l0_1 a2 a3 a1 (y273.set (a1 : Int).toNat true) ([] : List Int) 0 ([] : List (S103))).bind fun bt277 => (spec_l14Some.l0 k bt277.1 (([] : List (List Int))) 0)) else (none)) else (none)) = some r := by first | (rw [hy273]; with_reducible exact H) | (have H2_ := (Option.bind_some _ _).symm.trans H; rw [hy273]; with_reducible exact H2_) | (have H2_ := (Option.bind_some _ _).symm.trans H; with_reducible exact H2_) | with_reducible exact H | (rw [hy273]; exact H) | exact H
 have Ny273 := ak hy273
 clear hy273
 by_cases c7 : 0 ≤ a1
 rotate_left
 ·rw [if_neg c7] at H
  exact absurd H (by simp)
 rw [if_pos c7] at H
 have c7b0 : decide (0 ≤ a1) = true := decide_eq_true c7
 clear c7
 by_cases c8 : a1 < (y273.length : Int)
 rotate_left
 ·rw [if_neg c8] at H
  exact absurd H (by simp)
 rw [if_pos c8] at H
 have c8b0 : decide (a1 < (y273.length : Int)) = true := decide_eq_true c8
 clear c8
 obtain ⟨y276, hy276⟩ : ∃ y_ : List Bool, y_ = (y273.set (a1 : Int).toNat true) := ⟨_, rfl⟩
 replace H : ((spec_l14Go.f k a0_0 l0_1 a2 a3 a1 y276 ([] : List Int) 0 ([] : List (S103))).bind fun bt277 => (spec_l14Some.l0 k bt277.1 (([] : List (List Int))) 0)) = some r := by first | (rw [hy276]; with_reducible exact H) | (have H2_ := (Option.bind_some _ _).symm.trans H; rw [hy276]; with_reducible exact H2_) | (have H2_ := (Option.bind_some _ _).symm.trans H; with_reducible exact H2_) | with_reducible exact H | (rw [hy276]; exact H) | exact H
 have Ny276 := ak hy276
 clear hy276
 replace H := Option.bind_eq_some_iff.mp H
 obtain ⟨⟨t277, t280⟩, A100, H⟩ := H
 have A10 := ak A100
 clear A100
 obtain ⟨y281, hy281⟩ : ∃ y_ : List (List Int), y_ = (([] : List (List Int))) := ⟨_, rfl⟩
 replace H : (spec_l14Some.l0 k t277 y281 0) = some r := by first | (rw [hy281]; with_reducible exact H) | (have H2_ := (Option.bind_some _ _).symm.trans H; rw [hy281]; with_reducible exact H2_) | (have H2_ := (Option.bind_some _ _).symm.trans H; with_reducible exact H2_) | with_reducible exact H | (rw [hy281]; exact H) | exact H
 have Ny281 := ak hy281
 clear hy281
 have H' := ak H
 clear H
 go_enter Try.func55, Try.ntmps55
 go_wp2_with (first | ((with_reducible refine gate_dst (N := 4) rfl ?_); refine box_event ?hg (N := 4) ?hd (cs := #[.int .i64 a0_0, .slice A0_1 l0_1.length c0_1]) (t := 25) ?hr ?_; (case hd => rfl); (case hg => rfl); (case hr => first | (go_simp; done) | (go_simp; rfl)); intro gb272 hg w11 hbox hb; have BK272 := ak (hbox); have GW272 := ak ((by rw [hg]; exact (below_size (bl HB)) : w.heap.size ≤ gb272)); have GE272 := ak ((by rw [hg]; exact (below_size (bl HB)) : w.heap.size ≤ gb272)); replace HB := ak (below_step (bl HB) hb); clear hb hbox hg; have hcz12_0 := bc w11 BK272 0 (.int .i64 a0_0) rfl; have hcz12_1 := bc w11 BK272 1 (.slice A0_1 l0_1.length c0_1) rfl; have hfz12_0 := fz BK272 0; have hfz12_1 := fz BK272 1) | ((with_reducible refine gate_dst (N := 15) rfl ?_); refine Kd.R_make Kd.bool _ 4 rfl (N := 15) rfl 99 _ _ rfl a0_0 rfl rfl Try.underlying99 (.bool false) 1 info4 rfl (by decide) (by omega) false (ok := fun _ => True) (okp := fun _ => True) rfl (fun _ hk => hk) trivial (oT (by first | (with_reducible assumption) | assumption)) (Nat.le_trans (Nat.mul_le_mul_right _ (oT (by first | (with_reducible assumption) | assumption) : a0_0.toNat ≤ 281474976710656)) (by omega)) (Below.refl _ _) (Nat.le_refl _) ?_; intro v274 w13 ho14 hb hg_ hnew_; clear hg_ hnew_; (first | rw [← Ny273.out] at ho14 | (simp only [Int.reduceToNat] at ho14; rw [← Ny273.out] at ho14)); have HO275 := ak (Kd.R_lower (Kd.R_newM (M := fun k_ => (w.heap.size ≤ k_)) ho14 (below_size (bl1 HB GE272)) (fun k_ h_ => h_)) (below_size (bl1 HB GE272))); replace BK272 := ak (blk_below (bk BK272) hb); replace HB := ak (below_step (bl1 HB GE272) hb); clear hb ho14; have p9 : 0 ≤ (a1 : Int) := oT (by first | (with_reducible assumption) | assumption); have q9 : (a1 : Int) < ((y273.length : Int) : Int) := oT (by first | (with_reducible assumption) | assumption); obtain ⟨go9, co9, eo9, gb9, gl9, cl9, HG9⟩ := Kd.R_form HO275.out (by omega); (first | cases eo9 | (injection eo9 with ea_ en_ ec_; (first | subst ea_ | (injection ea_ with ea_; subst ea_)); subst ec_; clear en_)); have GB9 := ak gb9; have GG9 := ak HG9; clear gb9 gl9 HG9; obtain ⟨hx9_0, hf9_0⟩ := Kd.R_celln false HO275.out (a1 : Int) p9 q9; replace p9 := eq_true p9; replace q9 := eq_true q9; have n_ := ak (Kd.R_mono (ok' := (fun k_ => (w.heap.size ≤ k_))) HO275.out (fun k_ hk => hk.1)); clear HO275; have HO275 := n_; clear n_; obtain ⟨hy15_, hz15_⟩ := Kd.R_celln false HO275.out (a1 : Int) (oT (by first | (with_reducible assumption) | assumption)) (oT (by first | (with_reducible assumption) | assumption)); have HP15 := Kd.R_putg HO275.out (a1 : Int) true) | ((with_reducible refine gate_store (t := 4) (p := 18) rfl ?_); refine store_event (t := 4) (p := 18) (v := ?vo_w16) (w1 := (w13.setCell ⟨go9, (a1 : Int).toNat, none⟩ (.bool true))) ?hg ?ho ?hn ?hr ?_; (case ho => rfl); (case hg => rfl); (case hn => rfl); (case hr => first | (go_simp; done) | (go_simp; rfl)); intro w16 hw; have hg : w13.grownBy w16 (some go9) := (by rw [hw]; exact HP15.2); have hp_ : Kd.R Kd.bool 4 w16 w.heap.size (fun k_ => (w.heap.size ≤ k_)) (.slice (some ⟨go9, 0, none⟩) y273.length co9) y276 := (by rw [hw, Ny276.out]; exact HP15.1); clear HP15; replace BK272 := ak (blk_grown (bk BK272) hg (Kd.R_ne HO275.out BK272.out (by decide))); replace HO275 := ak (hp_); replace HB := ak ((by rw [hw]; exact below_set (HB.out) GB9.out : Below w.heap.size w w16)); clear hg hw hp_; have hcz17_0 := bc w16 BK272 0 (.int .i64 a0_0) rfl; have hcz17_1 := bc w16 BK272 1 (.slice A0_1 l0_1.length c0_1) rfl; have hfz17_0 := fz BK272 0; have hfz17_1 := fz BK272 1) | ((with_reducible refine gate_callee (f := 90) rfl ?_); refine goesL_ (some 25) rfl rfl Try.func90 (by kernel_rfl) rfl #[.agg #[.int .i64 a0_0, .slice A0_1 l0_1.length c0_1], .int .i64 a2, .int .i64 a3, .int .i64 a1, .slice (some ⟨go9, 0, none⟩) y273.length co9, .agg #[.slice none 0 0, .int .i64 0], .slice none 0 0] rfl (by (try simp only [List.map_toArray, List.map_cons, List.map_nil]); first | done | rfl | (simp only [List.length_drop, List.length_take]; rfl)) ?_; (refine (spec_l14Go.calls k a0_0 _ _ l0_1 a2 a3 a1 (fun k_ => some k_ = (.slice (some ⟨go9, 0, none⟩) y273.length co9 : Value).ownBlock) (.slice (some ⟨go9, 0, none⟩) y273.length co9) y276 _ _ ([] : List Int) 0 (fun k_ => False) _ _ ([] : List (S103)) t277 t280 w _ ?side1 ?side2 ?side3 ?side4 ?side5 ?side6 ?side7 A10.out).mono ?_); (case side1 => repeat (first | (with_reducible first | exact HB.out | apply below_alloc | apply pw_below_drewN | apply below_drew1 | refine below_set ?_ GE272.out) | exact HB.out)); (case side2 => exact Kd.C_kept_came k58_heap HR0_1.out (bl1 HB GE272) (fun k_ hs_ => (fun e_ => Kd.R_base HO275.out k_ e_.symm) hs_)); (case side3 => exact HC0_1.out); (case side4 => exact Kd.R_tight rfl HO275.out); (case side5 => exact Kd.C_kept_nil); (case side6 => exact Nat.le_refl _); (case side7 => exact Kd.V_nil _ _ _ _ _); rintro e w18 ⟨v278, rfl, ho0, hy0, hb, hkp⟩; refine ⟨_, rfl, ?_⟩; have HO279 := ak (Kd.V_mono (ok' := fun k_ => (w.heap.size ≤ k_) ∧ some k_ ≠ (.slice (some ⟨go9, 0, none⟩) y273.length co9 : Value).ownBlock ∧ k_ ≠ gb272) ho0 (fun k_ hk_ => ⟨Or.elim hk_.1 (fun hs_ => Or.elim hs_ (fun hs_ => (HO275.out.1 k_ (hs_).symm)) (fun hs_ => (hs_).elim)) (fun hn_ => (Nat.le_trans (below_size (bl1 HB GE272)) hn_)), hk_.2, Or.elim hk_.1 (fun hs_ => Or.elim hs_ (fun hs_ => fun e_ => (Kd.R_ne HO275.out BK272.out (by decide)) (by rw [← e_]; exact hs_)) (fun hs_ => (hs_).elim)) (fun hn_ => (Kd.freshB (bk BK272) k_ hn_))⟩)); replace BK272 := ak (blk_kept (bk BK272) hkp (fun hs_ => (fun e_ => (Kd.R_ne HO275.out BK272.out (by decide)) e_) hs_)); replace HO275 := ak (Kd.R_reok rfl hy0 (fun k_ e_ => HO275.out.1 k_ e_)); replace HB := ak (hb); (try clear hb); (try clear hkp); (try clear ho0); (try clear hy0)) | ((with_reducible refine gate_dst (N := 26) rfl ?_); refine Kd.N_lit (Kd.slice 3 (Kd.int .i64)) _ 33 ?hg (N' := 26) ?hd (xs := ([] : List (List Int))) (inner := []) (ok := (fun k_ => (w.heap.size ≤ k_) ∧ some k_ ≠ (.slice (some ⟨go9, 0, none⟩) y273.length co9 : Value).ownBlock ∧ k_ ≠ gb272)) (okp := (fun k_ => (w.heap.size ≤ k_) ∧ some k_ ≠ (.slice (some ⟨go9, 0, none⟩) y273.length co9 : Value).ownBlock ∧ k_ ≠ gb272)) ?hr ?hp (fun _ hk => hk) ((show ∀ k_, w18.heap.size ≤ k_ → (fun k_ => (w.heap.size ≤ k_) ∧ some k_ ≠ (.slice (some ⟨go9, 0, none⟩) y273.length co9 : Value).ownBlock ∧ k_ ≠ gb272) k_ from fun k_ hk => ⟨(Nat.le_trans (below_size (bl1 HB GE272)) hk), Kd.fresh' (Kd.R_lt (rk HO275)) k_ hk, Kd.freshB (bk BK272) k_ hk⟩) _ (Nat.le_refl _)) (Below.refl _ _) (Nat.le_refl _) (by simp) ?_; (case hd => rfl); (case hg => rfl); (case hr => first | (go_simp; done) | (go_simp; rfl)); (case hp => exact (Reps.none _ _)); intro v282 w19 ho20 hb hg_ hnew_; clear hg_ hnew_; (first | rw [← Ny281.out] at ho20 | (simp only [Int.reduceToNat] at ho20; rw [← Ny281.out] at ho20)); replace HO275 := ak (Kd.R_below (rk HO275) hb); replace HO279 := ak (Kd.V_elder' (by (with_reducible repeat (first | apply Kd.V_alloc | apply Kd.V_drewN | apply Kd.V_drew)); exact HO279.out) (Kd.N_base ho20) hb); have HO283 := ak (Kd.N_lower ho20 (below_size (bl1 HB GE272))); replace BK272 := ak (blk_below (bk BK272) hb); replace HB := ak (below_step (bl1 HB GE272) hb); clear hb ho20))
 go_loopg [11, 12] k (fun kq v11 v12 w' => ∃ (x11_1 : List (List Int)) (x12_1 : Int), v12 = .int .i64 x12_1 ∧ Aside0 (spec_l14Some.l0 kq t277 x11_1 x12_1 = some r) ∧ Aside0 (kq ≤ k) ∧ Aside0 (Kd.V k103 103 w' w.heap.size (fun k_ => (w.heap.size ≤ k_) ∧ some k_ ≠ (v11 : Value).ownBlock ∧ k_ ≠ gb272) v278 t277) ∧ Aside0 (Kd.N (Kd.slice 3 (Kd.int .i64)) 33 w' w.heap.size (fun k_ => (w.heap.size ≤ k_) ∧ k_ ≠ gb272) v11 x11_1) ∧ Aside0 (w'.heap[gb272]? = some (.cells #[.int .i64 a0_0, (.slice A0_1 l0_1.length c0_1)] 25 (0, 0))) ∧ Aside0 (Below w.heap.size w w'))
 case atStart => exact ⟨(y281), (0), (by first | rfl | (simp; done) | (simp [*]; done)), H', ⟨Nat.le_refl _⟩, ⟨by (with_reducible repeat (first | apply Kd.V_alloc | apply Kd.V_drewN | apply Kd.V_drew)); exact Kd.V_mono HO279.out (fun _ hk => ⟨hk.1.1, ⟨hk.2, hk.1.2.2⟩⟩)⟩, ⟨by (with_reducible repeat (first | apply Kd.N_alloc | apply Kd.N_drewN | apply Kd.N_drew)); exact Kd.N_mono HO283.out (fun _ hk => ⟨hk.1, hk.2.2⟩)⟩, ⟨bk BK272⟩, ⟨bl1 HB GE272⟩⟩
 clear H'
 try clear p2
 try clear c5
 try clear c5b0
 try clear c5b1
 try clear c6
 try clear c6b0
 try clear c6b1
 try clear c7
 try clear c7b0
 try clear c8
 try clear c8b0
 try clear c9
 try clear p9
 try clear q9
 try clear hx9
 try clear hf9
 try clear hcz12_0
 try clear hcz12_1
 try clear hcz17_0
 try clear hcz17_1
 try clear hfz12_0
 try clear hfz12_1
 try clear hfz17_0
 try clear hfz17_1
 try clear hx9_0
 try clear p9
 try clear q9
 obtain ⟨x11_1, x12_1, rfl, HA, HK1, HO_10, HO_11, BK272, HB⟩ := hrel
 cases gk with
 | zero => exact absurd HA.out (by simp [spec_l14Some.l0])
 | succ k1 =>
  have H := HA.out
  clear HA
  simp only [spec_l14Some.l0] at H
  by_cases c21 : x12_1 < (t277.length : Int)
  rotate_left
  ·rw [if_neg c21] at H
   have c21b0 : decide (x12_1 < (t277.length : Int)) = false := decide_eq_false c21
   clear c21
   obtain rfl := Option.some.inj H
   obtain ⟨Ao26, co26, eo26⟩ := Kd.V_slice HO_10.out
   subst eo26
   go_wp2
   go_ret
   exact ⟨_, by first | rfl | (simp [errW_none, errW_some] <;> rfl) | (simp [*, errW_none, errW_some] <;> rfl), by (with_reducible repeat (first | apply Kd.N_alloc | apply Kd.N_drewN | apply Kd.N_drew)); exact Kd.N_mono HO_11.out (fun _ hk => hk.1), bl1 HB GE272⟩
  rw [if_pos c21] at H
  have c21b0 : decide (x12_1 < (t277.length : Int)) = true := decide_eq_true c21
  clear c21
  by_cases c22 : 0 ≤ x12_1
  rotate_left
  ·rw [if_neg c22] at H
   exact absurd H (by simp)
  rw [if_pos c22] at H
  have c22b0 : decide (0 ≤ x12_1) = true := decide_eq_true c22
  clear c22
  by_cases c23 : x11_1.length < 5864062014805
  rotate_left
  ·rw [if_neg c23] at H
   exact absurd H (by simp)
  rw [if_pos c23] at H
  have LMc23 := ak c23
  clear c23
  obtain ⟨y285, hy285⟩ : ∃ y_ : List (List Int), y_ = (x11_1 ++ [(rd_T103 t277 x12_1).f0]) := ⟨_, rfl⟩
  replace H : (spec_l14Some.l0 k1 t277 y285 (wrap64 (x12_1 + 1))) = some r := by first | (rw [hy285]; with_reducible exact H) | (have H2_ := (Option.bind_some _ _).symm.trans H; rw [hy285]; with_reducible exact H2_) | (have H2_ := (Option.bind_some _ _).symm.trans H; with_reducible exact H2_) | with_reducible exact H | (rw [hy285]; exact H) | exact H
  have Ny285 := ak hy285
  clear hy285
  have H' := ak H
  clear H
  obtain ⟨Ao24, co24, eo24⟩ := Kd.V_slice HO_10.out
  subst eo24
  have p284 : 0 ≤ (x12_1 : Int) := oT (by first | (with_reducible assumption) | assumption)
  have q284 : x12_1 < (t277.length : Int) := oT (by first | (with_reducible assumption) | assumption)
  obtain ⟨ad284, A284_0, c284_0, e284, hx284_0, hx284_1, hl284_0, hi284_0⟩ := at_T103 (Kd.V_reads' HO_10.out).2.2 x12_1 p284 q284
  cases e284
  obtain ⟨ce284, hce284, hMe284, hcc284⟩ := Kd.V_get HO_10.out z103 x12_1 p284 (by first | exact q284 | exact oT (by first | (with_reducible assumption) | assumption) | (have e_ := (Kd.V_reads' HO_10.out).1; omega))
  obtain ⟨ua284_0, uc284_0, rfl, ul284_0, ge284_0⟩ := k103_openF hMe284
  have hv284_0 := hcc284 0 _ rfl
  rw [Nat.add_zero] at hv284_0
  replace hv284_0 := Option.some.inj (hv284_0.symm.trans hx284_0)
  injection hv284_0 with hva_ hvn_ hvc_
  rw [hva_] at ge284_0
  rw [hvc_] at ul284_0
  have HL284_0 := ak (show Kd.V (Kd.int .i64) 3 _ w.heap.size _ _ ((rd_T103 t277 x12_1).f0) from Kd.V_mk ul284_0 ge284_0)
  clear hva_ hvn_ hvc_ ge284_0 ul284_0
  clear hcc284 hce284
  have HR284_0 := ak hi284_0
  have HC284_0 := ak hl284_0
  clear hi284_0 hl284_0
  replace p284 := eq_true p284
  replace q284 := eq_true q284
  go_wp2_with (first | ((with_reducible refine gate_builtin (b := .append) (xs := #[.tmp 33, .tmp 39]) rfl ?_); at_builtin; refine Kd.N_append (Kd.slice 3 (Kd.int .i64)) (w0 := w) w.heap.size rfl (.tmp 33) (.tmp 39) 28 33 (.slice none 0 0) 24 rfl Try.underlying28 info33 rfl (by decide) (by omega) u11 x11_1 ((rd_T103 t277 x12_1).f0) [.slice A284_0 ((rd_T103 t277 x12_1).f0).length c284_0] (fun k_ => (w.heap.size ≤ k_) ∧ k_ ≠ gb272) (fun k_ => ((fun k_ => (w.heap.size ≤ k_) ∧ k_ ≠ gb272)) k_ ∧ some k_ ≠ (u11 : Value).ownBlock) rfl rfl ?aP (fun _ hk => hk) ?aF ?aO ?aB ?aS ?aL ?_; (case aP => exact (Kd.FK_slice_mk (Kd.V_reads' (Kd.V_mono (ok' := (fun k_ => ((fun k_ => (w.heap.size ≤ k_) ∧ k_ ≠ gb272)) k_ ∧ some k_ ≠ (u11 : Value).ownBlock)) (HL284_0.out) (fun k_ hk => ⟨⟨hk.1, hk.2.2⟩, hk.2.1⟩))).2.1 (Kd.V_F (Kd.V_mono (ok' := (fun k_ => ((fun k_ => (w.heap.size ≤ k_) ∧ k_ ≠ gb272)) k_ ∧ some k_ ≠ (u11 : Value).ownBlock)) (HL284_0.out) (fun k_ hk => ⟨⟨hk.1, hk.2.2⟩, hk.2.1⟩))))); (case aB => exact (bl1 HB GE272)); (case aF => exact (fun k_ hk => ⟨(Nat.le_trans (below_size (bl1 HB GE272)) hk), Kd.freshB (bk BK272) k_ hk⟩)); (case aO => exact (by (with_reducible repeat (first | apply Kd.N_alloc | apply Kd.N_drewN | apply Kd.N_drew)); exact HO_11.out)); (case aS => exact (below_size (bl1 HB GE272))); (case aL => have := LMc23.out; omega); intro v286 w25 ho hb hg hat; rw [← Ny285.out] at ho; have n0_ := ak (Kd.V_afterv (ok := (fun k_ => (w.heap.size ≤ k_) ∧ k_ ≠ gb272)) (by (with_reducible repeat (first | apply Kd.V_alloc | apply Kd.V_drewN | apply Kd.V_drew)); exact Kd.V_mono HO_10.out (fun _ hk => ⟨⟨hk.1, hk.2.2⟩, hk.2.1⟩)) hg hat); have n1_ := ak (blk_grown (bk BK272) hg (Kd.N_ne HO_11.out BK272.out (by decide))); have n2_ := ak (Kd.V_afterv (ok := (fun k_ => (w.heap.size ≤ k_) ∧ k_ ≠ gb272)) (by (with_reducible repeat (first | apply Kd.V_alloc | apply Kd.V_drewN | apply Kd.V_drew)); exact Kd.V_mono HL284_0.out (fun _ hk => ⟨⟨hk.1, hk.2.2⟩, hk.2.1⟩)) hg hat); have n3_ := ak (hb); have n4_ := ak (ho); clear HO_10; clear BK272; clear HL284_0; clear HB; clear HO_11; have HO_10 := n0_; have BK272 := n1_; have HL284_0 := n2_; have HB := n3_; have HO287 := n4_; clear n0_ n1_ n2_ n3_ n4_; clear ho hb hg hat))
  go_roundg k1
  case measure => have := HK1.out; omega
  case rel => exact ⟨(y285), (wrap64 (x12_1 + 1)), (by first | rfl | (simp; done) | (simp [*]; done)), H', ⟨by have := HK1.out; omega⟩, ⟨by (with_reducible repeat (first | apply Kd.V_alloc | apply Kd.V_drewN | apply Kd.V_drew)); exact Kd.V_mono HO_10.out (fun _ hk => ⟨hk.1.1, ⟨hk.2, hk.1.2⟩⟩)⟩, ⟨by (with_reducible repeat (first | apply Kd.N_alloc | apply Kd.N_drewN | apply Kd.N_drew)); exact HO287.out⟩, ⟨bk BK272⟩, ⟨bl1 HB GE272⟩⟩

end Go.Proofs.Ytlgolgfcolnddaa.F
