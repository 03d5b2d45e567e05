-- Printed by wip/px/px.py of this claim's repository (the kit's printer, extended there). Lean checks it.
import Derived.Test.YtlgolgfcolnddaaFKinds
import Derived.Test.YtlgolgfcolnddaaFlawswkGrid
import Derived.Test.YtlgolgfcolnddaaFimplNetOk
import Derived.Test.YtlgolgfcolnddaaFimplSomeWalks
import Derived.Test.YtlgolgfcolnddaaFspecDrawSomeWalks
import Derived.Test.YtlgolgfcolnddaaFspecSomeWalks
namespace Go.Proofs.Ytlgolgfcolnddaa.F
open Go.RowKit Go.Proofs.YtlgolgfcolnddaaW.PrintWords Go.Proofs.YtlgolgfcolnddaaW.PrintLast Go.Proofs.YtlgolgfcolnddaaW.PrintMore
attribute [local go_sem] max2_int min2_int max_two min_two max_three min_three max_four min_four   -- for this text's walks alone
set_option linter.unusedVariables false
set_option linter.unusedSimpArgs false

/-! ### laws_FnSomeFew: function 7 -/
def laws_FnSomeFew.j0 : Nat → Int → Int → Int → List (List Int) → Bool → Int → List (S58) → Option (Bool)
 | 0, _, _, _, _, _, _, _ => none
 | k + 1, x4, x5, x6, x7, x41, x496000, x496001 => if x41 = true then ((spec_SomeWalks.f k x496000 x496001 x4 x5 x6).bind fun t504 => ((laws_wkGrid.f k x7 t504).bind fun t507 => (some t507))) else ((impl_SomeWalks.f x496000 x496001 x4 x5 6).bind fun t508 => (if (t508.length : Int) > x6 then (if 0 ≤ x6 then (if x6 ≤ (t508.length : Int) then ((laws_wkGrid.f k x7 (t508.take (x6 : Int).toNat)).bind fun t516 => (some t516)) else (none)) else (none)) else (if 0 ≤ (t508.length : Int) then (if (t508.length : Int) ≤ (t508.length : Int) then ((laws_wkGrid.f k x7 (t508.take ((t508.length : Int) : Int).toNat)).bind fun t522 => (some t522)) else (none)) else (none))))
def laws_FnSomeFew.f (k : Nat) (l0 : List Int) : Option (Bool) := if (l0.length : Int) > 1048576 then (some true) else ((spec_DrawSomeWalks.f k l0).bind fun bt488 => ((impl_SomeWalks.f bt488.1 bt488.2.1 bt488.2.2.1 bt488.2.2.2.1 bt488.2.2.2.2).bind fun t496 => ((spec_SomeWalks.f k bt488.1 bt488.2.1 bt488.2.2.1 bt488.2.2.2.1 bt488.2.2.2.2).bind fun t499 => ((laws_wkGrid.f k t496 t499).bind fun t502 => (if t502 = true then ((impl_NetOk.f bt488.1 bt488.2.1).bind fun t503 => (if t503 = true then (laws_FnSomeFew.j0 k bt488.2.2.1 bt488.2.2.2.1 bt488.2.2.2.2 t496 (decide (bt488.2.2.2.2 < 1)) bt488.1 bt488.2.1) else (laws_FnSomeFew.j0 k bt488.2.2.1 bt488.2.2.2.1 bt488.2.2.2.2 t496 true bt488.1 bt488.2.1))) else (laws_FnSomeFew.j0 k bt488.2.2.1 bt488.2.2.2.1 bt488.2.2.2.2 t496 true bt488.1 bt488.2.1))))))
theorem laws_FnSomeFew.mono_l : ∀ k, (∀ y0 y1 y2 y3 y4 y5 y6, LeO (laws_FnSomeFew.j0 k y0 y1 y2 y3 y4 y5 y6) (laws_FnSomeFew.j0 (k + 1) y0 y1 y2 y3 y4 y5 y6))
 | 0 => fun _ _ _ _ _ _ _ r h => by simp [laws_FnSomeFew.j0] at h
 | k + 1 => by
  have ih0 := laws_FnSomeFew.mono_l k
  ·intro y0 y1 y2 y3 y4 y5 y6
   unfold laws_FnSomeFew.j0
   repeat' first
   | (with_reducible exact ih0 _ _ _ _ _ _ _)
   | (with_reducible exact laws_wkGrid.mono _ _ _)
   | (with_reducible exact spec_DrawSomeWalks.mono _ _)
   | (with_reducible exact spec_SomeWalks.mono _ _ _ _ _ _)
   | (with_reducible exact LeO.refl _)
   | (with_reducible exact LeO.none _)
   | (with_reducible refine LeO.ite ?_ ?_)
   | (with_reducible refine LeO.bind ?_ (fun _ => ?_))
   | exact ih0 _ _ _ _ _ _ _
   | exact laws_wkGrid.mono _ _ _
   | exact spec_DrawSomeWalks.mono _ _
   | exact spec_SomeWalks.mono _ _ _ _ _ _
   | exact LeO.none _
   | refine LeO.ite ?_ ?_
   | refine LeO.bind ?_ (fun _ => ?_)
theorem laws_FnSomeFew.mono : ∀ a0 k, LeO (laws_FnSomeFew.f k a0) (laws_FnSomeFew.f (k + 1) a0) := by
 intro a0 k
 have ih0 := laws_FnSomeFew.mono_l k
 unfold laws_FnSomeFew.f
 repeat' first
   | (with_reducible exact ih0 _ _ _ _ _ _ _)
   | (with_reducible exact laws_wkGrid.mono _ _ _)
   | (with_reducible exact spec_DrawSomeWalks.mono _ _)
   | (with_reducible exact spec_SomeWalks.mono _ _ _ _ _ _)
   | (with_reducible exact LeO.refl _)
   | (with_reducible exact LeO.none _)
   | (with_reducible refine LeO.ite ?_ ?_)
   | (with_reducible refine LeO.bind ?_ (fun _ => ?_))
   | exact ih0 _ _ _ _ _ _ _
   | exact laws_wkGrid.mono _ _ _
   | exact spec_DrawSomeWalks.mono _ _
   | exact spec_SomeWalks.mono _ _ _ _ _ _
   | exact LeO.none _
   | refine LeO.ite ?_ ?_
   | refine LeO.bind ?_ (fun _ => ?_)
set_option maxHeartbeats 8000000 in
set_option maxRecDepth 100000 in
theorem laws_FnSomeFew.calls (k : Nat) (A0 : Option Addr) (c0 : Nat) (l0 : List Int) (r : Bool) (w : World) (hr0 : Kd.C (Kd.int .u8) w A0 l0.length l0) (hc0 : l0.length ≤ c0) (h : laws_FnSomeFew.f k l0 = some r) (hr_ : r = true) :
  Calls Try.prog 7 #[.slice A0 l0.length c0] w fun e w' => e = .returned (.bool r) ∧ Below w.heap.size w w' := by
 have hu25 := Try.underlying25
 have HR0 := ak hr0
 have HC0 := ak hc0
 clear hr0 hc0
 have HB := ak (Below.refl w.heap.size w)
 have H : (if (l0.length : Int) > 1048576 then (some true) else ((spec_DrawSomeWalks.f k l0).bind fun bt488 => ((impl_SomeWalks.f bt488.1 bt488.2.1 bt488.2.2.1 bt488.2.2.2.1 bt488.2.2.2.2).bind fun t496 => ((spec_SomeWalks.f k bt488.1 bt488.2.1 bt488.2.2.1 bt488.2.2.2.1 bt488.2.2.2.2).bind fun t499 => ((laws_wkGrid.f k t496 t499).bind fun t502 => (if t502 = true then ((impl_NetOk.f bt488.1 bt488.2.1).bind fun t503 => (if t503 = true then (laws_FnSomeFew.j0 k bt488.2.2.1 bt488.2.2.2.1 bt488.2.2.2.2 t496 (decide (bt488.2.2.2.2 < 1)) bt488.1 bt488.2.1) else (laws_FnSomeFew.j0 k bt488.2.2.1 bt488.2.2.2.1 bt488.2.2.2.2 t496 true bt488.1 bt488.2.1))) else (laws_FnSomeFew.j0 k bt488.2.2.1 bt488.2.2.2.1 bt488.2.2.2.2 t496 true bt488.1 bt488.2.1))))))) = some r := h
 clear h
 by_cases c2 : (l0.length : Int) > 1048576
 ·rw [if_pos c2] at H
  have c2b0 : decide (1048576 < (l0.length : Int)) = true := decide_eq_true c2
  have c2b1 : decide (1048576 < l0.length) = true := decide_eq_true (by omega)
  clear c2
  obtain rfl := Option.some.inj H
  go_enter Try.func7, Try.ntmps7
  go_wp2
  go_ret
  exact ⟨by first | rfl | (simp [errW_none, errW_some] <;> rfl) | (simp [*, errW_none, errW_some] <;> rfl), bl HB⟩
 rw [if_neg c2] at H
 have c2b0 : decide (1048576 < (l0.length : Int)) = false := decide_eq_false c2
 have c2b1 : decide (1048576 < l0.length) = false := decide_eq_false (by omega)
 clear c2
 replace H := Option.bind_eq_some_iff.mp H
 obtain ⟨⟨t488, t489, t492, t493, t494⟩, A30, H⟩ := H
 have A3 := ak A30
 clear A30
 replace H := Option.bind_eq_some_iff.mp H
 obtain ⟨t496, A40, H⟩ := H
 have A4 := ak A40
 clear A40
 have HC5 := ak H
 clear H
 go_enter Try.func7, Try.ntmps7
 go_upto_region 5 with (first | ((with_reducible refine gate_callee (f := 26) rfl ?_); refine goesL_ (some 15) rfl rfl Try.func26 (by kernel_rfl) rfl #[.slice A0 l0.length c0] rfl (by (try simp only [List.map_toArray, List.map_cons, List.map_nil]); first | done | rfl | (simp only [List.length_drop, List.length_take]; rfl)) ?_; (with_reducible refine (spec_DrawSomeWalks.calls k _ _ l0 t488 t489 t492 t493 t494 _ ?side1 ?side2 A3.out).mono ?_); (case side1 => repeat (first | exact HR0.out | (with_reducible refine Kd.C_alloc ?_ _) | (with_reducible refine Kd.C_drewN ?_ _) | (with_reducible refine Kd.C_drew ?_))); (case side2 => exact HC0.out); rintro e w6 ⟨v490, rfl, ho0, hb⟩; refine ⟨_, rfl, ?_⟩; have HO491 := ak (Kd.R_lower ho0 (below_size (bl HB))); replace HB := ak (below_step (bl HB) hb); (try clear hb); (try clear hb2); (try clear hk); (try clear hi); (try clear ho0)) | ((with_reducible refine gate_dst (N := 3) rfl ?_); refine box_event ?hg (N := 3) ?hd (cs := #[.int .i64 0, .slice none 0 0]) (t := 25) ?hr ?_; (case hd => rfl); (case hg => rfl); (case hr => first | (go_simp; done) | (go_simp; rfl)); intro gb495 hg w7 hbox hb; replace HO491 := ak (Kd.R_below (rk HO491) hb); have BK495 := ak (hbox); have GW495 := ak ((by rw [hg]; exact (below_size (bl HB)) : w.heap.size ≤ gb495)); have GE495 := ak ((by rw [hg]; exact (below_size (bl HB)) : w.heap.size ≤ gb495)); replace HB := ak (below_step (bl HB) hb); clear hb hbox hg; have hcz8_0 := bc w7 BK495 0 (.int .i64 0) rfl; have hcz8_1 := bc w7 BK495 1 (.slice none 0 0) rfl; have hfz8_0 := fz BK495 0; have hfz8_1 := fz BK495 1; obtain ⟨Ao9, co9, eo9⟩ := Kd.R_slice HO491.out; subst eo9) | ((with_reducible refine gate_callee (f := 15) rfl ?_); refine goesL_ (some 24) rfl rfl Try.func15 (by kernel_rfl) rfl #[.agg #[.int .i64 t488, .slice Ao9 t489.length co9], .int .i64 t492, .int .i64 t493, .int .i64 t494] rfl (by (try simp only [List.map_toArray, List.map_cons, List.map_nil]); first | done | rfl | (simp only [List.length_drop, List.length_take]; rfl)) ?_; (with_reducible refine (impl_SomeWalks.calls t488 _ _ t489 t492 t493 t494 t496 _ ?side1 ?side2 A4.out).mono ?_); (case side1 => refine (Kd.R_reads' (e := 58) (base := w.heap.size) (ok := fun k_ => True) (n := t489.length) (c := co9) ?_).2.2; exact (by (with_reducible repeat (first | apply Kd.R_alloc | apply Kd.R_drewN | apply Kd.R_drew)); exact (Kd.R_mono (Kd.R_far (p := ⟨gb495, 1, none⟩) (Kd.R_far (p := ⟨gb495, 0, none⟩) (Kd.R_types HO491.out BK495.out (by decide)) (fun _ hk => hk.2) (.int .i64 t488)) (fun _ hk => hk.2) (.slice Ao9 t489.length co9)) (fun _ h_ => h_.1)))); (case side2 => exact (Kd.R_reads' HO491.out).2.1); rintro e w10 ⟨v497, rfl, ho0, hb⟩; refine ⟨_, rfl, ?_⟩; have HO498 := ak (Kd.N_lower (Kd.N_mono (ok' := fun k_ => some k_ ≠ (.slice Ao9 t489.length co9 : Value).ownBlock ∧ k_ ≠ gb495) (Kd.S_N (Kd.S_bound ho0)) (fun k_ hk_ => ⟨(Kd.fresh' (Kd.R_lt (by (with_reducible repeat (first | apply Kd.R_alloc | apply Kd.R_drewN | apply Kd.R_drew)); exact (Kd.R_mono (Kd.R_far (p := ⟨gb495, 1, none⟩) (Kd.R_far (p := ⟨gb495, 0, none⟩) (Kd.R_types HO491.out BK495.out (by decide)) (fun _ hk => hk.2) (.int .i64 t488)) (fun _ hk => hk.2) (.slice Ao9 t489.length co9)) (fun _ h_ => h_.1)))) k_ hk_.2.1), (Kd.freshB (g := gb495) (o := .cells #[.int .i64 t488, .slice Ao9 t489.length co9] 25 (0, 0)) (by (with_reducible repeat (first | refine blk_drewN ?_ _ | refine blk_drew ?_ | refine blk_alloc ?_ _)); refine blk_put (cs := #[.int .i64 t488, .slice none 0 0]) ?_ 1 _ rfl; refine blk_put (cs := #[.int .i64 0, .slice none 0 0]) ?_ 0 _ rfl; (with_reducible repeat (first | refine blk_drewN ?_ _ | refine blk_drew ?_ | refine blk_alloc ?_ _)); exact BK495.out) k_ hk_.2.1)⟩)) (below_size (bl1 HB GE495))); replace HO491 := ak (Kd.R_below (by (with_reducible repeat (first | apply Kd.R_alloc | apply Kd.R_drewN | apply Kd.R_drew)); exact (Kd.R_mono (Kd.R_far (p := ⟨gb495, 1, none⟩) (Kd.R_far (p := ⟨gb495, 0, none⟩) (Kd.R_types HO491.out BK495.out (by decide)) (fun _ hk => hk.2) (.int .i64 t488)) (fun _ hk => hk.2) (.slice Ao9 t489.length co9)) (fun _ h_ => h_.1))) hb); replace BK495 := ak (blk_below (g := gb495) (o := .cells #[.int .i64 t488, .slice Ao9 t489.length co9] 25 (0, 0)) (by (with_reducible repeat (first | refine blk_drewN ?_ _ | refine blk_drew ?_ | refine blk_alloc ?_ _)); refine blk_put (cs := #[.int .i64 t488, .slice none 0 0]) ?_ 1 _ rfl; refine blk_put (cs := #[.int .i64 0, .slice none 0 0]) ?_ 0 _ rfl; (with_reducible repeat (first | refine blk_drewN ?_ _ | refine blk_drew ?_ | refine blk_alloc ?_ _)); exact BK495.out) hb); replace HB := ak (below_step (bl1 HB GE495) hb); (try clear hb); (try clear hb2); (try clear hk); (try clear hi); (try clear ho0)))
 (try simp only [Act.put, List.setIfInBounds_toArray, List.set_cons_zero, List.set_cons_succ])
 go_cut [41] (fun v41 wc => ∃ (kq : Nat) (x41_4 : Bool), v41 = .bool x41_4 ∧ Aside0 (laws_FnSomeFew.j0 kq t492 t493 t494 t496 x41_4 t488 t489 = some r) ∧ Aside0 (kq ≤ k) ∧ Aside0 (Kd.N (Kd.slice 3 (Kd.int .i64)) 33 wc w.heap.size (fun k_ => some k_ ≠ ((.slice Ao9 t489.length co9) : Value).ownBlock ∧ k_ ≠ gb495) v497 t496) ∧ Aside0 (Kd.R k58 58 wc w.heap.size (fun _ => True) (.slice Ao9 t489.length co9) t489) ∧ Aside0 (wc.heap[gb495]? = some (.cells #[.int .i64 t488, (.slice Ao9 t489.length co9)] 25 (0, 0))) ∧ Aside0 (Below w.heap.size w wc))
 case first =>
  have H := HC5.out
  clear HC5
  replace H := Option.bind_eq_some_iff.mp H
  obtain ⟨t499, A110, H⟩ := H
  have A11 := ak A110
  clear A110
  replace H := Option.bind_eq_some_iff.mp H
  obtain ⟨t502, A120, H⟩ := H
  have A12 := ak A120
  clear A120
  by_cases c13 : t502 = true
  rotate_left
  ·replace c13 := Bool.eq_false_iff.mpr c13
   subst c13
   rw [if_neg (show ¬ (false = true) by decide)] at H
   have H' := ak H
   clear H
   have hcz28_0 := bc w10 BK495 0 (.int .i64 t488) rfl
   have hcz28_1 := bc w10 BK495 1 (.slice Ao9 t489.length co9) rfl
   have hfz28_0 := fz BK495 0
   have hfz28_1 := fz BK495 1
   go_wp2_with (first | ((with_reducible refine gate_callee (f := 27) rfl ?_); refine goesL_ (some 30) rfl rfl Try.func27 (by kernel_rfl) rfl #[.agg #[.int .i64 t488, .slice Ao9 t489.length co9], .int .i64 t492, .int .i64 t493, .int .i64 t494] rfl (by (try simp only [List.map_toArray, List.map_cons, List.map_nil]); first | done | rfl | (simp only [List.length_drop, List.length_take]; rfl)) ?_; (with_reducible refine (spec_SomeWalks.calls k t488 _ _ t489 t492 t493 t494 t499 _ ?side1 ?side2 A11.out).mono ?_); (case side1 => repeat (first | exact (Kd.R_reads' HO491.out).2.2 | (with_reducible refine Kd.C_alloc ?_ _) | (with_reducible refine Kd.C_drewN ?_ _) | (with_reducible refine Kd.C_drew ?_))); (case side2 => exact (Kd.R_reads' HO491.out).2.1); rintro e w29 ⟨v500, rfl, ho0, hb⟩; refine ⟨_, rfl, ?_⟩; have HO501 := ak (Kd.N_lower (Kd.N_mono (ok' := fun k_ => some k_ ≠ (.slice Ao9 t489.length co9 : Value).ownBlock ∧ some k_ ≠ (v497 : Value).ownBlock ∧ k_ ≠ gb495) ho0 (fun k_ hk_ => ⟨(Kd.fresh' (Kd.R_lt (rk HO491)) k_ hk_), (Kd.fresh' (Kd.N_lt (by (with_reducible repeat (first | apply Kd.N_alloc | apply Kd.N_drewN | apply Kd.N_drew)); exact HO498.out)) k_ hk_), (Kd.freshB (bk BK495) k_ hk_)⟩)) (below_size (bl1 HB GE495))); replace HO491 := ak (Kd.R_below (rk HO491) hb); replace HO498 := ak (Kd.N_elder' (by (with_reducible repeat (first | apply Kd.N_alloc | apply Kd.N_drewN | apply Kd.N_drew)); exact HO498.out) (Kd.N_base ho0) hb); replace BK495 := ak (blk_below (bk BK495) hb); replace HB := ak (below_step (bl1 HB GE495) hb); (try clear hb); (try clear hb2); (try clear hk); (try clear hi); (try clear ho0); obtain ⟨Ao30, co30, eo30⟩ := Kd.N_slice HO498.out; subst eo30; obtain ⟨Ao31, co31, eo31⟩ := Kd.N_slice HO501.out; subst eo31) | ((with_reducible refine gate_callee (f := 13) rfl ?_); refine goesL_ (some 31) rfl rfl Try.func13 (by kernel_rfl) rfl #[.slice Ao30 t496.length co30, .slice Ao31 t499.length co31] rfl (by (try simp only [List.map_toArray, List.map_cons, List.map_nil]); first | done | rfl | (simp only [List.length_drop, List.length_take]; rfl)) ?_; (with_reducible refine (laws_wkGrid.calls k _ _ t496 _ _ t499 false _ ?side1 ?side2 ?side3 ?side4 A12.out).mono ?_); (case side1 => repeat (first | exact (Kd.N_reads' HO498.out).2.2 | (with_reducible refine Kd.C_alloc ?_ _) | (with_reducible refine Kd.C_drewN ?_ _) | (with_reducible refine Kd.C_drew ?_))); (case side2 => exact (Kd.N_reads' HO498.out).2.1); (case side3 => repeat (first | exact (Kd.N_reads' HO501.out).2.2 | (with_reducible refine Kd.C_alloc ?_ _) | (with_reducible refine Kd.C_drewN ?_ _) | (with_reducible refine Kd.C_drew ?_))); (case side4 => exact (Kd.N_reads' HO501.out).2.1); rintro e w' ⟨rfl, ⟨nd, rfl⟩⟩; refine ⟨_, rfl, ?_⟩))
   go_meet
   case rel => exact ⟨_, (true), (by first | rfl | (simp; done) | (simp [*]; done)), H', ⟨by first | omega | exact Nat.le_refl _⟩, ⟨by (with_reducible repeat (first | apply Kd.N_alloc | apply Kd.N_drewN | apply Kd.N_drew)); exact Kd.N_mono HO498.out (fun _ hk => ⟨hk.1.1, hk.1.2⟩)⟩, ⟨rk HO491⟩, ⟨bk BK495⟩, ⟨bl1 HB GE495⟩⟩
  subst c13
  rw [if_pos rfl] at H
  replace H := Option.bind_eq_some_iff.mp H
  obtain ⟨t503, A140, H⟩ := H
  have A14 := ak A140
  clear A140
  by_cases c15 : t503 = true
  ·subst c15
   rw [if_pos rfl] at H
   have H' := ak H
   clear H
   have hcz16_0 := bc w10 BK495 0 (.int .i64 t488) rfl
   have hcz16_1 := bc w10 BK495 1 (.slice Ao9 t489.length co9) rfl
   have hfz16_0 := fz BK495 0
   have hfz16_1 := fz BK495 1
   go_wp2_with (first | ((with_reducible refine gate_callee (f := 27) rfl ?_); refine goesL_ (some 30) rfl rfl Try.func27 (by kernel_rfl) rfl #[.agg #[.int .i64 t488, .slice Ao9 t489.length co9], .int .i64 t492, .int .i64 t493, .int .i64 t494] rfl (by (try simp only [List.map_toArray, List.map_cons, List.map_nil]); first | done | rfl | (simp only [List.length_drop, List.length_take]; rfl)) ?_; (with_reducible refine (spec_SomeWalks.calls k t488 _ _ t489 t492 t493 t494 t499 _ ?side1 ?side2 A11.out).mono ?_); (case side1 => repeat (first | exact (Kd.R_reads' HO491.out).2.2 | (with_reducible refine Kd.C_alloc ?_ _) | (with_reducible refine Kd.C_drewN ?_ _) | (with_reducible refine Kd.C_drew ?_))); (case side2 => exact (Kd.R_reads' HO491.out).2.1); rintro e w17 ⟨v500, rfl, ho0, hb⟩; refine ⟨_, rfl, ?_⟩; have HO501 := ak (Kd.N_lower (Kd.N_mono (ok' := fun k_ => some k_ ≠ (.slice Ao9 t489.length co9 : Value).ownBlock ∧ some k_ ≠ (v497 : Value).ownBlock ∧ k_ ≠ gb495) ho0 (fun k_ hk_ => ⟨(Kd.fresh' (Kd.R_lt (rk HO491)) k_ hk_), (Kd.fresh' (Kd.N_lt (by (with_reducible repeat (first | apply Kd.N_alloc | apply Kd.N_drewN | apply Kd.N_drew)); exact HO498.out)) k_ hk_), (Kd.freshB (bk BK495) k_ hk_)⟩)) (below_size (bl1 HB GE495))); replace HO491 := ak (Kd.R_below (rk HO491) hb); replace HO498 := ak (Kd.N_elder' (by (with_reducible repeat (first | apply Kd.N_alloc | apply Kd.N_drewN | apply Kd.N_drew)); exact HO498.out) (Kd.N_base ho0) hb); replace BK495 := ak (blk_below (bk BK495) hb); replace HB := ak (below_step (bl1 HB GE495) hb); (try clear hb); (try clear hb2); (try clear hk); (try clear hi); (try clear ho0); obtain ⟨Ao18, co18, eo18⟩ := Kd.N_slice HO498.out; subst eo18; obtain ⟨Ao19, co19, eo19⟩ := Kd.N_slice HO501.out; subst eo19) | ((with_reducible refine gate_callee (f := 13) rfl ?_); refine goesL_ (some 31) rfl rfl Try.func13 (by kernel_rfl) rfl #[.slice Ao18 t496.length co18, .slice Ao19 t499.length co19] rfl (by (try simp only [List.map_toArray, List.map_cons, List.map_nil]); first | done | rfl | (simp only [List.length_drop, List.length_take]; rfl)) ?_; (with_reducible refine (laws_wkGrid.calls k _ _ t496 _ _ t499 true _ ?side1 ?side2 ?side3 ?side4 A12.out).mono ?_); (case side1 => repeat (first | exact (Kd.N_reads' HO498.out).2.2 | (with_reducible refine Kd.C_alloc ?_ _) | (with_reducible refine Kd.C_drewN ?_ _) | (with_reducible refine Kd.C_drew ?_))); (case side2 => exact (Kd.N_reads' HO498.out).2.1); (case side3 => repeat (first | exact (Kd.N_reads' HO501.out).2.2 | (with_reducible refine Kd.C_alloc ?_ _) | (with_reducible refine Kd.C_drewN ?_ _) | (with_reducible refine Kd.C_drew ?_))); (case side4 => exact (Kd.N_reads' HO501.out).2.1); rintro e w' ⟨rfl, ⟨nd, rfl⟩⟩; refine ⟨_, rfl, ?_⟩; have hcz20_0 := bc w17 BK495 0 (.int .i64 t488) rfl; have hcz20_1 := bc w17 BK495 1 (.slice Ao9 t489.length co9) rfl; have hfz20_0 := fz BK495 0; have hfz20_1 := fz BK495 1) | (go_at_call 32; (with_reducible refine (impl_NetOk.calls t488 _ _ t489 true _ ?side1 ?side2 A14.out).mono ?_); (case side1 => repeat (first | exact (Kd.R_reads' HO491.out).2.2 | (with_reducible refine Kd.C_alloc ?_ _) | (with_reducible refine Kd.C_drewN ?_ _) | (with_reducible refine Kd.C_drew ?_))); (case side2 => exact (Kd.R_reads' HO491.out).2.1); rintro e w21 ⟨rfl, hb⟩; have n0_ := ak (Kd.R_below (rk HO491) hb); have n1_ := ak (Kd.N_below (by (with_reducible repeat (first | apply Kd.N_alloc | apply Kd.N_drewN | apply Kd.N_drew)); exact HO498.out) hb); have n2_ := ak (Kd.N_below (by (with_reducible repeat (first | apply Kd.N_alloc | apply Kd.N_drewN | apply Kd.N_drew)); exact HO501.out) hb); have n3_ := ak (blk_below (bk BK495) hb); have n4_ := ak (below_step (bl1 HB GE495) hb); clear HO491; clear HO498; clear HO501; clear BK495; clear HB; have HO491 := n0_; have HO498 := n1_; have HO501 := n2_; have BK495 := n3_; have HB := n4_; clear n0_ n1_ n2_ n3_ n4_; (try clear hb); (try clear hb2); (try clear hk); (try clear hi)))
   go_meet
   case rel => exact ⟨_, (decide (t494 < 1)), (by first | rfl | (simp; done) | (simp [*]; done)), H', ⟨by first | omega | exact Nat.le_refl _⟩, ⟨by (with_reducible repeat (first | apply Kd.N_alloc | apply Kd.N_drewN | apply Kd.N_drew)); exact Kd.N_mono HO498.out (fun _ hk => ⟨hk.1.1, hk.1.2⟩)⟩, ⟨rk HO491⟩, ⟨bk BK495⟩, ⟨bl1 HB GE495⟩⟩
  replace c15 := Bool.eq_false_iff.mpr c15
  subst c15
  rw [if_neg (show ¬ (false = true) by decide)] at H
  have H' := ak H
  clear H
  have hcz22_0 := bc w10 BK495 0 (.int .i64 t488) rfl
  have hcz22_1 := bc w10 BK495 1 (.slice Ao9 t489.length co9) rfl
  have hfz22_0 := fz BK495 0
  have hfz22_1 := fz BK495 1
  go_wp2_with (first | ((with_reducible refine gate_callee (f := 27) rfl ?_); refine goesL_ (some 30) rfl rfl Try.func27 (by kernel_rfl) rfl #[.agg #[.int .i64 t488, .slice Ao9 t489.length co9], .int .i64 t492, .int .i64 t493, .int .i64 t494] rfl (by (try simp only [List.map_toArray, List.map_cons, List.map_nil]); first | done | rfl | (simp only [List.length_drop, List.length_take]; rfl)) ?_; (with_reducible refine (spec_SomeWalks.calls k t488 _ _ t489 t492 t493 t494 t499 _ ?side1 ?side2 A11.out).mono ?_); (case side1 => repeat (first | exact (Kd.R_reads' HO491.out).2.2 | (with_reducible refine Kd.C_alloc ?_ _) | (with_reducible refine Kd.C_drewN ?_ _) | (with_reducible refine Kd.C_drew ?_))); (case side2 => exact (Kd.R_reads' HO491.out).2.1); rintro e w23 ⟨v500, rfl, ho0, hb⟩; refine ⟨_, rfl, ?_⟩; have HO501 := ak (Kd.N_lower (Kd.N_mono (ok' := fun k_ => some k_ ≠ (.slice Ao9 t489.length co9 : Value).ownBlock ∧ some k_ ≠ (v497 : Value).ownBlock ∧ k_ ≠ gb495) ho0 (fun k_ hk_ => ⟨(Kd.fresh' (Kd.R_lt (rk HO491)) k_ hk_), (Kd.fresh' (Kd.N_lt (by (with_reducible repeat (first | apply Kd.N_alloc | apply Kd.N_drewN | apply Kd.N_drew)); exact HO498.out)) k_ hk_), (Kd.freshB (bk BK495) k_ hk_)⟩)) (below_size (bl1 HB GE495))); replace HO491 := ak (Kd.R_below (rk HO491) hb); replace HO498 := ak (Kd.N_elder' (by (with_reducible repeat (first | apply Kd.N_alloc | apply Kd.N_drewN | apply Kd.N_drew)); exact HO498.out) (Kd.N_base ho0) hb); replace BK495 := ak (blk_below (bk BK495) hb); replace HB := ak (below_step (bl1 HB GE495) hb); (try clear hb); (try clear hb2); (try clear hk); (try clear hi); (try clear ho0); obtain ⟨Ao24, co24, eo24⟩ := Kd.N_slice HO498.out; subst eo24; obtain ⟨Ao25, co25, eo25⟩ := Kd.N_slice HO501.out; subst eo25) | ((with_reducible refine gate_callee (f := 13) rfl ?_); refine goesL_ (some 31) rfl rfl Try.func13 (by kernel_rfl) rfl #[.slice Ao24 t496.length co24, .slice Ao25 t499.length co25] rfl (by (try simp only [List.map_toArray, List.map_cons, List.map_nil]); first | done | rfl | (simp only [List.length_drop, List.length_take]; rfl)) ?_; (with_reducible refine (laws_wkGrid.calls k _ _ t496 _ _ t499 true _ ?side1 ?side2 ?side3 ?side4 A12.out).mono ?_); (case side1 => repeat (first | exact (Kd.N_reads' HO498.out).2.2 | (with_reducible refine Kd.C_alloc ?_ _) | (with_reducible refine Kd.C_drewN ?_ _) | (with_reducible refine Kd.C_drew ?_))); (case side2 => exact (Kd.N_reads' HO498.out).2.1); (case side3 => repeat (first | exact (Kd.N_reads' HO501.out).2.2 | (with_reducible refine Kd.C_alloc ?_ _) | (with_reducible refine Kd.C_drewN ?_ _) | (with_reducible refine Kd.C_drew ?_))); (case side4 => exact (Kd.N_reads' HO501.out).2.1); rintro e w' ⟨rfl, ⟨nd, rfl⟩⟩; refine ⟨_, rfl, ?_⟩; have hcz26_0 := bc w23 BK495 0 (.int .i64 t488) rfl; have hcz26_1 := bc w23 BK495 1 (.slice Ao9 t489.length co9) rfl; have hfz26_0 := fz BK495 0; have hfz26_1 := fz BK495 1) | (go_at_call 32; (with_reducible refine (impl_NetOk.calls t488 _ _ t489 false _ ?side1 ?side2 A14.out).mono ?_); (case side1 => repeat (first | exact (Kd.R_reads' HO491.out).2.2 | (with_reducible refine Kd.C_alloc ?_ _) | (with_reducible refine Kd.C_drewN ?_ _) | (with_reducible refine Kd.C_drew ?_))); (case side2 => exact (Kd.R_reads' HO491.out).2.1); rintro e w27 ⟨rfl, hb⟩; have n0_ := ak (Kd.R_below (rk HO491) hb); have n1_ := ak (Kd.N_below (by (with_reducible repeat (first | apply Kd.N_alloc | apply Kd.N_drewN | apply Kd.N_drew)); exact HO498.out) hb); have n2_ := ak (Kd.N_below (by (with_reducible repeat (first | apply Kd.N_alloc | apply Kd.N_drewN | apply Kd.N_drew)); exact HO501.out) hb); have n3_ := ak (blk_below (bk BK495) hb); have n4_ := ak (below_step (bl1 HB GE495) hb); clear HO491; clear HO498; clear HO501; clear BK495; clear HB; have HO491 := n0_; have HO498 := n1_; have HO501 := n2_; have BK495 := n3_; have HB := n4_; clear n0_ n1_ n2_ n3_ n4_; (try clear hb); (try clear hb2); (try clear hk); (try clear hi)))
  go_meet
  case rel => exact ⟨_, (true), (by first | rfl | (simp; done) | (simp [*]; done)), H', ⟨by first | omega | exact Nat.le_refl _⟩, ⟨by (with_reducible repeat (first | apply Kd.N_alloc | apply Kd.N_drewN | apply Kd.N_drew)); exact Kd.N_mono HO498.out (fun _ hk => ⟨hk.1.1, hk.1.2⟩)⟩, ⟨rk HO491⟩, ⟨bk BK495⟩, ⟨bl1 HB GE495⟩⟩
 clear HC5
 try clear c1
 try clear c2
 try clear c2b0
 try clear c2b1
 try clear p2
 try clear c7
 try clear c13
 try clear c15
 try clear c26
 try clear c27
 try clear hcz16_0
 try clear hcz16_1
 try clear hcz20_0
 try clear hcz20_1
 try clear hcz22_0
 try clear hcz22_1
 try clear hcz26_0
 try clear hcz26_1
 try clear hcz28_0
 try clear hcz28_1
 try clear hcz8_0
 try clear hcz8_1
 try clear hfz16_0
 try clear hfz16_1
 try clear hfz20_0
 try clear hfz20_1
 try clear hfz22_0
 try clear hfz22_1
 try clear hfz26_0
 try clear hfz26_1
 try clear hfz28_0
 try clear hfz28_1
 try clear hfz8_0
 try clear hfz8_1
 obtain ⟨kq, x41_4, rfl, HA, HJ4, HO_7, HO_496001, BK495, HB⟩ := hcut
 cases kq with
 | zero => exact absurd HA.out (by simp [laws_FnSomeFew.j0])
 | succ kj4 =>
  have H := HA.out
  clear HA
  simp only [laws_FnSomeFew.j0] at H
  by_cases c32 : x41_4 = true
  ·subst c32
   rw [if_pos rfl] at H
   replace H := Option.bind_eq_some_iff.mp H
   obtain ⟨t504, A330, H⟩ := H
   have A33 := ak A330
   clear A330
   replace H := Option.bind_eq_some_iff.mp H
   obtain ⟨t507, A340, H⟩ := H
   have A34 := ak A340
   clear A340
   obtain rfl := Option.some.inj H
   have hcz35_0 := bc wc BK495 0 (.int .i64 t488) rfl
   have hcz35_1 := bc wc BK495 1 (.slice Ao9 t489.length co9) rfl
   have hfz35_0 := fz BK495 0
   have hfz35_1 := fz BK495 1
   go_wp2_with (first | ((with_reducible refine gate_callee (f := 27) rfl ?_); refine goesL_ (some 47) rfl rfl Try.func27 (by kernel_rfl) rfl #[.agg #[.int .i64 t488, .slice Ao9 t489.length co9], .int .i64 t492, .int .i64 t493, .int .i64 t494] rfl (by (try simp only [List.map_toArray, List.map_cons, List.map_nil]); first | done | rfl | (simp only [List.length_drop, List.length_take]; rfl)) ?_; (with_reducible refine (spec_SomeWalks.calls kj4 t488 _ _ t489 t492 t493 t494 t504 _ ?side1 ?side2 A33.out).mono ?_); (case side1 => repeat (first | exact (Kd.R_reads' HO_496001.out).2.2 | (with_reducible refine Kd.C_alloc ?_ _) | (with_reducible refine Kd.C_drewN ?_ _) | (with_reducible refine Kd.C_drew ?_))); (case side2 => exact (Kd.R_reads' HO_496001.out).2.1); rintro e w36 ⟨v505, rfl, ho0, hb⟩; refine ⟨_, rfl, ?_⟩; have HO506 := ak (Kd.N_lower (Kd.N_mono (ok' := fun k_ => some k_ ≠ (v497 : Value).ownBlock ∧ some k_ ≠ (.slice Ao9 t489.length co9 : Value).ownBlock ∧ k_ ≠ gb495) ho0 (fun k_ hk_ => ⟨(Kd.fresh' (Kd.N_lt (by (with_reducible repeat (first | apply Kd.N_alloc | apply Kd.N_drewN | apply Kd.N_drew)); exact HO_7.out)) k_ hk_), (Kd.fresh' (Kd.R_lt (rk HO_496001)) k_ hk_), (Kd.freshB (bk BK495) k_ hk_)⟩)) (below_size (bl1 HB GE495))); replace HO_7 := ak (Kd.N_elder' (by (with_reducible repeat (first | apply Kd.N_alloc | apply Kd.N_drewN | apply Kd.N_drew)); exact HO_7.out) (Kd.N_base ho0) hb); replace HO_496001 := ak (Kd.R_below (rk HO_496001) hb); replace BK495 := ak (blk_below (bk BK495) hb); replace HB := ak (below_step (bl1 HB GE495) hb); (try clear hb); (try clear hb2); (try clear hk); (try clear hi); (try clear ho0); obtain ⟨Ao37, co37, eo37⟩ := Kd.N_slice HO_7.out; subst eo37; obtain ⟨Ao38, co38, eo38⟩ := Kd.N_slice HO506.out; subst eo38) | ((with_reducible refine gate_callee (f := 13) rfl ?_); refine goesL_ (some 48) rfl rfl Try.func13 (by kernel_rfl) rfl #[.slice Ao37 t496.length co37, .slice Ao38 t504.length co38] rfl (by (try simp only [List.map_toArray, List.map_cons, List.map_nil]); first | done | rfl | (simp only [List.length_drop, List.length_take]; rfl)) ?_; (with_reducible refine (laws_wkGrid.calls kj4 _ _ t496 _ _ t504 t507 _ ?side1 ?side2 ?side3 ?side4 A34.out).mono ?_); (case side1 => repeat (first | exact (Kd.N_reads' HO_7.out).2.2 | (with_reducible refine Kd.C_alloc ?_ _) | (with_reducible refine Kd.C_drewN ?_ _) | (with_reducible refine Kd.C_drew ?_))); (case side2 => exact (Kd.N_reads' HO_7.out).2.1); (case side3 => repeat (first | exact (Kd.N_reads' HO506.out).2.2 | (with_reducible refine Kd.C_alloc ?_ _) | (with_reducible refine Kd.C_drewN ?_ _) | (with_reducible refine Kd.C_drew ?_))); (case side4 => exact (Kd.N_reads' HO506.out).2.1); rintro e w' ⟨rfl, ⟨nd, rfl⟩⟩; refine ⟨_, rfl, ?_⟩))
   go_ret
   exact ⟨by first | rfl | (simp [errW_none, errW_some] <;> rfl) | (simp [*, errW_none, errW_some] <;> rfl), bl1 HB GE495⟩
  replace c32 := Bool.eq_false_iff.mpr c32
  subst c32
  rw [if_neg (show ¬ (false = true) by decide)] at H
  replace H := Option.bind_eq_some_iff.mp H
  obtain ⟨t508, A390, H⟩ := H
  have A39 := ak A390
  clear A390
  by_cases c40 : (t508.length : Int) > t494
  ·rw [if_pos c40] at H
   have c40b0 : decide (t494 < (t508.length : Int)) = true := decide_eq_true c40
   clear c40
   by_cases c41 : 0 ≤ t494
   rotate_left
   ·rw [if_neg c41] at H
    exact absurd H (by simp)
   rw [if_pos c41] at H
   have c41b0 := eq_true c41
   have c41b1 : decide (0 ≤ t494) = true := decide_eq_true c41
   clear c41
   by_cases c42 : t494 ≤ (t508.length : Int)
   rotate_left
   ·rw [if_neg c42] at H
    exact absurd H (by simp)
   rw [if_pos c42] at H
   have c42b0 := eq_true c42
   have c42b1 : decide (t494 ≤ (t508.length : Int)) = true := decide_eq_true c42
   clear c42
   obtain ⟨y511, hy511⟩ : ∃ y_ : List (List Int), y_ = (t508.take (t494 : Int).toNat) := ⟨_, rfl⟩
   replace H : ((laws_wkGrid.f kj4 t496 y511).bind fun t516 => (some t516)) = some r := by first | (rw [hy511]; with_reducible exact H) | (have H2_ := (Option.bind_some _ _).symm.trans H; rw [hy511]; with_reducible exact H2_) | (have H2_ := (Option.bind_some _ _).symm.trans H; with_reducible exact H2_) | with_reducible exact H | (rw [hy511]; exact H) | exact H
   have Ny511 := ak hy511
   clear hy511
   replace H := Option.bind_eq_some_iff.mp H
   obtain ⟨t516, A430, H⟩ := H
   have A43 := ak A430
   clear A430
   obtain rfl := Option.some.inj H
   have hcz44_0 := bc wc BK495 0 (.int .i64 t488) rfl
   have hcz44_1 := bc wc BK495 1 (.slice Ao9 t489.length co9) rfl
   have hfz44_0 := fz BK495 0
   have hfz44_1 := fz BK495 1
   go_wp2_with (first | ((with_reducible refine gate_callee (f := 15) rfl ?_); refine goesL_ (some 52) rfl rfl Try.func15 (by kernel_rfl) rfl #[.agg #[.int .i64 t488, .slice Ao9 t489.length co9], .int .i64 t492, .int .i64 t493, .int .i64 6] rfl (by (try simp only [List.map_toArray, List.map_cons, List.map_nil]); first | done | rfl | (simp only [List.length_drop, List.length_take]; rfl)) ?_; (with_reducible refine (impl_SomeWalks.calls t488 _ _ t489 t492 t493 6 t508 _ ?side1 ?side2 A39.out).mono ?_); (case side1 => repeat (first | exact (Kd.R_reads' HO_496001.out).2.2 | (with_reducible refine Kd.C_alloc ?_ _) | (with_reducible refine Kd.C_drewN ?_ _) | (with_reducible refine Kd.C_drew ?_))); (case side2 => exact (Kd.R_reads' HO_496001.out).2.1); rintro e w45 ⟨v509, rfl, ho0, hb⟩; refine ⟨_, rfl, ?_⟩; have HO510 := ak (Kd.N_lower (Kd.N_mono (ok' := fun k_ => some k_ ≠ (v497 : Value).ownBlock ∧ some k_ ≠ (.slice Ao9 t489.length co9 : Value).ownBlock ∧ k_ ≠ gb495) (Kd.S_N (Kd.S_bound ho0)) (fun k_ hk_ => ⟨(Kd.fresh' (Kd.N_lt (by (with_reducible repeat (first | apply Kd.N_alloc | apply Kd.N_drewN | apply Kd.N_drew)); exact HO_7.out)) k_ hk_.2.1), (Kd.fresh' (Kd.R_lt (rk HO_496001)) k_ hk_.2.1), (Kd.freshB (bk BK495) k_ hk_.2.1)⟩)) (below_size (bl1 HB GE495))); replace HO_7 := ak (Kd.N_elder' (by (with_reducible repeat (first | apply Kd.N_alloc | apply Kd.N_drewN | apply Kd.N_drew)); exact HO_7.out) (Kd.R_base (Kd.S_R ho0)) hb); replace HO_496001 := ak (Kd.R_below (rk HO_496001) hb); replace BK495 := ak (blk_below (bk BK495) hb); replace HB := ak (below_step (bl1 HB GE495) hb); (try clear hb); (try clear hb2); (try clear hk); (try clear hi); (try clear ho0); obtain ⟨Ao46, co46, eo46⟩ := Kd.N_slice HO510.out; subst eo46; have q47 : (t494 : Int) ≤ ((t508.length : Int) : Int) := oT (by first | (with_reducible assumption) | assumption); obtain ⟨i047, hi047, _, hsz47, _⟩ := info_parts info33; have hroom47 : t508.length ≤ co46 := (Kd.N_reads' HO510.out).2.1; have hC47 : Kd.F (Kd.slice 3 (Kd.int .i64)) _ _ Ao46 t508.length t508 := (Kd.V_at (base := w.heap.size) (Kd.N_V HO510.out)).2.2; have hcut47 := cut_to (P := Try.prog) 28 33 .i64 Try.underlying28 hi047 Ao46 t508.length co46 t494 (oT (by first | (with_reducible assumption) | assumption)) q47 hroom47; have hr47 := Kd.F_take (m := (t494 : Int).toNat) hC47 (by omega); have hy47 : y511.length = (t494 : Int).toNat := (by rw [Ny511.out, List.length_take]; omega); rw [← Ny511.out] at hr47; rw [← hy47] at hcut47; have HO515 := ak (show Kd.V (Kd.slice 3 (Kd.int .i64)) 33 _ w.heap.size _ (.slice Ao46 y511.length co46) y511 from Kd.V_mk (by omega) hr47); have HC515 := ak (show y511.length ≤ co46 from by omega); clear hr47 hC47 hroom47 hi047 hsz47; have KY47 := ak hy47; clear hy47; replace q47 := eq_true q47; obtain ⟨Ao48, co48, eo48⟩ := Kd.N_slice HO_7.out; subst eo48) | ((with_reducible refine gate_callee (f := 13) rfl ?_); refine goesL_ (some 63) rfl rfl Try.func13 (by kernel_rfl) rfl #[.slice Ao48 t496.length co48, .slice Ao46 y511.length co46] rfl (by (try simp only [List.map_toArray, List.map_cons, List.map_nil]); first | done | rfl | (simp only [List.length_drop, List.length_take]; rfl)) ?_; (with_reducible refine (laws_wkGrid.calls kj4 _ _ t496 _ _ y511 t516 _ ?side1 ?side2 ?side3 ?side4 A43.out).mono ?_); (case side1 => repeat (first | exact (Kd.N_reads' HO_7.out).2.2 | (with_reducible refine Kd.C_alloc ?_ _) | (with_reducible refine Kd.C_drewN ?_ _) | (with_reducible refine Kd.C_drew ?_))); (case side2 => exact (Kd.N_reads' HO_7.out).2.1); (case side3 => repeat (first | exact (Kd.V_reads' HO515.out).2.2 | (with_reducible refine Kd.C_alloc ?_ _) | (with_reducible refine Kd.C_drewN ?_ _) | (with_reducible refine Kd.C_drew ?_))); (case side4 => exact (Kd.V_reads' HO515.out).2.1); rintro e w' ⟨rfl, ⟨nd, rfl⟩⟩; refine ⟨_, rfl, ?_⟩))
   go_ret
   exact ⟨by first | rfl | (simp [errW_none, errW_some] <;> rfl) | (simp [*, errW_none, errW_some] <;> rfl), bl1 HB GE495⟩
  rw [if_neg c40] at H
  have c40b0 : decide (t494 < (t508.length : Int)) = false := decide_eq_false c40
  clear c40
  by_cases c49 : 0 ≤ (t508.length : Int)
  rotate_left
  ·rw [if_neg c49] at H
   exact absurd H (by simp)
  rw [if_pos c49] at H
  have c49b0 := eq_true c49
  have c49b1 : decide (0 ≤ (t508.length : Int)) = true := decide_eq_true c49
  clear c49
  by_cases c50 : (t508.length : Int) ≤ (t508.length : Int)
  rotate_left
  ·rw [if_neg c50] at H
   exact absurd H (by simp)
  rw [if_pos c50] at H
  have c50b0 := eq_true c50
  have c50b1 : decide ((t508.length : Int) ≤ (t508.length : Int)) = true := decide_eq_true c50
  clear c50
  obtain ⟨y517, hy517⟩ : ∃ y_ : List (List Int), y_ = (t508.take ((t508.length : Int) : Int).toNat) := ⟨_, rfl⟩
  replace H : ((laws_wkGrid.f kj4 t496 y517).bind fun t522 => (some t522)) = some r := by first | (rw [hy517]; with_reducible exact H) | (have H2_ := (Option.bind_some _ _).symm.trans H; rw [hy517]; with_reducible exact H2_) | (have H2_ := (Option.bind_some _ _).symm.trans H; with_reducible exact H2_) | with_reducible exact H | (rw [hy517]; exact H) | exact H
  have Ny517 := ak hy517
  clear hy517
  replace H := Option.bind_eq_some_iff.mp H
  obtain ⟨t522, A510, H⟩ := H
  have A51 := ak A510
  clear A510
  obtain rfl := Option.some.inj H
  have hcz52_0 := bc wc BK495 0 (.int .i64 t488) rfl
  have hcz52_1 := bc wc BK495 1 (.slice Ao9 t489.length co9) rfl
  have hfz52_0 := fz BK495 0
  have hfz52_1 := fz BK495 1
  go_wp2_with (first | ((with_reducible refine gate_callee (f := 15) rfl ?_); refine goesL_ (some 52) rfl rfl Try.func15 (by kernel_rfl) rfl #[.agg #[.int .i64 t488, .slice Ao9 t489.length co9], .int .i64 t492, .int .i64 t493, .int .i64 6] rfl (by (try simp only [List.map_toArray, List.map_cons, List.map_nil]); first | done | rfl | (simp only [List.length_drop, List.length_take]; rfl)) ?_; (with_reducible refine (impl_SomeWalks.calls t488 _ _ t489 t492 t493 6 t508 _ ?side1 ?side2 A39.out).mono ?_); (case side1 => repeat (first | exact (Kd.R_reads' HO_496001.out).2.2 | (with_reducible refine Kd.C_alloc ?_ _) | (with_reducible refine Kd.C_drewN ?_ _) | (with_reducible refine Kd.C_drew ?_))); (case side2 => exact (Kd.R_reads' HO_496001.out).2.1); rintro e w53 ⟨v509, rfl, ho0, hb⟩; refine ⟨_, rfl, ?_⟩; have HO510 := ak (Kd.N_lower (Kd.N_mono (ok' := fun k_ => some k_ ≠ (v497 : Value).ownBlock ∧ some k_ ≠ (.slice Ao9 t489.length co9 : Value).ownBlock ∧ k_ ≠ gb495) (Kd.S_N (Kd.S_bound ho0)) (fun k_ hk_ => ⟨(Kd.fresh' (Kd.N_lt (by (with_reducible repeat (first | apply Kd.N_alloc | apply Kd.N_drewN | apply Kd.N_drew)); exact HO_7.out)) k_ hk_.2.1), (Kd.fresh' (Kd.R_lt (rk HO_496001)) k_ hk_.2.1), (Kd.freshB (bk BK495) k_ hk_.2.1)⟩)) (below_size (bl1 HB GE495))); replace HO_7 := ak (Kd.N_elder' (by (with_reducible repeat (first | apply Kd.N_alloc | apply Kd.N_drewN | apply Kd.N_drew)); exact HO_7.out) (Kd.R_base (Kd.S_R ho0)) hb); replace HO_496001 := ak (Kd.R_below (rk HO_496001) hb); replace BK495 := ak (blk_below (bk BK495) hb); replace HB := ak (below_step (bl1 HB GE495) hb); (try clear hb); (try clear hb2); (try clear hk); (try clear hi); (try clear ho0); obtain ⟨Ao54, co54, eo54⟩ := Kd.N_slice HO510.out; subst eo54; have q55 : ((t508.length : Int) : Int) ≤ ((t508.length : Int) : Int) := oT (by first | (with_reducible assumption) | assumption); obtain ⟨i055, hi055, _, hsz55, _⟩ := info_parts info33; have hroom55 : t508.length ≤ co54 := (Kd.N_reads' HO510.out).2.1; have hC55 : Kd.F (Kd.slice 3 (Kd.int .i64)) _ _ Ao54 t508.length t508 := (Kd.V_at (base := w.heap.size) (Kd.N_V HO510.out)).2.2; have hcut55 := cut_to (P := Try.prog) 28 33 .i64 Try.underlying28 hi055 Ao54 t508.length co54 (t508.length : Int) (oT (by first | (with_reducible assumption) | assumption)) q55 hroom55; have hr55 := Kd.F_take (m := ((t508.length : Int) : Int).toNat) hC55 (by omega); have hy55 : y517.length = ((t508.length : Int) : Int).toNat := (by rw [Ny517.out, List.length_take]; omega); rw [← Ny517.out] at hr55; rw [← hy55] at hcut55; have HO521 := ak (show Kd.V (Kd.slice 3 (Kd.int .i64)) 33 _ w.heap.size _ (.slice Ao54 y517.length co54) y517 from Kd.V_mk (by omega) hr55); have HC521 := ak (show y517.length ≤ co54 from by omega); clear hr55 hC55 hroom55 hi055 hsz55; have KY55 := ak hy55; clear hy55; replace q55 := eq_true q55; obtain ⟨Ao56, co56, eo56⟩ := Kd.N_slice HO_7.out; subst eo56) | ((with_reducible refine gate_callee (f := 13) rfl ?_); refine goesL_ (some 63) rfl rfl Try.func13 (by kernel_rfl) rfl #[.slice Ao56 t496.length co56, .slice Ao54 y517.length co54] rfl (by (try simp only [List.map_toArray, List.map_cons, List.map_nil]); first | done | rfl | (simp only [List.length_drop, List.length_take]; rfl)) ?_; (with_reducible refine (laws_wkGrid.calls kj4 _ _ t496 _ _ y517 t522 _ ?side1 ?side2 ?side3 ?side4 A51.out).mono ?_); (case side1 => repeat (first | exact (Kd.N_reads' HO_7.out).2.2 | (with_reducible refine Kd.C_alloc ?_ _) | (with_reducible refine Kd.C_drewN ?_ _) | (with_reducible refine Kd.C_drew ?_))); (case side2 => exact (Kd.N_reads' HO_7.out).2.1); (case side3 => repeat (first | exact (Kd.V_reads' HO521.out).2.2 | (with_reducible refine Kd.C_alloc ?_ _) | (with_reducible refine Kd.C_drewN ?_ _) | (with_reducible refine Kd.C_drew ?_))); (case side4 => exact (Kd.V_reads' HO521.out).2.1); rintro e w' ⟨rfl, ⟨nd, rfl⟩⟩; refine ⟨_, rfl, ?_⟩))
  go_ret
  exact ⟨by first | rfl | (simp [errW_none, errW_some] <;> rfl) | (simp [*, errW_none, errW_some] <;> rfl), bl1 HB GE495⟩

/-- THE ONE PURE STATEMENT of laws_FnSomeFew: yours. -/
def laws_FnSomeFew.Pure : Prop := ∀ (l0 : List Int), l0.length ≤ maxLen → l0.length * 1 ≤ 140737488351232 → (∀ x ∈ l0, (Lit.int .u8 x).wf = true) → ∃ k, laws_FnSomeFew.f k l0 = some true
theorem laws_FnSomeFew.walk (P : laws_FnSomeFew.Pure) (a0 : Option Addr) (len0 cap0 : Nat) (z0 : List Int) (w : World) (w0 : (a0 = none ∧ len0 = 0 ∧ cap0 = 0 ∧ z0 = []) ∨ ∃ x, a0 = some x ∧ len0 ≤ cap0 ∧ cap0 ≤ maxLen ∧ z0.length = cap0 ∧ (∀ i, i < z0.length → w.cell? (x.add i) = some (.int .u8 (z0.getD i 0))) ∧ ∀ n ∈ z0, (Lit.int .u8 n).wf = true) (y0 : len0 * 1 ≤ 140737488351232) :
  Calls Try.prog 7 #[.slice a0 len0 cap0] w fun e w' => e = .returned (.bool true) ∧ Below w.heap.size w w' := by
 obtain ⟨l0, rfl, hr0, hm0, hw0, hc0⟩ := ReadsInt.ofRowC w0
 obtain ⟨k, h⟩ := P l0 hm0 y0 hw0
 refine (laws_FnSomeFew.calls k _ _ l0 true w (Kd.C_of_reads (d := (0 : Int)) (h1 := fun _ => rfl) hr0) hc0 h rfl).mono ?_
 rintro e w' ⟨rfl, hd⟩
 exact ⟨rfl, hd⟩

end Go.Proofs.Ytlgolgfcolnddaa.F
