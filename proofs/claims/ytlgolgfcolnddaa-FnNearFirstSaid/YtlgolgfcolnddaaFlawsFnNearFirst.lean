-- Printed by wip/px/px.py of this claim's repository (the kit's printer, extended there). Lean checks it.
import Derived.Test.YtlgolgfcolnddaaFKinds
import Derived.Test.YtlgolgfcolnddaaFwkNet
import Derived.Test.YtlgolgfcolnddaaFimplSomeWalks
import Derived.Test.YtlgolgfcolnddaaFimplNearWalk
import Derived.Test.YtlgolgfcolnddaaFspecDrawNearWalk
import Derived.Test.YtlgolgfcolnddaaFspecNearWalk
namespace Go.Proofs.Ytlgolgfcolnddaa.F
open Go.RowKit Go.Proofs.YtlgolgfcolnddaaW.PrintWords Go.Proofs.YtlgolgfcolnddaaW.PrintLast Go.Proofs.YtlgolgfcolnddaaW.PrintMore
attribute [local go_sem] max2_int min2_int max_two min_two max_three min_three max_four min_four   -- for this text's walks alone
set_option linter.unusedVariables false
set_option linter.unusedSimpArgs false

/-! ### laws_FnNearFirst: function 9 -/
def laws_FnNearFirst.j0 : Nat → Int → Int → List Int → Bool → List Int → Bool → Bool → Int → List (S58) → Option (Bool)
 | 0, _, _, _, _, _, _, _, _, _ => none
 | k + 1, x4, x5, x6, x7, x8, x9, x51, x736000, x736001 => if x51 = true then (if (x7 == x9) = true then ((laws_wkInts.f k x6 x8).bind fun t745 => (some t745)) else (some false)) else ((impl_SomeWalks.f x736000 x736001 x4 x5 1).bind fun t746 => (if (t746.length : Int) = 1 then (if 0 < (t746.length : Int) then ((laws_wkInts.f k (rd_L1 t746 0) x6).bind fun t750 => (some t750)) else (none)) else (some false)))
def laws_FnNearFirst.f (k : Nat) (l0 : List Int) : Option (Bool) := if (l0.length : Int) > 1048576 then (some true) else ((spec_DrawNearWalk.f k l0).bind fun bt729 => ((impl_NearWalk.f k bt729.1 bt729.2.1 bt729.2.2.1 bt729.2.2.2).bind fun bt736 => ((spec_NearWalk.f k bt729.1 bt729.2.1 bt729.2.2.1 bt729.2.2.2).bind fun bt740 => (if (bt736.2 != bt740.2) = true then (laws_FnNearFirst.j0 k bt729.2.2.1 bt729.2.2.2 bt736.1 bt736.2 bt740.1 bt740.2 true bt729.1 bt729.2.1) else ((laws_wkInts.f k bt736.1 bt740.1).bind fun t744 => (if t744 = true then (if bt736.2 = true then (laws_FnNearFirst.j0 k bt729.2.2.1 bt729.2.2.2 bt736.1 bt736.2 bt740.1 bt740.2 (bt729.2.2.1 == bt729.2.2.2) bt729.1 bt729.2.1) else (laws_FnNearFirst.j0 k bt729.2.2.1 bt729.2.2.2 bt736.1 bt736.2 bt740.1 bt740.2 true bt729.1 bt729.2.1)) else (laws_FnNearFirst.j0 k bt729.2.2.1 bt729.2.2.2 bt736.1 bt736.2 bt740.1 bt740.2 true bt729.1 bt729.2.1)))))))
theorem laws_FnNearFirst.mono_l : ∀ k, (∀ y0 y1 y2 y3 y4 y5 y6 y7 y8, LeO (laws_FnNearFirst.j0 k y0 y1 y2 y3 y4 y5 y6 y7 y8) (laws_FnNearFirst.j0 (k + 1) y0 y1 y2 y3 y4 y5 y6 y7 y8))
 | 0 => fun _ _ _ _ _ _ _ _ _ r h => by simp [laws_FnNearFirst.j0] at h
 | k + 1 => by
  have ih0 := laws_FnNearFirst.mono_l k
  ·intro y0 y1 y2 y3 y4 y5 y6 y7 y8
   unfold laws_FnNearFirst.j0
   repeat' first
   | (with_reducible exact ih0 _ _ _ _ _ _ _ _ _)
   | (with_reducible exact impl_NearWalk.mono _ _ _ _ _)
   | (with_reducible exact laws_wkInts.mono _ _ _)
   | (with_reducible exact spec_DrawNearWalk.mono _ _)
   | (with_reducible exact spec_NearWalk.mono _ _ _ _ _)
   | (with_reducible exact LeO.refl _)
   | (with_reducible exact LeO.none _)
   | (with_reducible refine LeO.ite ?_ ?_)
   | (with_reducible refine LeO.bind ?_ (fun _ => ?_))
   | exact ih0 _ _ _ _ _ _ _ _ _
   | exact impl_NearWalk.mono _ _ _ _ _
   | exact laws_wkInts.mono _ _ _
   | exact spec_DrawNearWalk.mono _ _
   | exact spec_NearWalk.mono _ _ _ _ _
   | exact LeO.none _
   | refine LeO.ite ?_ ?_
   | refine LeO.bind ?_ (fun _ => ?_)
theorem laws_FnNearFirst.mono : ∀ a0 k, LeO (laws_FnNearFirst.f k a0) (laws_FnNearFirst.f (k + 1) a0) := by
 intro a0 k
 have ih0 := laws_FnNearFirst.mono_l k
 unfold laws_FnNearFirst.f
 repeat' first
   | (with_reducible exact ih0 _ _ _ _ _ _ _ _ _)
   | (with_reducible exact impl_NearWalk.mono _ _ _ _ _)
   | (with_reducible exact laws_wkInts.mono _ _ _)
   | (with_reducible exact spec_DrawNearWalk.mono _ _)
   | (with_reducible exact spec_NearWalk.mono _ _ _ _ _)
   | (with_reducible exact LeO.refl _)
   | (with_reducible exact LeO.none _)
   | (with_reducible refine LeO.ite ?_ ?_)
   | (with_reducible refine LeO.bind ?_ (fun _ => ?_))
   | exact ih0 _ _ _ _ _ _ _ _ _
   | exact impl_NearWalk.mono _ _ _ _ _
   | exact laws_wkInts.mono _ _ _
   | exact spec_DrawNearWalk.mono _ _
   | exact spec_NearWalk.mono _ _ _ _ _
   | exact LeO.none _
   | refine LeO.ite ?_ ?_
   | refine LeO.bind ?_ (fun _ => ?_)
set_option maxHeartbeats 8000000 in
set_option maxRecDepth 100000 in
theorem laws_FnNearFirst.calls (k : Nat) (A0 : Option Addr) (c0 : Nat) (l0 : List Int) (r : Bool) (w : World) (hr0 : Kd.C (Kd.int .u8) w A0 l0.length l0) (hc0 : l0.length ≤ c0) (h : laws_FnNearFirst.f k l0 = some r) (hr_ : r = true) :
  Calls Try.prog 9 #[.slice A0 l0.length c0] w fun e w' => e = .returned (.bool r) ∧ Below w.heap.size w w' := by
 have hu25 := Try.underlying25
 have HR0 := ak hr0
 have HC0 := ak hc0
 clear hr0 hc0
 have HB := ak (Below.refl w.heap.size w)
 have H : (if (l0.length : Int) > 1048576 then (some true) else ((spec_DrawNearWalk.f k l0).bind fun bt729 => ((impl_NearWalk.f k bt729.1 bt729.2.1 bt729.2.2.1 bt729.2.2.2).bind fun bt736 => ((spec_NearWalk.f k bt729.1 bt729.2.1 bt729.2.2.1 bt729.2.2.2).bind fun bt740 => (if (bt736.2 != bt740.2) = true then (laws_FnNearFirst.j0 k bt729.2.2.1 bt729.2.2.2 bt736.1 bt736.2 bt740.1 bt740.2 true bt729.1 bt729.2.1) else ((laws_wkInts.f k bt736.1 bt740.1).bind fun t744 => (if t744 = true then (if bt736.2 = true then (laws_FnNearFirst.j0 k bt729.2.2.1 bt729.2.2.2 bt736.1 bt736.2 bt740.1 bt740.2 (bt729.2.2.1 == bt729.2.2.2) bt729.1 bt729.2.1) else (laws_FnNearFirst.j0 k bt729.2.2.1 bt729.2.2.2 bt736.1 bt736.2 bt740.1 bt740.2 true bt729.1 bt729.2.1)) else (laws_FnNearFirst.j0 k bt729.2.2.1 bt729.2.2.2 bt736.1 bt736.2 bt740.1 bt740.2 true bt729.1 bt729.2.1)))))))) = some r := h
 clear h
 by_cases c2 : (l0.length : Int) > 1048576
 ·rw [if_pos c2] at H
  have c2b0 : decide (1048576 < (l0.length : Int)) = true := decide_eq_true c2
  have c2b1 : decide (1048576 < l0.length) = true := decide_eq_true (by omega)
  clear c2
  obtain rfl := Option.some.inj H
  go_enter Try.func9, Try.ntmps9
  go_wp2
  go_ret
  exact ⟨by first | rfl | (simp [errW_none, errW_some] <;> rfl) | (simp [*, errW_none, errW_some] <;> rfl), bl HB⟩
 rw [if_neg c2] at H
 have c2b0 : decide (1048576 < (l0.length : Int)) = false := decide_eq_false c2
 have c2b1 : decide (1048576 < l0.length) = false := decide_eq_false (by omega)
 clear c2
 replace H := Option.bind_eq_some_iff.mp H
 obtain ⟨⟨t729, t730, t733, t734⟩, A30, H⟩ := H
 have A3 := ak A30
 clear A30
 replace H := Option.bind_eq_some_iff.mp H
 obtain ⟨⟨t736, t739⟩, A40, H⟩ := H
 have A4 := ak A40
 clear A40
 replace H := Option.bind_eq_some_iff.mp H
 obtain ⟨⟨t740, t743⟩, A50, H⟩ := H
 have A5 := ak A50
 clear A50
 have HC6 := ak H
 clear H
 go_enter Try.func9, Try.ntmps9
 go_upto_region 6 with (first | ((with_reducible refine gate_callee (f := 35) rfl ?_); refine goesL_ (some 16) rfl rfl Try.func35 (by kernel_rfl) rfl #[.slice A0 l0.length c0] rfl (by (try simp only [List.map_toArray, List.map_cons, List.map_nil]); first | done | rfl | (simp only [List.length_drop, List.length_take]; rfl)) ?_; (with_reducible refine (spec_DrawNearWalk.calls k _ _ l0 t729 t730 t733 t734 _ ?side1 ?side2 A3.out).mono ?_); (case side1 => repeat (first | exact HR0.out | (with_reducible refine Kd.C_alloc ?_ _) | (with_reducible refine Kd.C_drewN ?_ _) | (with_reducible refine Kd.C_drew ?_))); (case side2 => exact HC0.out); rintro e w7 ⟨v731, rfl, ho0, hb⟩; refine ⟨_, rfl, ?_⟩; have HO732 := ak (Kd.R_lower ho0 (below_size (bl HB))); replace HB := ak (below_step (bl HB) hb); (try clear hb); (try clear hb2); (try clear hk); (try clear hi); (try clear ho0)) | ((with_reducible refine gate_dst (N := 3) rfl ?_); refine box_event ?hg (N := 3) ?hd (cs := #[.int .i64 0, .slice none 0 0]) (t := 25) ?hr ?_; (case hd => rfl); (case hg => rfl); (case hr => first | (go_simp; done) | (go_simp; rfl)); intro gb735 hg w8 hbox hb; replace HO732 := ak (Kd.R_below (rk HO732) hb); have BK735 := ak (hbox); have GW735 := ak ((by rw [hg]; exact (below_size (bl HB)) : w.heap.size ≤ gb735)); have GE735 := ak ((by rw [hg]; exact (below_size (bl HB)) : w.heap.size ≤ gb735)); replace HB := ak (below_step (bl HB) hb); clear hb hbox hg; have hcz9_0 := bc w8 BK735 0 (.int .i64 0) rfl; have hcz9_1 := bc w8 BK735 1 (.slice none 0 0) rfl; have hfz9_0 := fz BK735 0; have hfz9_1 := fz BK735 1; obtain ⟨Ao10, co10, eo10⟩ := Kd.R_slice HO732.out; subst eo10) | ((with_reducible refine gate_callee (f := 31) rfl ?_); refine goesL_ (some 24) rfl rfl Try.func31 (by kernel_rfl) rfl #[.agg #[.int .i64 t729, .slice Ao10 t730.length co10], .int .i64 t733, .int .i64 t734] rfl (by (try simp only [List.map_toArray, List.map_cons, List.map_nil]); first | done | rfl | (simp only [List.length_drop, List.length_take]; rfl)) ?_; (with_reducible refine (impl_NearWalk.calls k t729 _ _ t730 t733 t734 t736 t739 _ ?side1 ?side2 A4.out).mono ?_); (case side1 => refine (Kd.R_reads' (e := 58) (base := w.heap.size) (ok := fun k_ => True) (n := t730.length) (c := co10) ?_).2.2; exact (by (with_reducible repeat (first | apply Kd.R_alloc | apply Kd.R_drewN | apply Kd.R_drew)); exact (Kd.R_mono (Kd.R_far (p := ⟨gb735, 1, none⟩) (Kd.R_far (p := ⟨gb735, 0, none⟩) (Kd.R_types HO732.out BK735.out (by decide)) (fun _ hk => hk.2) (.int .i64 t729)) (fun _ hk => hk.2) (.slice Ao10 t730.length co10)) (fun _ h_ => h_.1)))); (case side2 => exact (Kd.R_reads' HO732.out).2.1); rintro e w11 ⟨v737, rfl, ho0, hb⟩; refine ⟨_, rfl, ?_⟩; replace HO732 := ak (Kd.R_below (by (with_reducible repeat (first | apply Kd.R_alloc | apply Kd.R_drewN | apply Kd.R_drew)); exact (Kd.R_mono (Kd.R_far (p := ⟨gb735, 1, none⟩) (Kd.R_far (p := ⟨gb735, 0, none⟩) (Kd.R_types HO732.out BK735.out (by decide)) (fun _ hk => hk.2) (.int .i64 t729)) (fun _ hk => hk.2) (.slice Ao10 t730.length co10)) (fun _ h_ => h_.1))) hb); have HO738 := ak (Kd.R_lower ho0 (below_size (bl1 HB GE735))); replace BK735 := ak (blk_below (g := gb735) (o := .cells #[.int .i64 t729, .slice Ao10 t730.length co10] 25 (0, 0)) (by (with_reducible repeat (first | refine blk_drewN ?_ _ | refine blk_drew ?_ | refine blk_alloc ?_ _)); refine blk_put (cs := #[.int .i64 t729, .slice none 0 0]) ?_ 1 _ rfl; refine blk_put (cs := #[.int .i64 0, .slice none 0 0]) ?_ 0 _ rfl; (with_reducible repeat (first | refine blk_drewN ?_ _ | refine blk_drew ?_ | refine blk_alloc ?_ _)); exact BK735.out) hb); replace HB := ak (below_step (bl1 HB GE735) hb); (try clear hb); (try clear hb2); (try clear hk); (try clear hi); (try clear ho0); have hcz12_0 := bc w11 BK735 0 (.int .i64 t729) rfl; have hcz12_1 := bc w11 BK735 1 (.slice Ao10 t730.length co10) rfl; have hfz12_0 := fz BK735 0; have hfz12_1 := fz BK735 1) | ((with_reducible refine gate_callee (f := 36) rfl ?_); refine goesL_ (some 31) rfl rfl Try.func36 (by kernel_rfl) rfl #[.agg #[.int .i64 t729, .slice Ao10 t730.length co10], .int .i64 t733, .int .i64 t734] rfl (by (try simp only [List.map_toArray, List.map_cons, List.map_nil]); first | done | rfl | (simp only [List.length_drop, List.length_take]; rfl)) ?_; (with_reducible refine (spec_NearWalk.calls k t729 _ _ t730 t733 t734 t740 t743 _ ?side1 ?side2 A5.out).mono ?_); (case side1 => repeat (first | exact (Kd.R_reads' HO732.out).2.2 | (with_reducible refine Kd.C_alloc ?_ _) | (with_reducible refine Kd.C_drewN ?_ _) | (with_reducible refine Kd.C_drew ?_))); (case side2 => exact (Kd.R_reads' HO732.out).2.1); rintro e w13 ⟨v741, rfl, ho0, hb⟩; refine ⟨_, rfl, ?_⟩; replace HO732 := ak (Kd.R_below (rk HO732) hb); have HO742 := ak (Kd.R_lower (Kd.R_new' ho0 (Kd.R_lt (rk HO738))) (below_size (bl1 HB GE735))); replace HO738 := ak (Kd.R_elder' (rk HO738) (Kd.R_base ho0) hb); replace BK735 := ak (blk_below (bk BK735) hb); replace HB := ak (below_step (bl1 HB GE735) hb); (try clear hb); (try clear hb2); (try clear hk); (try clear hi); (try clear ho0)))
 (try simp only [Act.put, List.setIfInBounds_toArray, List.set_cons_zero, List.set_cons_succ])
 go_cut [51] (fun v51 wc => ∃ (kq : Nat) (x51_5 : Bool), v51 = .bool x51_5 ∧ Aside0 (laws_FnNearFirst.j0 kq t733 t734 t736 t739 t740 t743 x51_5 t729 t730 = some r) ∧ Aside0 (kq ≤ k) ∧ Aside0 (Kd.R (Kd.int .i64) 3 wc w.heap.size (fun k_ => some k_ ≠ (v741 : Value).ownBlock) v737 t736) ∧ Aside0 (Kd.R (Kd.int .i64) 3 wc w.heap.size (fun k_ => some k_ ≠ (v737 : Value).ownBlock) v741 t740) ∧ Aside0 (Kd.R k58 58 wc w.heap.size (fun _ => True) (.slice Ao10 t730.length co10) t730) ∧ Aside0 (wc.heap[gb735]? = some (.cells #[.int .i64 t729, (.slice Ao10 t730.length co10)] 25 (0, 0))) ∧ Aside0 (Below w.heap.size w wc))
 case first =>
  have H := HC6.out
  clear HC6
  by_cases c14 : (t739 != t743) = true
  ·rw [if_pos c14] at H
   have c14b0 : (t739 != t743) = true := c14
   (try (have c14b1 : decide (t739 = t743) = false := by simpa using c14))
   (try (have c14b2 : (t739 == t743) = false := by simpa using c14))
   (try (have c14b3 : ¬ (t739 = t743) := by simpa using c14))
   clear c14
   (first | rw [c14b0] | (simp only [i64_w, i32_w]; rw [c14b0]) | skip)
   have H' := ak H
   clear H
   go_wp2
   go_meet
   case rel => exact ⟨_, (true), (by first | rfl | (simp; done) | (simp [*]; done)), H', ⟨by first | omega | exact Nat.le_refl _⟩, ⟨by (with_reducible repeat (first | apply Kd.R_alloc | apply Kd.R_drewN | apply Kd.R_drew)); exact Kd.R_mono HO738.out (fun _ hk => hk.2)⟩, ⟨by (with_reducible repeat (first | apply Kd.R_alloc | apply Kd.R_drewN | apply Kd.R_drew)); exact Kd.R_mono HO742.out (fun _ hk => hk.2)⟩, ⟨rk HO732⟩, ⟨bk BK735⟩, ⟨bl1 HB GE735⟩⟩
  rw [if_neg c14] at H
  have c14b0 : (t739 != t743) = false := by simpa using c14
  (try (have c14b1 : decide (t739 = t743) = true := by simpa using c14))
  (try (have c14b2 : (t739 == t743) = true := by simpa using c14))
  clear c14
  (first | rw [c14b0] | (simp only [i64_w, i32_w]; rw [c14b0]) | skip)
  replace H := Option.bind_eq_some_iff.mp H
  obtain ⟨t744, A150, H⟩ := H
  have A15 := ak A150
  clear A150
  by_cases c16 : t744 = true
  rotate_left
  ·replace c16 := Bool.eq_false_iff.mpr c16
   subst c16
   rw [if_neg (show ¬ (false = true) by decide)] at H
   have H' := ak H
   clear H
   obtain ⟨Ao22, co22, eo22⟩ := Kd.R_slice HO738.out
   subst eo22
   obtain ⟨Ao23, co23, eo23⟩ := Kd.R_slice HO742.out
   subst eo23
   go_wp2_with (first | (go_at_call 18; (with_reducible refine (laws_wkInts.calls k _ _ t736 _ _ t740 false _ ?side1 ?side2 ?side3 ?side4 A15.out).mono ?_); (case side1 => repeat (first | exact (Kd.R_reads' HO738.out).2.2 | (with_reducible refine Kd.C_alloc ?_ _) | (with_reducible refine Kd.C_drewN ?_ _) | (with_reducible refine Kd.C_drew ?_))); (case side2 => exact (Kd.R_reads' HO738.out).2.1); (case side3 => repeat (first | exact (Kd.R_reads' HO742.out).2.2 | (with_reducible refine Kd.C_alloc ?_ _) | (with_reducible refine Kd.C_drewN ?_ _) | (with_reducible refine Kd.C_drew ?_))); (case side4 => exact (Kd.R_reads' HO742.out).2.1); rintro e w' ⟨rfl, ⟨nd, rfl⟩⟩))
   go_meet
   case rel => exact ⟨_, (true), (by first | rfl | (simp; done) | (simp [*]; done)), H', ⟨by first | omega | exact Nat.le_refl _⟩, ⟨by (with_reducible repeat (first | apply Kd.R_alloc | apply Kd.R_drewN | apply Kd.R_drew)); exact Kd.R_mono HO738.out (fun _ hk => hk.2)⟩, ⟨by (with_reducible repeat (first | apply Kd.R_alloc | apply Kd.R_drewN | apply Kd.R_drew)); exact Kd.R_mono HO742.out (fun _ hk => hk.2)⟩, ⟨rk HO732⟩, ⟨bk BK735⟩, ⟨bl1 HB GE735⟩⟩
  subst c16
  rw [if_pos rfl] at H
  by_cases c17 : t739 = true
  ·subst c17
   rw [if_pos rfl] at H
   have H' := ak H
   clear H
   obtain ⟨Ao18, co18, eo18⟩ := Kd.R_slice HO738.out
   subst eo18
   obtain ⟨Ao19, co19, eo19⟩ := Kd.R_slice HO742.out
   subst eo19
   go_wp2_with (first | (go_at_call 18; (with_reducible refine (laws_wkInts.calls k _ _ t736 _ _ t740 true _ ?side1 ?side2 ?side3 ?side4 A15.out).mono ?_); (case side1 => repeat (first | exact (Kd.R_reads' HO738.out).2.2 | (with_reducible refine Kd.C_alloc ?_ _) | (with_reducible refine Kd.C_drewN ?_ _) | (with_reducible refine Kd.C_drew ?_))); (case side2 => exact (Kd.R_reads' HO738.out).2.1); (case side3 => repeat (first | exact (Kd.R_reads' HO742.out).2.2 | (with_reducible refine Kd.C_alloc ?_ _) | (with_reducible refine Kd.C_drewN ?_ _) | (with_reducible refine Kd.C_drew ?_))); (case side4 => exact (Kd.R_reads' HO742.out).2.1); rintro e w' ⟨rfl, ⟨nd, rfl⟩⟩))
   go_meet
   case rel => exact ⟨_, ((t733 == t734)), (by first | rfl | (simp; done) | (simp [*]; done)), H', ⟨by first | omega | exact Nat.le_refl _⟩, ⟨by (with_reducible repeat (first | apply Kd.R_alloc | apply Kd.R_drewN | apply Kd.R_drew)); exact Kd.R_mono HO738.out (fun _ hk => hk.2)⟩, ⟨by (with_reducible repeat (first | apply Kd.R_alloc | apply Kd.R_drewN | apply Kd.R_drew)); exact Kd.R_mono HO742.out (fun _ hk => hk.2)⟩, ⟨rk HO732⟩, ⟨bk BK735⟩, ⟨bl1 HB GE735⟩⟩
  replace c17 := Bool.eq_false_iff.mpr c17
  subst c17
  rw [if_neg (show ¬ (false = true) by decide)] at H
  have H' := ak H
  clear H
  obtain ⟨Ao20, co20, eo20⟩ := Kd.R_slice HO738.out
  subst eo20
  obtain ⟨Ao21, co21, eo21⟩ := Kd.R_slice HO742.out
  subst eo21
  go_wp2_with (first | (go_at_call 18; (with_reducible refine (laws_wkInts.calls k _ _ t736 _ _ t740 true _ ?side1 ?side2 ?side3 ?side4 A15.out).mono ?_); (case side1 => repeat (first | exact (Kd.R_reads' HO738.out).2.2 | (with_reducible refine Kd.C_alloc ?_ _) | (with_reducible refine Kd.C_drewN ?_ _) | (with_reducible refine Kd.C_drew ?_))); (case side2 => exact (Kd.R_reads' HO738.out).2.1); (case side3 => repeat (first | exact (Kd.R_reads' HO742.out).2.2 | (with_reducible refine Kd.C_alloc ?_ _) | (with_reducible refine Kd.C_drewN ?_ _) | (with_reducible refine Kd.C_drew ?_))); (case side4 => exact (Kd.R_reads' HO742.out).2.1); rintro e w' ⟨rfl, ⟨nd, rfl⟩⟩))
  go_meet
  case rel => exact ⟨_, (true), (by first | rfl | (simp; done) | (simp [*]; done)), H', ⟨by first | omega | exact Nat.le_refl _⟩, ⟨by (with_reducible repeat (first | apply Kd.R_alloc | apply Kd.R_drewN | apply Kd.R_drew)); exact Kd.R_mono HO738.out (fun _ hk => hk.2)⟩, ⟨by (with_reducible repeat (first | apply Kd.R_alloc | apply Kd.R_drewN | apply Kd.R_drew)); exact Kd.R_mono HO742.out (fun _ hk => hk.2)⟩, ⟨rk HO732⟩, ⟨bk BK735⟩, ⟨bl1 HB GE735⟩⟩
 clear HC6
 try clear c1
 try clear c2
 try clear c2b0
 try clear c2b1
 try clear p2
 try clear c3
 try clear c9
 try clear c14
 try clear c14b0
 try clear c14b1
 try clear c14b2
 try clear c16
 try clear c17
 try clear hcz12_0
 try clear hcz12_1
 try clear hcz9_0
 try clear hcz9_1
 try clear hfz12_0
 try clear hfz12_1
 try clear hfz9_0
 try clear hfz9_1
 obtain ⟨kq, x51_5, rfl, HA, HJ5, HO_6, HO_8, HO_736001, BK735, HB⟩ := hcut
 cases kq with
 | zero => exact absurd HA.out (by simp [laws_FnNearFirst.j0])
 | succ kj5 =>
  have H := HA.out
  clear HA
  simp only [laws_FnNearFirst.j0] at H
  by_cases c24 : x51_5 = true
  ·subst c24
   rw [if_pos rfl] at H
   by_cases c25 : (t739 == t743) = true
   rotate_left
   ·rw [if_neg c25] at H
    have c25b0 : (t739 == t743) = false := by simpa using c25
    (try (have c25b1 : decide (t739 = t743) = false := by simpa using c25))
    (try (have c25b2 : (t739 == t743) = false := by simpa using c25))
    (try (have c25b3 : ¬ (t739 = t743) := by simpa using c25))
    clear c25
    exact absurd ((Option.some.inj H).trans hr_) Bool.false_ne_true
   rw [if_pos c25] at H
   have c25b0 : (t739 == t743) = true := c25
   (try (have c25b1 : decide (t739 = t743) = true := by simpa using c25))
   (try (have c25b2 : (t739 == t743) = true := by simpa using c25))
   clear c25
   replace H := Option.bind_eq_some_iff.mp H
   obtain ⟨t745, A260, H⟩ := H
   have A26 := ak A260
   clear A260
   obtain rfl := Option.some.inj H
   obtain ⟨Ao27, co27, eo27⟩ := Kd.R_slice HO_6.out
   subst eo27
   obtain ⟨Ao28, co28, eo28⟩ := Kd.R_slice HO_8.out
   subst eo28
   go_wp2_with (first | (go_at_call 18; (with_reducible refine (laws_wkInts.calls kj5 _ _ t736 _ _ t740 t745 _ ?side1 ?side2 ?side3 ?side4 A26.out).mono ?_); (case side1 => repeat (first | exact (Kd.R_reads' HO_6.out).2.2 | (with_reducible refine Kd.C_alloc ?_ _) | (with_reducible refine Kd.C_drewN ?_ _) | (with_reducible refine Kd.C_drew ?_))); (case side2 => exact (Kd.R_reads' HO_6.out).2.1); (case side3 => repeat (first | exact (Kd.R_reads' HO_8.out).2.2 | (with_reducible refine Kd.C_alloc ?_ _) | (with_reducible refine Kd.C_drewN ?_ _) | (with_reducible refine Kd.C_drew ?_))); (case side4 => exact (Kd.R_reads' HO_8.out).2.1); rintro e w' ⟨rfl, ⟨nd, rfl⟩⟩))
   go_ret
   exact ⟨by first | rfl | (simp [errW_none, errW_some] <;> rfl) | (simp [*, errW_none, errW_some] <;> rfl), bl1 HB GE735⟩
  replace c24 := Bool.eq_false_iff.mpr c24
  subst c24
  rw [if_neg (show ¬ (false = true) by decide)] at H
  replace H := Option.bind_eq_some_iff.mp H
  obtain ⟨t746, A290, H⟩ := H
  have A29 := ak A290
  clear A290
  by_cases c30 : (t746.length : Int) = 1
  rotate_left
  ·rw [if_neg c30] at H
   have c30b0 : ((t746.length : Int) == 1) = false := beq_eq_false_iff_ne.mpr c30
   have c30b1 : ((t746.length : Int) != 1) = true := bne_iff_ne.mpr c30
   exact absurd ((Option.some.inj H).trans hr_) Bool.false_ne_true
  rw [if_pos c30] at H
  have c30b0 : ((t746.length : Int) == 1) = true := beq_iff_eq.mpr c30
  have c30b1 : ((t746.length : Int) != 1) = false := bne_eq_false_iff_eq.mpr c30
  clear c30
  by_cases c31 : 0 < (t746.length : Int)
  rotate_left
  ·rw [if_neg c31] at H
   exact absurd H (by simp)
  rw [if_pos c31] at H
  have c31b0 : decide (0 < (t746.length : Int)) = true := decide_eq_true c31
  have c31b1 : decide (0 < t746.length) = true := decide_eq_true (by omega)
  clear c31
  replace H := Option.bind_eq_some_iff.mp H
  obtain ⟨t750, A320, H⟩ := H
  have A32 := ak A320
  clear A320
  obtain rfl := Option.some.inj H
  have hcz33_0 := bc wc BK735 0 (.int .i64 t729) rfl
  have hcz33_1 := bc wc BK735 1 (.slice Ao10 t730.length co10) rfl
  have hfz33_0 := fz BK735 0
  have hfz33_1 := fz BK735 1
  go_wp2_with (first | ((with_reducible refine gate_callee (f := 15) rfl ?_); refine goesL_ (some 63) rfl rfl Try.func15 (by kernel_rfl) rfl #[.agg #[.int .i64 t729, .slice Ao10 t730.length co10], .int .i64 t733, .int .i64 t734, .int .i64 1] rfl (by (try simp only [List.map_toArray, List.map_cons, List.map_nil]); first | done | rfl | (simp only [List.length_drop, List.length_take]; rfl)) ?_; (with_reducible refine (impl_SomeWalks.calls t729 _ _ t730 t733 t734 1 t746 _ ?side1 ?side2 A29.out).mono ?_); (case side1 => repeat (first | exact (Kd.R_reads' HO_736001.out).2.2 | (with_reducible refine Kd.C_alloc ?_ _) | (with_reducible refine Kd.C_drewN ?_ _) | (with_reducible refine Kd.C_drew ?_))); (case side2 => exact (Kd.R_reads' HO_736001.out).2.1); rintro e w34 ⟨v747, rfl, ho0, hb⟩; refine ⟨_, rfl, ?_⟩; replace HO_736001 := ak (Kd.R_below (rk HO_736001) hb); have HO748 := ak (Kd.S_lower (Kd.S_new' (Kd.S_new' ho0 (Kd.R_lt (rk HO_6))) (Kd.R_lt (rk HO_8))) (below_size (bl1 HB GE735))); replace HO_6 := ak (Kd.R_below (rk HO_6) hb); replace HO_8 := ak (Kd.R_below (rk HO_8) hb); replace BK735 := ak (blk_below (bk BK735) hb); replace HB := ak (below_step (bl1 HB GE735) hb); (try clear hb); (try clear hb2); (try clear hk); (try clear hi); (try clear ho0); obtain ⟨Ao35, co35, eo35⟩ := Kd.S_slice HO748.out; subst eo35; have p749 : 0 ≤ (0 : Int) := (by omega); have q749 : 0 < (t746.length : Int) := oT (by first | (with_reducible assumption) | assumption); obtain ⟨ad749, A749_0, c749_0, e749, hx749_0, hl749_0, hi749_0⟩ := at_L1 (Kd.S_reads' HO748.out).2.2 0 p749 q749; cases e749; obtain ⟨ce749, hce749, hMe749, hcc749⟩ := Kd.S_get HO748.out [] 0 p749 (by first | exact q749 | exact oT (by first | (with_reducible assumption) | assumption) | (have e_ := (Kd.S_reads' HO748.out).1; omega)); obtain ⟨ve749_0, rfl, ge749_0⟩ := hMe749; have hv749_0 := hcc749 0 _ rfl; rw [Nat.add_zero, show ((Kd.slice 3 (Kd.int .i64))).sz = 1 from rfl, Nat.mul_one] at hv749_0; replace hv749_0 := Option.some.inj (hv749_0.symm.trans hx749_0); rw [hv749_0] at ge749_0; have HL749_0 := ak (show Kd.R (Kd.int .i64) 3 _ _ _ _ (rd_L1 t746 0) from ge749_0); clear hv749_0 ge749_0; clear hcc749 hce749; have qi749 : (0 < t746.length) = True := eq_true (by omega); (try rw [show ((0 : Int)).toNat = 0 from rfl] at hx749_0); (try rw [Addr.add_zero'] at hx749_0); have HR749_0 := ak hi749_0; have HC749_0 := ak hl749_0; clear hi749_0 hl749_0; replace p749 := eq_true p749; replace q749 := eq_true q749; obtain ⟨Ao36, co36, eo36⟩ := Kd.R_slice HO_6.out; subst eo36) | (go_at_call 18; (with_reducible refine (laws_wkInts.calls kj5 _ _ (rd_L1 t746 0) _ _ t736 t750 _ ?side1 ?side2 ?side3 ?side4 A32.out).mono ?_); (case side1 => repeat (first | exact (by repeat (first | (with_reducible exact HR749_0.out) | (with_reducible refine Kd.C_alloc ?_ _) | (with_reducible refine Kd.C_drewN ?_ _) | (with_reducible refine Kd.C_drew ?_) | exact HR749_0.out)) | (with_reducible refine Kd.C_alloc ?_ _) | (with_reducible refine Kd.C_drewN ?_ _) | (with_reducible refine Kd.C_drew ?_))); (case side2 => exact HC749_0.out); (case side3 => repeat (first | exact (Kd.R_reads' HO_6.out).2.2 | (with_reducible refine Kd.C_alloc ?_ _) | (with_reducible refine Kd.C_drewN ?_ _) | (with_reducible refine Kd.C_drew ?_))); (case side4 => exact (Kd.R_reads' HO_6.out).2.1); rintro e w' ⟨rfl, ⟨nd, rfl⟩⟩))
  go_ret
  exact ⟨by first | rfl | (simp [errW_none, errW_some] <;> rfl) | (simp [*, errW_none, errW_some] <;> rfl), bl1 HB GE735⟩

/-- THE ONE PURE STATEMENT of laws_FnNearFirst: yours. -/
def laws_FnNearFirst.Pure : Prop := ∀ (l0 : List Int), l0.length ≤ maxLen → l0.length * 1 ≤ 140737488351232 → (∀ x ∈ l0, (Lit.int .u8 x).wf = true) → ∃ k, laws_FnNearFirst.f k l0 = some true
theorem laws_FnNearFirst.walk (P : laws_FnNearFirst.Pure) (a0 : Option Addr) (len0 cap0 : Nat) (z0 : List Int) (w : World) (w0 : (a0 = none ∧ len0 = 0 ∧ cap0 = 0 ∧ z0 = []) ∨ ∃ x, a0 = some x ∧ len0 ≤ cap0 ∧ cap0 ≤ maxLen ∧ z0.length = cap0 ∧ (∀ i, i < z0.length → w.cell? (x.add i) = some (.int .u8 (z0.getD i 0))) ∧ ∀ n ∈ z0, (Lit.int .u8 n).wf = true) (y0 : len0 * 1 ≤ 140737488351232) :
  Calls Try.prog 9 #[.slice a0 len0 cap0] w fun e w' => e = .returned (.bool true) ∧ Below w.heap.size w w' := by
 obtain ⟨l0, rfl, hr0, hm0, hw0, hc0⟩ := ReadsInt.ofRowC w0
 obtain ⟨k, h⟩ := P l0 hm0 y0 hw0
 refine (laws_FnNearFirst.calls k _ _ l0 true w (Kd.C_of_reads (d := (0 : Int)) (h1 := fun _ => rfl) hr0) hc0 h rfl).mono ?_
 rintro e w' ⟨rfl, hd⟩
 exact ⟨rfl, hd⟩

end Go.Proofs.Ytlgolgfcolnddaa.F
