-- Printed by wip/px/px.py of this claim's repository (the kit's printer, extended there). Lean checks it.
import Derived.Test.YtbappbbljncdeaaFKinds
import Derived.Test.YtbappbbljncdeaaFlawsNet
namespace Go.Proofs.Ytbappbbljncdeaa.F
open Go.RowKit Go.Proofs.YtbappbbljncdeaaW.PrintWords Go.Proofs.YtbappbbljncdeaaW.PrintLast Go.Proofs.YtbappbbljncdeaaW.PrintMore
attribute [local go_sem] max2_int min2_int max_two min_two max_three min_three max_four min_four   -- for this text's walks alone
set_option linter.unusedVariables false
set_option linter.unusedSimpArgs false

/-! ### laws_szNewsS: function 74 -/
def laws_szNewsS.f (l0 : List (S68)) (a1 : Int) : Option (Int) := if (wrap64 (a1 - (l0.length : Int))) < 0 then (some (-1)) else (some (wrap64 (a1 - (l0.length : Int))))
set_option maxHeartbeats 8000000 in
set_option maxRecDepth 100000 in
theorem laws_szNewsS.calls (A0 : Option Addr) (c0 : Nat) (l0 : List (S68)) (a1 : Int) (r : Int) (w : World) (hr0 : Kd.C k68 w A0 l0.length l0) (hc0 : l0.length ≤ c0) (h : laws_szNewsS.f l0 a1 = some r) :
  Calls Try.prog 74 #[.slice A0 l0.length c0, .int .i64 a1] w fun e w' => e = .returned (.int .i64 r) ∧ Drawn0 w w' := by
 have HR0 := ak hr0
 have HC0 := ak hc0
 clear hr0 hc0
 have H : (if (wrap64 (a1 - (l0.length : Int))) < 0 then (some (-1)) else (some (wrap64 (a1 - (l0.length : Int))))) = some r := h
 clear h
 by_cases c3 : (wrap64 (a1 - (l0.length : Int))) < 0
 ·rw [if_pos c3] at H
  have c3b0 : decide ((wrap64 (a1 - (l0.length : Int))) < 0) = true := decide_eq_true c3
  clear c3
  obtain rfl := Option.some.inj H
  go_enter Try.func74, Try.ntmps74
  go_wp2
  go_ret
  exact ⟨by rfl, by repeat (exact Drawn0.refl _)⟩
 rw [if_neg c3] at H
 have c3b0 : decide ((wrap64 (a1 - (l0.length : Int))) < 0) = false := decide_eq_false c3
 clear c3
 obtain rfl := Option.some.inj H
 go_enter Try.func74, Try.ntmps74
 go_wp2
 go_ret
 exact ⟨by rfl, by repeat (exact Drawn0.refl _)⟩

/-! ### laws_szLive: function 29 -/
def laws_szLive.f (a0_0 : Int) (l0_1 : List (S132)) (l0_2 : List (S68)) (a1 : Int) : Option (Int) := (laws_szNet.f a0_0 l0_1 a1).bind fun t498 => (if t498 < 0 then (some (-1)) else ((laws_szNewsS.f l0_2 t498).bind fun t499 => (if t499 < 0 then (some (-1)) else (some t499))))
set_option maxHeartbeats 8000000 in
set_option maxRecDepth 100000 in
theorem laws_szLive.calls (a0_0 : Int) (A0_1 : Option Addr) (c0_1 : Nat) (l0_1 : List (S132)) (A0_2 : Option Addr) (c0_2 : Nat) (l0_2 : List (S68)) (a1 : Int) (r : Int) (w : World) (hr0_1 : Kd.C k132 w A0_1 l0_1.length l0_1) (hc0_1 : l0_1.length ≤ c0_1) (hr0_2 : Kd.C k68 w A0_2 l0_2.length l0_2) (hc0_2 : l0_2.length ≤ c0_2) (h : laws_szLive.f a0_0 l0_1 l0_2 a1 = some r) :
  Calls Try.prog 29 #[.agg #[.int .i64 a0_0, .slice A0_1 l0_1.length c0_1, .slice A0_2 l0_2.length c0_2], .int .i64 a1] w fun e w' => e = .returned (.int .i64 r) ∧ Below w.heap.size w w' := by
 have hu44 := Try.underlying44
 have hu24 := Try.underlying24
 have HR0_1 := ak hr0_1
 have HC0_1 := ak hc0_1
 clear hr0_1 hc0_1
 have HR0_2 := ak hr0_2
 have HC0_2 := ak hc0_2
 clear hr0_2 hc0_2
 have HB := ak (Below.refl w.heap.size w)
 have H : ((laws_szNet.f a0_0 l0_1 a1).bind fun t498 => (if t498 < 0 then (some (-1)) else ((laws_szNewsS.f l0_2 t498).bind fun t499 => (if t499 < 0 then (some (-1)) else (some t499))))) = some r := h
 clear h
 replace H := Option.bind_eq_some_iff.mp H
 obtain ⟨t498, A30, H⟩ := H
 have A3 := ak A30
 clear A30
 by_cases c4 : t498 < 0
 ·rw [if_pos c4] at H
  have c4b0 : decide (t498 < 0) = true := decide_eq_true c4
  clear c4
  obtain rfl := Option.some.inj H
  go_enter Try.func29, Try.ntmps29
  go_wp2_with (first | ((with_reducible refine gate_dst (N := 2) rfl ?_); refine box_event ?hg (N := 2) ?hd (cs := #[.int .i64 a0_0, .slice A0_1 l0_1.length c0_1, .slice A0_2 l0_2.length c0_2]) (t := 44) ?hr ?_; (case hd => rfl); (case hg => rfl); (case hr => (go_simp; done)); intro gb497 hg w5 hbox hb; have BK497 := ak (hbox); have GW497 := ak ((by rw [hg]; exact (below_size (bl HB)) : w.heap.size ≤ gb497)); have GE497 := ak ((by rw [hg]; exact (below_size (bl HB)) : w.heap.size ≤ gb497)); replace HB := ak (below_step (bl HB) hb); clear hb hbox hg; have hcz6_0 := bc w5 BK497 0 (.int .i64 a0_0) rfl; have hcz6_1 := bc w5 BK497 1 (.slice A0_1 l0_1.length c0_1) rfl; have hcz6_2 := bc w5 BK497 2 (.slice A0_2 l0_2.length c0_2) rfl; have hfz6_0 := fz BK497 0; have hfz6_1 := fz BK497 1; have hfz6_2 := fz BK497 2) | ((with_reducible refine gate_callee (f := 15) rfl ?_); refine goesL_ (some 8) rfl rfl Try.func15 (by kernel_rfl) rfl #[.agg #[.int .i64 a0_0, .slice A0_1 l0_1.length c0_1], .int .i64 a1] rfl (by (try simp only [List.map_toArray, List.map_cons, List.map_nil]); rfl) ?_; (with_reducible refine (laws_szNet.calls a0_0 _ _ l0_1 a1 t498 _ ?side1 ?side2 A3.out).mono ?_); (case side1 => repeat (exact (Kd.C_below HR0_1.out HB.out))); (case side2 => exact HC0_1.out); rintro e w7 ⟨rfl, hb⟩; refine ⟨_, rfl, ?_⟩; replace BK497 := ak (blk_below (bk BK497) hb); replace HB := ak (below_step (bl1 HB GE497) hb); (try clear hb); (try clear hb2); (try clear hk); (try clear hi)))
  go_ret
  exact ⟨by rfl, bl1 HB GE497⟩
 rw [if_neg c4] at H
 have c4b0 : decide (t498 < 0) = false := decide_eq_false c4
 clear c4
 replace H := Option.bind_eq_some_iff.mp H
 obtain ⟨t499, A80, H⟩ := H
 have A8 := ak A80
 clear A80
 by_cases c9 : t499 < 0
 ·rw [if_pos c9] at H
  have c9b0 : decide (t499 < 0) = true := decide_eq_true c9
  clear c9
  obtain rfl := Option.some.inj H
  go_enter Try.func29, Try.ntmps29
  go_wp2_with (first | ((with_reducible refine gate_dst (N := 2) rfl ?_); refine box_event ?hg (N := 2) ?hd (cs := #[.int .i64 a0_0, .slice A0_1 l0_1.length c0_1, .slice A0_2 l0_2.length c0_2]) (t := 44) ?hr ?_; (case hd => rfl); (case hg => rfl); (case hr => (go_simp; done)); intro gb497 hg w10 hbox hb; have BK497 := ak (hbox); have GW497 := ak ((by rw [hg]; exact (below_size (bl HB)) : w.heap.size ≤ gb497)); have GE497 := ak ((by rw [hg]; exact (below_size (bl HB)) : w.heap.size ≤ gb497)); replace HB := ak (below_step (bl HB) hb); clear hb hbox hg; have hcz11_0 := bc w10 BK497 0 (.int .i64 a0_0) rfl; have hcz11_1 := bc w10 BK497 1 (.slice A0_1 l0_1.length c0_1) rfl; have hcz11_2 := bc w10 BK497 2 (.slice A0_2 l0_2.length c0_2) rfl; have hfz11_0 := fz BK497 0; have hfz11_1 := fz BK497 1; have hfz11_2 := fz BK497 2) | ((with_reducible refine gate_callee (f := 15) rfl ?_); refine goesL_ (some 8) rfl rfl Try.func15 (by kernel_rfl) rfl #[.agg #[.int .i64 a0_0, .slice A0_1 l0_1.length c0_1], .int .i64 a1] rfl (by (try simp only [List.map_toArray, List.map_cons, List.map_nil]); rfl) ?_; (with_reducible refine (laws_szNet.calls a0_0 _ _ l0_1 a1 t498 _ ?side1 ?side2 A3.out).mono ?_); (case side1 => repeat (exact (Kd.C_below HR0_1.out HB.out))); (case side2 => exact HC0_1.out); rintro e w12 ⟨rfl, hb⟩; refine ⟨_, rfl, ?_⟩; replace BK497 := ak (blk_below (bk BK497) hb); replace HB := ak (below_step (bl1 HB GE497) hb); (try clear hb); (try clear hb2); (try clear hk); (try clear hi); have hcz13_0 := bc w12 BK497 0 (.int .i64 a0_0) rfl; have hcz13_1 := bc w12 BK497 1 (.slice A0_1 l0_1.length c0_1) rfl; have hcz13_2 := bc w12 BK497 2 (.slice A0_2 l0_2.length c0_2) rfl; have hfz13_0 := fz BK497 0; have hfz13_1 := fz BK497 1; have hfz13_2 := fz BK497 2) | ((with_reducible refine gate_callee (f := 74) rfl ?_); refine goesL_ (some 14) rfl rfl Try.func74 (by kernel_rfl) rfl #[.slice A0_2 l0_2.length c0_2, .int .i64 t498] rfl (by (try simp only [List.map_toArray, List.map_cons, List.map_nil]); rfl) ?_; (with_reducible refine (laws_szNewsS.calls _ _ l0_2 t498 t499 _ ?side1 ?side2 A8.out).mono ?_); (case side1 => repeat (exact (Kd.C_below HR0_2.out HB.out))); (case side2 => exact HC0_2.out); rintro e w' ⟨rfl, ⟨nd, rfl⟩⟩; refine ⟨_, rfl, ?_⟩))
  go_ret
  exact ⟨by rfl, bl1 HB GE497⟩
 rw [if_neg c9] at H
 have c9b0 : decide (t499 < 0) = false := decide_eq_false c9
 clear c9
 obtain rfl := Option.some.inj H
 go_enter Try.func29, Try.ntmps29
 go_wp2_with (first | ((with_reducible refine gate_dst (N := 2) rfl ?_); refine box_event ?hg (N := 2) ?hd (cs := #[.int .i64 a0_0, .slice A0_1 l0_1.length c0_1, .slice A0_2 l0_2.length c0_2]) (t := 44) ?hr ?_; (case hd => rfl); (case hg => rfl); (case hr => (go_simp; done)); intro gb497 hg w14 hbox hb; have BK497 := ak (hbox); have GW497 := ak ((by rw [hg]; exact (below_size (bl HB)) : w.heap.size ≤ gb497)); have GE497 := ak ((by rw [hg]; exact (below_size (bl HB)) : w.heap.size ≤ gb497)); replace HB := ak (below_step (bl HB) hb); clear hb hbox hg; have hcz15_0 := bc w14 BK497 0 (.int .i64 a0_0) rfl; have hcz15_1 := bc w14 BK497 1 (.slice A0_1 l0_1.length c0_1) rfl; have hcz15_2 := bc w14 BK497 2 (.slice A0_2 l0_2.length c0_2) rfl; have hfz15_0 := fz BK497 0; have hfz15_1 := fz BK497 1; have hfz15_2 := fz BK497 2) | ((with_reducible refine gate_callee (f := 15) rfl ?_); refine goesL_ (some 8) rfl rfl Try.func15 (by kernel_rfl) rfl #[.agg #[.int .i64 a0_0, .slice A0_1 l0_1.length c0_1], .int .i64 a1] rfl (by (try simp only [List.map_toArray, List.map_cons, List.map_nil]); rfl) ?_; (with_reducible refine (laws_szNet.calls a0_0 _ _ l0_1 a1 t498 _ ?side1 ?side2 A3.out).mono ?_); (case side1 => repeat (exact (Kd.C_below HR0_1.out HB.out))); (case side2 => exact HC0_1.out); rintro e w16 ⟨rfl, hb⟩; refine ⟨_, rfl, ?_⟩; replace BK497 := ak (blk_below (bk BK497) hb); replace HB := ak (below_step (bl1 HB GE497) hb); (try clear hb); (try clear hb2); (try clear hk); (try clear hi); have hcz17_0 := bc w16 BK497 0 (.int .i64 a0_0) rfl; have hcz17_1 := bc w16 BK497 1 (.slice A0_1 l0_1.length c0_1) rfl; have hcz17_2 := bc w16 BK497 2 (.slice A0_2 l0_2.length c0_2) rfl; have hfz17_0 := fz BK497 0; have hfz17_1 := fz BK497 1; have hfz17_2 := fz BK497 2) | ((with_reducible refine gate_callee (f := 74) rfl ?_); refine goesL_ (some 14) rfl rfl Try.func74 (by kernel_rfl) rfl #[.slice A0_2 l0_2.length c0_2, .int .i64 t498] rfl (by (try simp only [List.map_toArray, List.map_cons, List.map_nil]); rfl) ?_; (with_reducible refine (laws_szNewsS.calls _ _ l0_2 t498 t499 _ ?side1 ?side2 A8.out).mono ?_); (case side1 => repeat (exact (Kd.C_below HR0_2.out HB.out))); (case side2 => exact HC0_2.out); rintro e w' ⟨rfl, ⟨nd, rfl⟩⟩; refine ⟨_, rfl, ?_⟩))
 go_ret
 exact ⟨by rfl, bl1 HB GE497⟩

/-! ### laws_toNews: function 48 -/
def laws_toNews.f (a0_0 : Int) (a0_1 : Int) (a0_2 : Int) : Option (Int × Int × Int) := some (a0_0, a0_1, a0_2)
set_option maxHeartbeats 8000000 in
set_option maxRecDepth 100000 in
theorem laws_toNews.calls (a0_0 : Int) (a0_1 : Int) (a0_2 : Int) (r1 : Int) (r2 : Int) (r3 : Int) (w : World) (h : laws_toNews.f a0_0 a0_1 a0_2 = some (r1, r2, r3)) :
  Calls Try.prog 48 #[.agg #[.int .i64 a0_0, .int .i64 a0_1, .int .i64 a0_2]] w fun e w' => e = .returned (.agg #[.int .i64 r1, .int .i64 r2, .int .i64 r3]) ∧ Below w.heap.size w w' := by
 have hu68 := Try.underlying68
 have hu70 := Try.underlying70
 have HB := ak (Below.refl w.heap.size w)
 have H : (some (a0_0, a0_1, a0_2)) = some (r1, r2, r3) := h
 clear h
 simp only [Option.some.injEq, Prod.mk.injEq] at H
 obtain ⟨rfl, rfl, rfl⟩ := H
 go_enter Try.func48, Try.ntmps48
 go_wp2_with (first | ((with_reducible refine gate_dst (N := 1) rfl ?_); refine box_event ?hg (N := 1) ?hd (cs := #[.int .i64 a0_0, .int .i64 a0_1, .int .i64 a0_2]) (t := 68) ?hr ?_; (case hd => rfl); (case hg => rfl); (case hr => (go_simp; done)); intro gb535 hg w2 hbox hb; have BK535 := ak (hbox); have GW535 := ak ((by rw [hg]; exact (below_size (bl HB)) : w.heap.size ≤ gb535)); have GE535 := ak ((by rw [hg]; exact (below_size (bl HB)) : w.heap.size ≤ gb535)); replace HB := ak (below_step (bl HB) hb); clear hb hbox hg) | ((with_reducible refine gate_dst (N := 2) rfl ?_); refine box_event ?hg (N := 2) ?hd (cs := #[.int .i64 0, .int .i64 0, .int .i64 0]) (t := 70) ?hr ?_; (case hd => rfl); (case hg => rfl); (case hr => (go_simp; done)); intro gb536 hg w3 hbox hb; have BK536 := ak (hbox); have GW536 := ak ((by rw [hg]; exact (below_size (bl1 HB GE535)) : w.heap.size ≤ gb536)); have GE536 := ak ((by rw [hg]; exact (below_size (bl1 HB GE535)) : w.heap.size ≤ gb536)); replace HB := ak (below_step (bl1 HB GE535) hb); have NB535_536 := ak ((by rw [hg]; exact Nat.ne_of_lt (blk_lt (bk BK535)) : gb535 ≠ gb536)); have NB536_535 := ak ((by rw [hg]; exact Nat.ne_of_gt (blk_lt (bk BK535)) : gb536 ≠ gb535)); replace BK535 := ak (blk_below (bk BK535) hb); clear hb hbox hg) | ((with_reducible refine gate_dst (N := 3) rfl ?_); refine box_event ?hg (N := 3) ?hd (cs := #[.int .i64 0, .int .i64 0, .int .i64 0]) (t := 70) ?hr ?_; (case hd => rfl); (case hg => rfl); (case hr => (go_simp; done)); intro gb537 hg w4 hbox hb; have BK537 := ak (hbox); have GW537 := ak ((by rw [hg]; exact (below_size (bl2 HB GE535 GE536)) : w.heap.size ≤ gb537)); have GE537 := ak ((by rw [hg]; exact (below_size (bl2 HB GE535 GE536)) : w.heap.size ≤ gb537)); replace HB := ak (below_step (bl2 HB GE535 GE536) hb); have NB535_537 := ak ((by rw [hg]; exact Nat.ne_of_lt (blk_lt (bk BK535)) : gb535 ≠ gb537)); have NB537_535 := ak ((by rw [hg]; exact Nat.ne_of_gt (blk_lt (bk BK535)) : gb537 ≠ gb535)); replace BK535 := ak (blk_below (bk BK535) hb); have NB536_537 := ak ((by rw [hg]; exact Nat.ne_of_lt (blk_lt (bk BK536)) : gb536 ≠ gb537)); have NB537_536 := ak ((by rw [hg]; exact Nat.ne_of_gt (blk_lt (bk BK536)) : gb537 ≠ gb536)); replace BK536 := ak (blk_below (bk BK536) hb); clear hb hbox hg; have hnb5 := NB535_536.out; have hnc5 := NB536_535.out; have hnb6 := NB535_537.out; have hnc6 := NB537_535.out; have hcz7_0 := bc w4 BK535 0 (.int .i64 a0_0) rfl; have hcz7_1 := bc w4 BK535 1 (.int .i64 a0_1) rfl; have hcz7_2 := bc w4 BK535 2 (.int .i64 a0_2) rfl; have hfz7_0 := fz BK535 0; have hfz7_1 := fz BK535 1; have hfz7_2 := fz BK535 2; have hnb8 := NB537_536.out; have hnc8 := NB536_537.out; have hcz9_0 := bc w4 BK537 0 (.int .i64 0) rfl; have hcz9_1 := bc w4 BK537 1 (.int .i64 0) rfl; have hcz9_2 := bc w4 BK537 2 (.int .i64 0) rfl; have hfz9_0 := fz BK537 0; have hfz9_1 := fz BK537 1; have hfz9_2 := fz BK537 2; have hcz10_0 := bc w4 BK536 0 (.int .i64 0) rfl; have hcz10_1 := bc w4 BK536 1 (.int .i64 0) rfl; have hcz10_2 := bc w4 BK536 2 (.int .i64 0) rfl; have hfz10_0 := fz BK536 0; have hfz10_1 := fz BK536 1; have hfz10_2 := fz BK536 2))
 refine bodyPost_ret (results_cell_row rfl _ _ gb536 70 #[.int .i64 a0_0, .int .i64 a0_1, .int .i64 a0_2] (0, 0) _ rfl (by refine blk_put (cs := #[.int .i64 a0_0, .int .i64 a0_1, .int .i64 0]) ?_ 2 _ rfl; refine blk_put (cs := #[.int .i64 a0_0, .int .i64 0, .int .i64 0]) ?_ 1 _ rfl; refine blk_put (cs := #[.int .i64 0, .int .i64 0, .int .i64 0]) ?_ 0 _ rfl; refine blk_far ?_ NB536_537.out _; refine blk_far ?_ NB536_537.out _; refine blk_far ?_ NB536_537.out _; exact BK536.out) Try.underlying70 rfl (by kernel_rfl)) rfl ?_
 exact ⟨by rfl, bl3 HB GE535 GE536 GE537⟩

/-! ### laws_toNewsS: function 77 -/
def laws_toNewsS.l0 : Nat → List (S68) → List (S70) → Int → Option ((List (S70)))
 | 0, _, _, _ => none
 | k + 1, x0, x3, x4 => if x4 < (x0.length : Int) then (if 0 ≤ x4 then ((laws_toNews.f ((rd_T68 x0 x4).f0) ((rd_T68 x0 x4).f1) ((rd_T68 x0 x4).f2)).bind fun bt542 => (if x4 < (x3.length : Int) then (laws_toNewsS.l0 k x0 (x3.set (x4 : Int).toNat (⟨bt542.1, bt542.2.1, bt542.2.2⟩ : S70)) (wrap64 (x4 + 1))) else (none))) else (none)) else (some x3)
def laws_toNewsS.f (k : Nat) (l0 : List (S68)) : Option ((List (S70))) := if 0 ≤ (l0.length : Int) then (if ((l0.length : Int) : Int).toNat ≤ 11728124029610 then (laws_toNewsS.l0 k l0 (List.replicate ((l0.length : Int) : Int).toNat z70) 0) else (none)) else (none)
theorem laws_toNewsS.mono_l : ∀ k, (∀ y0 y1 y2, LeO (laws_toNewsS.l0 k y0 y1 y2) (laws_toNewsS.l0 (k + 1) y0 y1 y2))
 | 0 => fun _ _ _ r h => by simp [laws_toNewsS.l0] at h
 | k + 1 => by
  have ih0 := laws_toNewsS.mono_l k
  ·intro y0 y1 y2
   unfold laws_toNewsS.l0
   repeat' first | (with_reducible exact ih0 _ _ _) | (with_reducible exact LeO.refl _) | (with_reducible refine LeO.ite ?_ ?_) | (with_reducible refine LeO.bind ?_ (fun _ => ?_))
theorem laws_toNewsS.mono : ∀ a0 k, LeO (laws_toNewsS.f k a0) (laws_toNewsS.f (k + 1) a0) := by
 intro a0 k
 have ih0 := laws_toNewsS.mono_l k
 unfold laws_toNewsS.f
 repeat' first | (with_reducible exact ih0 _ _ _) | (with_reducible exact LeO.refl _) | (with_reducible refine LeO.ite ?_ ?_)
set_option maxHeartbeats 8000000 in
set_option maxRecDepth 100000 in
theorem laws_toNewsS.calls (k : Nat) (A0 : Option Addr) (c0 : Nat) (l0 : List (S68)) (r : List (S70)) (w : World) (hr0 : Kd.C k68 w A0 l0.length l0) (hc0 : l0.length ≤ c0) (h : laws_toNewsS.f k l0 = some r) :
  Calls Try.prog 77 #[.slice A0 l0.length c0] w fun e w' => ∃ v0_ : Value, e = .returned (v0_) ∧ Kd.R k70 70 w' w.heap.size (fun _ => True) v0_ r ∧ Below w.heap.size w w' := by
 have hu68 := Try.underlying68
 have hu70 := Try.underlying70
 have HR0 := ak hr0
 have HC0 := ak hc0
 clear hr0 hc0
 have HB := ak (Below.refl w.heap.size w)
 have H : (if 0 ≤ (l0.length : Int) then (if ((l0.length : Int) : Int).toNat ≤ 11728124029610 then (laws_toNewsS.l0 k l0 (List.replicate ((l0.length : Int) : Int).toNat z70) 0) else (none)) else (none)) = some r := h
 clear h
 by_cases c2 : 0 ≤ (l0.length : Int)
 rotate_left
 ·rw [if_neg c2] at H
  exact absurd H (by simp)
 rw [if_pos c2] at H
 have c2b0 := eq_true c2
 have c2b1 : decide (0 ≤ (l0.length : Int)) = true := decide_eq_true c2
 clear c2
 by_cases c3 : ((l0.length : Int) : Int).toNat ≤ 11728124029610
 rotate_left
 ·rw [if_neg c3] at H
  exact absurd H (by simp)
 rw [if_pos c3] at H
 have c3b0 := eq_true c3
 have c3b1 : decide (((l0.length : Int) : Int).toNat ≤ 11728124029610) = true := decide_eq_true c3
 clear c3
 obtain ⟨y538, hy538⟩ : ∃ y_ : List (S70), y_ = (List.replicate ((l0.length : Int) : Int).toNat z70) := ⟨_, rfl⟩
 replace H : (laws_toNewsS.l0 k l0 y538 0) = some r := by (rw [hy538]; with_reducible exact H)
 have Ny538 := ak hy538
 clear hy538
 have H' := ak H
 clear H
 go_enter Try.func77, Try.ntmps77
 go_wp2_with (((with_reducible refine gate_dst (N := 7) rfl ?_); refine Kd.R_make k70 _ 70 rfl (N := 7) rfl 47 _ _ rfl (l0.length : Int) rfl rfl Try.underlying47 (.agg #[(.int .i64 0), (.int .i64 0), (.int .i64 0)]) 24 info70 rfl (by decide) (by omega) z70 (ok := fun _ => True) (okp := fun _ => True) (k70_mkM _ _ _ z70 ) (fun _ hk => hk) trivial (oT (by (with_reducible assumption))) (Nat.le_trans (Nat.mul_le_mul_right _ (oT (by (with_reducible assumption)) : (l0.length : Int).toNat ≤ 11728124029610)) (by omega)) (Below.refl _ _) (Nat.le_refl _) ?_; intro v539 w4 ho5 hb hg_ hnew_; clear hg_ hnew_; (rw [← Ny538.out] at ho5); have HO540 := ak (Kd.R_lower ho5 (below_size (bl HB))); replace HB := ak (below_step (bl HB) hb); clear hb ho5))
 go_loopg [4] k (fun kq v4 w' => ∃ (x3_1 : List (S70)) (x4_1 : Int), v4 = .int .i64 x4_1 ∧ Aside0 (laws_toNewsS.l0 kq l0 x3_1 x4_1 = some r) ∧ Aside0 (kq ≤ k) ∧ Aside0 (Kd.R k70 70 w' w.heap.size (fun _ => True) v539 x3_1) ∧ Aside0 (Below w.heap.size w w'))
 case atStart => exact ⟨(y538), (0), (by rfl), H', ⟨Nat.le_refl _⟩, ⟨rk HO540⟩, ⟨bl HB⟩⟩
 clear H'
 try clear c2
 try clear c2b0
 try clear c2b1
 try clear p2
 try clear c3
 try clear c3b0
 try clear c3b1
 obtain ⟨x3_1, x4_1, rfl, HA, HK1, HO_3, HB⟩ := hrel
 cases gk with
 | zero => exact absurd HA.out (by simp [laws_toNewsS.l0])
 | succ k1 =>
  have H := HA.out
  clear HA
  simp only [laws_toNewsS.l0] at H
  by_cases c6 : x4_1 < (l0.length : Int)
  rotate_left
  ·rw [if_neg c6] at H
   have c6b0 : decide (x4_1 < (l0.length : Int)) = false := decide_eq_false c6
   clear c6
   obtain rfl := Option.some.inj H
   go_wp2
   go_ret
   exact ⟨_, by rfl, rk HO_3, bl HB⟩
  rw [if_pos c6] at H
  have c6b0 : decide (x4_1 < (l0.length : Int)) = true := decide_eq_true c6
  clear c6
  by_cases c7 : 0 ≤ x4_1
  rotate_left
  ·rw [if_neg c7] at H
   exact absurd H (by simp)
  rw [if_pos c7] at H
  have c7b0 : decide (0 ≤ x4_1) = true := decide_eq_true c7
  clear c7
  replace H := Option.bind_eq_some_iff.mp H
  obtain ⟨⟨t542, t543, t544⟩, A80, H⟩ := H
  have A8 := ak A80
  clear A80
  by_cases c9 : x4_1 < (x3_1.length : Int)
  rotate_left
  ·rw [if_neg c9] at H
   exact absurd H (by simp)
  rw [if_pos c9] at H
  have c9b0 : decide (x4_1 < (x3_1.length : Int)) = true := decide_eq_true c9
  clear c9
  obtain ⟨y545, hy545⟩ : ∃ y_ : List (S70), y_ = (x3_1.set (x4_1 : Int).toNat (⟨t542, t543, t544⟩ : S70)) := ⟨_, rfl⟩
  replace H : (laws_toNewsS.l0 k1 l0 y545 (wrap64 (x4_1 + 1))) = some r := by (rw [hy545]; with_reducible exact H)
  have Ny545 := ak hy545
  clear hy545
  have H' := ak H
  clear H
  have p541 : 0 ≤ (x4_1 : Int) := oT (by (with_reducible assumption))
  have q541 : x4_1 < (l0.length : Int) := oT (by (with_reducible assumption))
  obtain ⟨ad541, e541, hx541_0, hx541_1, hx541_2⟩ := at_T68 HR0.out x4_1 p541 q541
  cases e541
  replace hx541_0 := hcb HB.out hx541_0
  replace hx541_1 := hcb HB.out hx541_1
  replace hx541_2 := hcb HB.out hx541_2
  replace p541 := eq_true p541
  replace q541 := eq_true q541
  go_wp2_with (first | ((with_reducible refine gate_callee (f := 48) rfl ?_); refine goesL_ (some 20) rfl rfl Try.func48 (by kernel_rfl) rfl #[.agg #[.int .i64 ((rd_T68 l0 x4_1).f0), .int .i64 ((rd_T68 l0 x4_1).f1), .int .i64 ((rd_T68 l0 x4_1).f2)]] rfl (by (try simp only [List.map_toArray, List.map_cons, List.map_nil]); rfl) ?_; (with_reducible refine (laws_toNews.calls ((rd_T68 l0 x4_1).f0) ((rd_T68 l0 x4_1).f1) ((rd_T68 l0 x4_1).f2) t542 t543 t544 _ A8.out).mono ?_); rintro e w11 ⟨rfl, hb⟩; refine ⟨_, rfl, ?_⟩; replace HO_3 := ak (Kd.R_below (rk HO_3) hb); replace HB := ak (below_step (bl HB) hb); (try clear hb); (try clear hb2); (try clear hk); (try clear hi); have p10 : 0 ≤ (x4_1 : Int) := oT (by (with_reducible assumption)); have q10 : (x4_1 : Int) < ((x3_1.length : Int) : Int) := oT (by (with_reducible assumption)); obtain ⟨go10, co10, eo10, gb10, gl10, cl10, HG10⟩ := Kd.R_form HO_3.out (by omega); (cases eo10); have GB10 := ak gb10; have GG10 := ak HG10; clear gb10 gl10 HG10; obtain ⟨ce10, hcl10, hM10, hcc10, hfr10⟩ := Kd.R_elem HO_3.out z70 (x4_1 : Int) p10 q10; obtain rfl := k70_openM hM10; have hx10_0 : w11.cell? ⟨go10, (x4_1 : Int).toNat * 3, none⟩ = some (.int .i64 ((rd_T70 x3_1 x4_1).f0)) := hcc10 0 _ rfl; have hx10_1 : w11.cell? ⟨go10, (x4_1 : Int).toNat * 3 + 1, none⟩ = some (.int .i64 ((rd_T70 x3_1 x4_1).f1)) := hcc10 1 _ rfl; have hx10_2 : w11.cell? ⟨go10, (x4_1 : Int).toNat * 3 + 2, none⟩ = some (.int .i64 ((rd_T70 x3_1 x4_1).f2)) := hcc10 2 _ rfl; have hf10_0 : w11.frozen? ⟨go10, (x4_1 : Int).toNat * 3, none⟩ = false := hfr10 0; have hf10_1 : w11.frozen? ⟨go10, (x4_1 : Int).toNat * 3 + 1, none⟩ = false := hfr10 1; have hf10_2 : w11.frozen? ⟨go10, (x4_1 : Int).toNat * 3 + 2, none⟩ = false := hfr10 2; clear hcl10 hcc10 hfr10 hM10; replace p10 := eq_true p10; replace q10 := eq_true q10; have HX12 := ak (show Kd.R k70 70 w11 w.heap.size (fun _ => True) (.slice (some ⟨go10, 0, none⟩) x3_1.length co10) x3_1 from (rk HO_3)); obtain ⟨ce12, hcl12, hM12, hcc12, hfr12⟩ := Kd.R_elem HX12.out z70 (x4_1 : Int) (oT (by (with_reducible assumption))) (by have h_ : (x4_1 : Int) < ((x3_1.length : Int) : Int) := oT (by (with_reducible assumption)); exact h_); obtain rfl := k70_openM hM12; have HP12 := Kd.R_seg HX12.out (x4_1 : Int) (oT (by (with_reducible assumption))) (by have h_ : (x4_1 : Int) < ((x3_1.length : Int) : Int) := oT (by (with_reducible assumption)); exact h_) (seg := [.int .i64 t542, .int .i64 t543, .int .i64 t544]) (j := 0) hcl12 hcc12 (show 3 ≤ 3 from by decide) (x' := (⟨t542, t543, t544⟩ : S70)) (k70_mkM _ _ _ (⟨t542, t543, t544⟩ : S70) ) (fun _ hk => hk); have hx12_0 := hcc12 0 _ rfl; (try simp only [show (k70).sz = 3 from rfl, Nat.mul_one, Nat.add_zero] at hx12_0); have hf12_0 := hfr12 0; (try simp only [show (k70).sz = 3 from rfl, Nat.mul_one, Nat.add_zero] at hf12_0); have hx12_1 := hcc12 1 _ rfl; (try simp only [show (k70).sz = 3 from rfl, Nat.mul_one, Nat.add_zero] at hx12_1); have hf12_1 := hfr12 1; (try simp only [show (k70).sz = 3 from rfl, Nat.mul_one, Nat.add_zero] at hf12_1); have hx12_2 := hcc12 2 _ rfl; (try simp only [show (k70).sz = 3 from rfl, Nat.mul_one, Nat.add_zero] at hx12_2); have hf12_2 := hfr12 2; (try simp only [show (k70).sz = 3 from rfl, Nat.mul_one, Nat.add_zero] at hf12_2); clear hcl12 hcc12 hfr12 hM12) | ((with_reducible refine gate_store (t := 70) (p := 21) rfl ?_); refine store_event (t := 70) (p := 21) (v := ?vo_w13) (w1 := (((w11.setCell ⟨go10, (x4_1 : Int).toNat * 3, none⟩ (.int .i64 t542)).setCell ⟨go10, (x4_1 : Int).toNat * 3 + 1, none⟩ (.int .i64 t543)).setCell ⟨go10, (x4_1 : Int).toNat * 3 + 2, none⟩ (.int .i64 t544))) ?hg ?ho ?hn ?hr ?_; (case ho => rfl); (case hg => rfl); (case hn => rfl); (case hr => (go_simp; done)); intro w13 hw; have hg : w11.grownBy w13 (some go10) := (by rw [hw]; exact HP12.2); have hp_ : Kd.R k70 70 w13 w.heap.size (fun _ => True) (.slice (some ⟨go10, 0, none⟩) x3_1.length co10) y545 := (by rw [hw, Ny545.out]; exact HP12.1); clear HP12; replace HO_3 := ak (hp_); replace HB := ak ((by rw [hw]; exact below_set (below_set (below_set (HB.out) GB10.out) GB10.out) GB10.out : Below w.heap.size w w13)); clear hg hw hp_))
  go_roundg k1
  case measure => have := HK1.out; omega
  case rel => exact ⟨(y545), (wrap64 (x4_1 + 1)), (by rfl), H', ⟨by have := HK1.out; omega⟩, ⟨rk HO_3⟩, ⟨bl HB⟩⟩

/-! ### laws_toLive: function 31 -/
def laws_toLive.f (k : Nat) (a0_0 : Int) (l0_1 : List (S132)) (l0_2 : List (S68)) : Option (Int × (List (S100)) × (List (S70))) := (laws_toNet.f k a0_0 l0_1).bind fun bt549 => ((laws_toNewsS.f k l0_2).bind fun t553 => (some (bt549.1, bt549.2, t553)))
theorem laws_toLive.mono : ∀ a0 a1 a2 k, LeO (laws_toLive.f k a0 a1 a2) (laws_toLive.f (k + 1) a0 a1 a2) := by
 intro a0 a1 a2 k
 unfold laws_toLive.f
 repeat' first | (with_reducible exact laws_toNet.mono _ _ _) | (with_reducible exact laws_toNewsS.mono _ _) | (with_reducible exact LeO.refl _) | (with_reducible refine LeO.bind ?_ (fun _ => ?_))
set_option maxHeartbeats 8000000 in
set_option maxRecDepth 100000 in
theorem laws_toLive.calls (k : Nat) (a0_0 : Int) (A0_1 : Option Addr) (c0_1 : Nat) (l0_1 : List (S132)) (A0_2 : Option Addr) (c0_2 : Nat) (l0_2 : List (S68)) (r1 : Int) (r2 : List (S100)) (r3 : List (S70)) (w : World) (hr0_1 : Kd.C k132 w A0_1 l0_1.length l0_1) (hc0_1 : l0_1.length ≤ c0_1) (hr0_2 : Kd.C k68 w A0_2 l0_2.length l0_2) (hc0_2 : l0_2.length ≤ c0_2) (h : laws_toLive.f k a0_0 l0_1 l0_2 = some (r1, r2, r3)) :
  Calls Try.prog 31 #[.agg #[.int .i64 a0_0, .slice A0_1 l0_1.length c0_1, .slice A0_2 l0_2.length c0_2]] w fun e w' => ∃ v1_ v2_ : Value, e = .returned (.agg #[.int .i64 r1, v1_, v2_]) ∧ Kd.R k100 100 w' w.heap.size (fun _ => True) v1_ r2 ∧ Kd.R k70 70 w' w.heap.size (fun _ => True) v2_ r3 ∧ Below w.heap.size w w' := by
 have hu44 := Try.underlying44
 have hu49 := Try.underlying49
 have hu24 := Try.underlying24
 have hu30 := Try.underlying30
 have HR0_1 := ak hr0_1
 have HC0_1 := ak hc0_1
 clear hr0_1 hc0_1
 have HR0_2 := ak hr0_2
 have HC0_2 := ak hc0_2
 clear hr0_2 hc0_2
 have HB := ak (Below.refl w.heap.size w)
 have H : ((laws_toNet.f k a0_0 l0_1).bind fun bt549 => ((laws_toNewsS.f k l0_2).bind fun t553 => (some (bt549.1, bt549.2, t553)))) = some (r1, r2, r3) := h
 clear h
 replace H := Option.bind_eq_some_iff.mp H
 obtain ⟨⟨t549, t550⟩, A20, H⟩ := H
 have A2 := ak A20
 clear A20
 replace H := Option.bind_eq_some_iff.mp H
 obtain ⟨t553, A30, H⟩ := H
 have A3 := ak A30
 clear A30
 simp only [Option.some.injEq, Prod.mk.injEq] at H
 obtain ⟨rfl, rfl, rfl⟩ := H
 go_enter Try.func31, Try.ntmps31
 go_wp2_with (first | ((with_reducible refine gate_dst (N := 1) rfl ?_); refine box_event ?hg (N := 1) ?hd (cs := #[.int .i64 a0_0, .slice A0_1 l0_1.length c0_1, .slice A0_2 l0_2.length c0_2]) (t := 44) ?hr ?_; (case hd => rfl); (case hg => rfl); (case hr => (go_simp; done)); intro gb546 hg w4 hbox hb; have BK546 := ak (hbox); have GW546 := ak ((by rw [hg]; exact (below_size (bl HB)) : w.heap.size ≤ gb546)); have GE546 := ak ((by rw [hg]; exact (below_size (bl HB)) : w.heap.size ≤ gb546)); replace HB := ak (below_step (bl HB) hb); clear hb hbox hg) | ((with_reducible refine gate_dst (N := 2) rfl ?_); refine box_event ?hg (N := 2) ?hd (cs := #[.int .i64 0, .slice none 0 0, .slice none 0 0]) (t := 49) ?hr ?_; (case hd => rfl); (case hg => rfl); (case hr => (go_simp; done)); intro gb547 hg w5 hbox hb; have BK547 := ak (hbox); have GW547 := ak ((by rw [hg]; exact (below_size (bl1 HB GE546)) : w.heap.size ≤ gb547)); have GE547 := ak ((by rw [hg]; exact (below_size (bl1 HB GE546)) : w.heap.size ≤ gb547)); replace HB := ak (below_step (bl1 HB GE546) hb); have NB546_547 := ak ((by rw [hg]; exact Nat.ne_of_lt (blk_lt (bk BK546)) : gb546 ≠ gb547)); have NB547_546 := ak ((by rw [hg]; exact Nat.ne_of_gt (blk_lt (bk BK546)) : gb547 ≠ gb546)); replace BK546 := ak (blk_below (bk BK546) hb); clear hb hbox hg) | ((with_reducible refine gate_dst (N := 3) rfl ?_); refine box_event ?hg (N := 3) ?hd (cs := #[.int .i64 0, .slice none 0 0, .slice none 0 0]) (t := 49) ?hr ?_; (case hd => rfl); (case hg => rfl); (case hr => (go_simp; done)); intro gb548 hg w6 hbox hb; have BK548 := ak (hbox); have GW548 := ak ((by rw [hg]; exact (below_size (bl2 HB GE546 GE547)) : w.heap.size ≤ gb548)); have GE548 := ak ((by rw [hg]; exact (below_size (bl2 HB GE546 GE547)) : w.heap.size ≤ gb548)); replace HB := ak (below_step (bl2 HB GE546 GE547) hb); have NB546_548 := ak ((by rw [hg]; exact Nat.ne_of_lt (blk_lt (bk BK546)) : gb546 ≠ gb548)); have NB548_546 := ak ((by rw [hg]; exact Nat.ne_of_gt (blk_lt (bk BK546)) : gb548 ≠ gb546)); replace BK546 := ak (blk_below (bk BK546) hb); have NB547_548 := ak ((by rw [hg]; exact Nat.ne_of_lt (blk_lt (bk BK547)) : gb547 ≠ gb548)); have NB548_547 := ak ((by rw [hg]; exact Nat.ne_of_gt (blk_lt (bk BK547)) : gb548 ≠ gb547)); replace BK547 := ak (blk_below (bk BK547) hb); clear hb hbox hg; have hnb7 := NB546_547.out; have hnc7 := NB547_546.out; have hnb8 := NB546_548.out; have hnc8 := NB548_546.out; have hcz9_0 := bc w6 BK546 0 (.int .i64 a0_0) rfl; have hcz9_1 := bc w6 BK546 1 (.slice A0_1 l0_1.length c0_1) rfl; have hcz9_2 := bc w6 BK546 2 (.slice A0_2 l0_2.length c0_2) rfl; have hfz9_0 := fz BK546 0; have hfz9_1 := fz BK546 1; have hfz9_2 := fz BK546 2) | ((with_reducible refine gate_callee (f := 17) rfl ?_); refine goesL_ (some 6) rfl rfl Try.func17 (by kernel_rfl) rfl #[.agg #[.int .i64 a0_0, .slice A0_1 l0_1.length c0_1]] rfl (by (try simp only [List.map_toArray, List.map_cons, List.map_nil]); rfl) ?_; (with_reducible refine (laws_toNet.calls k a0_0 _ _ l0_1 t549 t550 _ ?side1 ?side2 A2.out).mono ?_); (case side1 => repeat (exact (Kd.C_below HR0_1.out HB.out))); (case side2 => exact HC0_1.out); rintro e w10 ⟨v551, rfl, ho0, hb⟩; refine ⟨_, rfl, ?_⟩; have HO552 := ak (Kd.R_lower ho0 (below_size (bl3 HB GE546 GE547 GE548))); replace BK546 := ak (blk_below (bk BK546) hb); replace BK547 := ak (blk_below (bk BK547) hb); replace BK548 := ak (blk_below (bk BK548) hb); replace HB := ak (below_step (bl3 HB GE546 GE547 GE548) hb); (try clear hb); (try clear hb2); (try clear hk); (try clear hi); (try clear ho0); have hnb11 := NB548_547.out; have hnc11 := NB547_548.out; have hcz12_0 := bc w10 BK548 0 (.int .i64 0) rfl; have hcz12_1 := bc w10 BK548 1 (.slice none 0 0) rfl; have hcz12_2 := bc w10 BK548 2 (.slice none 0 0) rfl; have hfz12_0 := fz BK548 0; have hfz12_1 := fz BK548 1; have hfz12_2 := fz BK548 2; obtain ⟨Ao13, co13, eo13⟩ := Kd.R_slice HO552.out; subst eo13; have hcz14_0 := bc w10 BK546 0 (.int .i64 a0_0) rfl; have hcz14_1 := bc w10 BK546 1 (.slice A0_1 l0_1.length c0_1) rfl; have hcz14_2 := bc w10 BK546 2 (.slice A0_2 l0_2.length c0_2) rfl; have hfz14_0 := fz BK546 0; have hfz14_1 := fz BK546 1; have hfz14_2 := fz BK546 2) | ((with_reducible refine gate_callee (f := 77) rfl ?_); refine goesL_ (some 10) rfl rfl Try.func77 (by kernel_rfl) rfl #[.slice A0_2 l0_2.length c0_2] rfl (by (try simp only [List.map_toArray, List.map_cons, List.map_nil]); rfl) ?_; (with_reducible refine (laws_toNewsS.calls k _ _ l0_2 t553 _ ?side1 ?side2 A3.out).mono ?_); (case side1 => exact Kd.C_below HR0_2.out (bl3 HB GE546 GE547 GE548)); (case side2 => exact HC0_2.out); rintro e w15 ⟨v554, rfl, ho0, hb⟩; refine ⟨_, rfl, ?_⟩; replace HO552 := ak (Kd.R_below (by exact (Kd.R_mono (Kd.R_far (p := ⟨gb548, 1, none⟩) (Kd.R_far (p := ⟨gb548, 0, none⟩) (Kd.R_types HO552.out BK548.out (by decide)) (fun _ hk => hk.2) (.int .i64 t549)) (fun _ hk => hk.2) (.slice Ao13 t550.length co13)) (fun _ h_ => h_.1))) hb); have HO555 := ak (Kd.R_lower ho0 (below_size (bl3 HB GE546 GE547 GE548))); replace BK546 := ak (blk_below (g := gb546) (o := .cells #[.int .i64 a0_0, .slice A0_1 l0_1.length c0_1, .slice A0_2 l0_2.length c0_2] 44 (0, 0)) (by refine blk_far ?_ NB546_548.out _; refine blk_far ?_ NB546_548.out _; exact BK546.out) hb); replace BK547 := ak (blk_below (g := gb547) (o := .cells #[.int .i64 0, .slice none 0 0, .slice none 0 0] 49 (0, 0)) (by refine blk_far ?_ NB547_548.out _; refine blk_far ?_ NB547_548.out _; exact BK547.out) hb); replace BK548 := ak (blk_below (g := gb548) (o := .cells #[.int .i64 t549, .slice Ao13 t550.length co13, .slice none 0 0] 49 (0, 0)) (by refine blk_put (cs := #[.int .i64 t549, .slice none 0 0, .slice none 0 0]) ?_ 1 _ rfl; refine blk_put (cs := #[.int .i64 0, .slice none 0 0, .slice none 0 0]) ?_ 0 _ rfl; exact BK548.out) hb); replace HB := ak (below_step (bl3 HB GE546 GE547 GE548) hb); (try clear hb); (try clear hb2); (try clear hk); (try clear hi); (try clear ho0); obtain ⟨Ao16, co16, eo16⟩ := Kd.R_slice HO555.out; subst eo16; have hcz17_0 := bc w15 BK548 0 (.int .i64 t549) rfl; have hcz17_1 := bc w15 BK548 1 (.slice Ao13 t550.length co13) rfl; have hcz17_2 := bc w15 BK548 2 (.slice none 0 0) rfl; have hfz17_0 := fz BK548 0; have hfz17_1 := fz BK548 1; have hfz17_2 := fz BK548 2; have hcz18_0 := bc w15 BK547 0 (.int .i64 0) rfl; have hcz18_1 := bc w15 BK547 1 (.slice none 0 0) rfl; have hcz18_2 := bc w15 BK547 2 (.slice none 0 0) rfl; have hfz18_0 := fz BK547 0; have hfz18_1 := fz BK547 1; have hfz18_2 := fz BK547 2))
 refine bodyPost_ret (results_cell_row rfl _ _ gb547 49 #[.int .i64 t549, .slice Ao13 t550.length co13, .slice Ao16 t553.length co16] (0, 0) _ rfl (by refine blk_put (cs := #[.int .i64 t549, .slice Ao13 t550.length co13, .slice none 0 0]) ?_ 2 _ rfl; refine blk_put (cs := #[.int .i64 t549, .slice none 0 0, .slice none 0 0]) ?_ 1 _ rfl; refine blk_put (cs := #[.int .i64 0, .slice none 0 0, .slice none 0 0]) ?_ 0 _ rfl; refine blk_far ?_ NB547_548.out _; exact BK547.out) Try.underlying49 rfl (by kernel_rfl)) rfl ?_
 exact ⟨_, _, by rfl, by exact Kd.R_mono (Kd.R_far (p := ⟨gb547, 2, none⟩) (Kd.R_far (p := ⟨gb547, 1, none⟩) (Kd.R_far (p := ⟨gb547, 0, none⟩) (Kd.R_far (p := ⟨gb548, 2, none⟩) (Kd.R_types (Kd.R_types HO552.out BK548.out (by decide)) BK547.out (by decide)) (fun _ hk => hk.1.2) (.slice Ao16 t553.length co16)) (fun _ hk => hk.2) (.int .i64 t549)) (fun _ hk => hk.2) (.slice Ao13 t550.length co13)) (fun _ hk => hk.2) (.slice Ao16 t553.length co16)) (fun _ hk => trivial), by exact Kd.R_mono (Kd.R_far (p := ⟨gb547, 2, none⟩) (Kd.R_far (p := ⟨gb547, 1, none⟩) (Kd.R_far (p := ⟨gb547, 0, none⟩) (Kd.R_far (p := ⟨gb548, 2, none⟩) (Kd.R_types (Kd.R_types HO555.out BK548.out (by decide)) BK547.out (by decide)) (fun _ hk => hk.1.2) (.slice Ao16 t553.length co16)) (fun _ hk => hk.2) (.int .i64 t549)) (fun _ hk => hk.2) (.slice Ao13 t550.length co13)) (fun _ hk => hk.2) (.slice Ao16 t553.length co16)) (fun _ hk => trivial), bl3 HB GE546 GE547 GE548⟩

/-! ### laws_eqNews: function 131 -/
def laws_eqNews.f (a0_0 : Int) (a0_1 : Int) (a0_2 : Int) (a1_0 : Int) (a1_1 : Int) (a1_2 : Int) : Option (Bool) := if a0_0 = a1_0 then (if a0_1 = a1_1 then (if a0_2 = a1_2 then (some true) else (some false)) else (some false)) else (some false)
set_option maxHeartbeats 8000000 in
set_option maxRecDepth 100000 in
theorem laws_eqNews.calls (a0_0 : Int) (a0_1 : Int) (a0_2 : Int) (a1_0 : Int) (a1_1 : Int) (a1_2 : Int) (r : Bool) (w : World) (h : laws_eqNews.f a0_0 a0_1 a0_2 a1_0 a1_1 a1_2 = some r) :
  Calls Try.prog 131 #[.agg #[.int .i64 a0_0, .int .i64 a0_1, .int .i64 a0_2], .agg #[.int .i64 a1_0, .int .i64 a1_1, .int .i64 a1_2]] w fun e w' => e = .returned (.bool r) ∧ Below w.heap.size w w' := by
 have hu70 := Try.underlying70
 have HB := ak (Below.refl w.heap.size w)
 have H : (if a0_0 = a1_0 then (if a0_1 = a1_1 then (if a0_2 = a1_2 then (some true) else (some false)) else (some false)) else (some false)) = some r := h
 clear h
 by_cases c3 : a0_0 = a1_0
 rotate_left
 ·rw [if_neg c3] at H
  have c3b0 : (a0_0 == a1_0) = false := beq_eq_false_iff_ne.mpr c3
  have c3b1 : (a0_0 != a1_0) = true := bne_iff_ne.mpr c3
  obtain rfl := Option.some.inj H
  go_enter Try.func131, Try.ntmps131
  go_wp2_with (first | ((with_reducible refine gate_dst (N := 2) rfl ?_); refine box_event ?hg (N := 2) ?hd (cs := #[.int .i64 a0_0, .int .i64 a0_1, .int .i64 a0_2]) (t := 70) ?hr ?_; (case hd => rfl); (case hg => rfl); (case hr => (go_simp; done)); intro gb596 hg w21 hbox hb; have BK596 := ak (hbox); have GW596 := ak ((by rw [hg]; exact (below_size (bl HB)) : w.heap.size ≤ gb596)); have GE596 := ak ((by rw [hg]; exact (below_size (bl HB)) : w.heap.size ≤ gb596)); replace HB := ak (below_step (bl HB) hb); clear hb hbox hg) | ((with_reducible refine gate_dst (N := 3) rfl ?_); refine box_event ?hg (N := 3) ?hd (cs := #[.int .i64 a1_0, .int .i64 a1_1, .int .i64 a1_2]) (t := 70) ?hr ?_; (case hd => rfl); (case hg => rfl); (case hr => (go_simp; done)); intro gb597 hg w22 hbox hb; have BK597 := ak (hbox); have GW597 := ak ((by rw [hg]; exact (below_size (bl1 HB GE596)) : w.heap.size ≤ gb597)); have GE597 := ak ((by rw [hg]; exact (below_size (bl1 HB GE596)) : w.heap.size ≤ gb597)); replace HB := ak (below_step (bl1 HB GE596) hb); have NB596_597 := ak ((by rw [hg]; exact Nat.ne_of_lt (blk_lt (bk BK596)) : gb596 ≠ gb597)); have NB597_596 := ak ((by rw [hg]; exact Nat.ne_of_gt (blk_lt (bk BK596)) : gb597 ≠ gb596)); replace BK596 := ak (blk_below (bk BK596) hb); clear hb hbox hg; have hnb23 := NB596_597.out; have hnc23 := NB597_596.out; have hcz24_0 := bc w22 BK596 0 (.int .i64 a0_0) rfl; have hcz24_1 := bc w22 BK596 1 (.int .i64 a0_1) rfl; have hcz24_2 := bc w22 BK596 2 (.int .i64 a0_2) rfl; have hfz24_0 := fz BK596 0; have hfz24_1 := fz BK596 1; have hfz24_2 := fz BK596 2; have hcz25_0 := bc w22 BK597 0 (.int .i64 a1_0) rfl; have hcz25_1 := bc w22 BK597 1 (.int .i64 a1_1) rfl; have hcz25_2 := bc w22 BK597 2 (.int .i64 a1_2) rfl; have hfz25_0 := fz BK597 0; have hfz25_1 := fz BK597 1; have hfz25_2 := fz BK597 2))
  go_ret
  exact ⟨by rfl, bl2 HB GE596 GE597⟩
 rw [if_pos c3] at H
 have c3b0 : (a0_0 == a1_0) = true := beq_iff_eq.mpr c3
 have c3b1 : (a0_0 != a1_0) = false := bne_eq_false_iff_eq.mpr c3
 clear c3
 by_cases c4 : a0_1 = a1_1
 rotate_left
 ·rw [if_neg c4] at H
  have c4b0 : (a0_1 == a1_1) = false := beq_eq_false_iff_ne.mpr c4
  have c4b1 : (a0_1 != a1_1) = true := bne_iff_ne.mpr c4
  obtain rfl := Option.some.inj H
  go_enter Try.func131, Try.ntmps131
  go_wp2_with (first | ((with_reducible refine gate_dst (N := 2) rfl ?_); refine box_event ?hg (N := 2) ?hd (cs := #[.int .i64 a0_0, .int .i64 a0_1, .int .i64 a0_2]) (t := 70) ?hr ?_; (case hd => rfl); (case hg => rfl); (case hr => (go_simp; done)); intro gb596 hg w16 hbox hb; have BK596 := ak (hbox); have GW596 := ak ((by rw [hg]; exact (below_size (bl HB)) : w.heap.size ≤ gb596)); have GE596 := ak ((by rw [hg]; exact (below_size (bl HB)) : w.heap.size ≤ gb596)); replace HB := ak (below_step (bl HB) hb); clear hb hbox hg) | ((with_reducible refine gate_dst (N := 3) rfl ?_); refine box_event ?hg (N := 3) ?hd (cs := #[.int .i64 a1_0, .int .i64 a1_1, .int .i64 a1_2]) (t := 70) ?hr ?_; (case hd => rfl); (case hg => rfl); (case hr => (go_simp; done)); intro gb597 hg w17 hbox hb; have BK597 := ak (hbox); have GW597 := ak ((by rw [hg]; exact (below_size (bl1 HB GE596)) : w.heap.size ≤ gb597)); have GE597 := ak ((by rw [hg]; exact (below_size (bl1 HB GE596)) : w.heap.size ≤ gb597)); replace HB := ak (below_step (bl1 HB GE596) hb); have NB596_597 := ak ((by rw [hg]; exact Nat.ne_of_lt (blk_lt (bk BK596)) : gb596 ≠ gb597)); have NB597_596 := ak ((by rw [hg]; exact Nat.ne_of_gt (blk_lt (bk BK596)) : gb597 ≠ gb596)); replace BK596 := ak (blk_below (bk BK596) hb); clear hb hbox hg; have hnb18 := NB596_597.out; have hnc18 := NB597_596.out; have hcz19_0 := bc w17 BK596 0 (.int .i64 a0_0) rfl; have hcz19_1 := bc w17 BK596 1 (.int .i64 a0_1) rfl; have hcz19_2 := bc w17 BK596 2 (.int .i64 a0_2) rfl; have hfz19_0 := fz BK596 0; have hfz19_1 := fz BK596 1; have hfz19_2 := fz BK596 2; have hcz20_0 := bc w17 BK597 0 (.int .i64 a1_0) rfl; have hcz20_1 := bc w17 BK597 1 (.int .i64 a1_1) rfl; have hcz20_2 := bc w17 BK597 2 (.int .i64 a1_2) rfl; have hfz20_0 := fz BK597 0; have hfz20_1 := fz BK597 1; have hfz20_2 := fz BK597 2))
  go_ret
  exact ⟨by rfl, bl2 HB GE596 GE597⟩
 rw [if_pos c4] at H
 have c4b0 : (a0_1 == a1_1) = true := beq_iff_eq.mpr c4
 have c4b1 : (a0_1 != a1_1) = false := bne_eq_false_iff_eq.mpr c4
 clear c4
 by_cases c5 : a0_2 = a1_2
 ·rw [if_pos c5] at H
  have c5b0 : (a0_2 == a1_2) = true := beq_iff_eq.mpr c5
  have c5b1 : (a0_2 != a1_2) = false := bne_eq_false_iff_eq.mpr c5
  clear c5
  obtain rfl := Option.some.inj H
  go_enter Try.func131, Try.ntmps131
  go_wp2_with (first | ((with_reducible refine gate_dst (N := 2) rfl ?_); refine box_event ?hg (N := 2) ?hd (cs := #[.int .i64 a0_0, .int .i64 a0_1, .int .i64 a0_2]) (t := 70) ?hr ?_; (case hd => rfl); (case hg => rfl); (case hr => (go_simp; done)); intro gb596 hg w6 hbox hb; have BK596 := ak (hbox); have GW596 := ak ((by rw [hg]; exact (below_size (bl HB)) : w.heap.size ≤ gb596)); have GE596 := ak ((by rw [hg]; exact (below_size (bl HB)) : w.heap.size ≤ gb596)); replace HB := ak (below_step (bl HB) hb); clear hb hbox hg) | ((with_reducible refine gate_dst (N := 3) rfl ?_); refine box_event ?hg (N := 3) ?hd (cs := #[.int .i64 a1_0, .int .i64 a1_1, .int .i64 a1_2]) (t := 70) ?hr ?_; (case hd => rfl); (case hg => rfl); (case hr => (go_simp; done)); intro gb597 hg w7 hbox hb; have BK597 := ak (hbox); have GW597 := ak ((by rw [hg]; exact (below_size (bl1 HB GE596)) : w.heap.size ≤ gb597)); have GE597 := ak ((by rw [hg]; exact (below_size (bl1 HB GE596)) : w.heap.size ≤ gb597)); replace HB := ak (below_step (bl1 HB GE596) hb); have NB596_597 := ak ((by rw [hg]; exact Nat.ne_of_lt (blk_lt (bk BK596)) : gb596 ≠ gb597)); have NB597_596 := ak ((by rw [hg]; exact Nat.ne_of_gt (blk_lt (bk BK596)) : gb597 ≠ gb596)); replace BK596 := ak (blk_below (bk BK596) hb); clear hb hbox hg; have hnb8 := NB596_597.out; have hnc8 := NB597_596.out; have hcz9_0 := bc w7 BK596 0 (.int .i64 a0_0) rfl; have hcz9_1 := bc w7 BK596 1 (.int .i64 a0_1) rfl; have hcz9_2 := bc w7 BK596 2 (.int .i64 a0_2) rfl; have hfz9_0 := fz BK596 0; have hfz9_1 := fz BK596 1; have hfz9_2 := fz BK596 2; have hcz10_0 := bc w7 BK597 0 (.int .i64 a1_0) rfl; have hcz10_1 := bc w7 BK597 1 (.int .i64 a1_1) rfl; have hcz10_2 := bc w7 BK597 2 (.int .i64 a1_2) rfl; have hfz10_0 := fz BK597 0; have hfz10_1 := fz BK597 1; have hfz10_2 := fz BK597 2))
  go_ret
  exact ⟨by rfl, bl2 HB GE596 GE597⟩
 rw [if_neg c5] at H
 have c5b0 : (a0_2 == a1_2) = false := beq_eq_false_iff_ne.mpr c5
 have c5b1 : (a0_2 != a1_2) = true := bne_iff_ne.mpr c5
 obtain rfl := Option.some.inj H
 go_enter Try.func131, Try.ntmps131
 go_wp2_with (first | ((with_reducible refine gate_dst (N := 2) rfl ?_); refine box_event ?hg (N := 2) ?hd (cs := #[.int .i64 a0_0, .int .i64 a0_1, .int .i64 a0_2]) (t := 70) ?hr ?_; (case hd => rfl); (case hg => rfl); (case hr => (go_simp; done)); intro gb596 hg w11 hbox hb; have BK596 := ak (hbox); have GW596 := ak ((by rw [hg]; exact (below_size (bl HB)) : w.heap.size ≤ gb596)); have GE596 := ak ((by rw [hg]; exact (below_size (bl HB)) : w.heap.size ≤ gb596)); replace HB := ak (below_step (bl HB) hb); clear hb hbox hg) | ((with_reducible refine gate_dst (N := 3) rfl ?_); refine box_event ?hg (N := 3) ?hd (cs := #[.int .i64 a1_0, .int .i64 a1_1, .int .i64 a1_2]) (t := 70) ?hr ?_; (case hd => rfl); (case hg => rfl); (case hr => (go_simp; done)); intro gb597 hg w12 hbox hb; have BK597 := ak (hbox); have GW597 := ak ((by rw [hg]; exact (below_size (bl1 HB GE596)) : w.heap.size ≤ gb597)); have GE597 := ak ((by rw [hg]; exact (below_size (bl1 HB GE596)) : w.heap.size ≤ gb597)); replace HB := ak (below_step (bl1 HB GE596) hb); have NB596_597 := ak ((by rw [hg]; exact Nat.ne_of_lt (blk_lt (bk BK596)) : gb596 ≠ gb597)); have NB597_596 := ak ((by rw [hg]; exact Nat.ne_of_gt (blk_lt (bk BK596)) : gb597 ≠ gb596)); replace BK596 := ak (blk_below (bk BK596) hb); clear hb hbox hg; have hnb13 := NB596_597.out; have hnc13 := NB597_596.out; have hcz14_0 := bc w12 BK596 0 (.int .i64 a0_0) rfl; have hcz14_1 := bc w12 BK596 1 (.int .i64 a0_1) rfl; have hcz14_2 := bc w12 BK596 2 (.int .i64 a0_2) rfl; have hfz14_0 := fz BK596 0; have hfz14_1 := fz BK596 1; have hfz14_2 := fz BK596 2; have hcz15_0 := bc w12 BK597 0 (.int .i64 a1_0) rfl; have hcz15_1 := bc w12 BK597 1 (.int .i64 a1_1) rfl; have hcz15_2 := bc w12 BK597 2 (.int .i64 a1_2) rfl; have hfz15_0 := fz BK597 0; have hfz15_1 := fz BK597 1; have hfz15_2 := fz BK597 2))
 go_ret
 exact ⟨by rfl, bl2 HB GE596 GE597⟩

/-! ### laws_eqNewsS: function 82 -/
def laws_eqNewsS.l0 : Nat → List (S70) → List (S70) → Int → Option (Bool)
 | 0, _, _, _ => none
 | k + 1, x0, x1, x5 => if x5 < (x0.length : Int) then (if 0 ≤ x5 then (if x5 < (x1.length : Int) then ((laws_eqNews.f ((rd_T70 x0 x5).f0) ((rd_T70 x0 x5).f1) ((rd_T70 x0 x5).f2) ((rd_T70 x1 x5).f0) ((rd_T70 x1 x5).f1) ((rd_T70 x1 x5).f2)).bind fun t600 => (if t600 = true then (laws_eqNewsS.l0 k x0 x1 (wrap64 (x5 + 1))) else (some false))) else (none)) else (none)) else (some true)
def laws_eqNewsS.f (k : Nat) (l0 : List (S70)) (l1 : List (S70)) : Option (Bool) := if (l0.length : Int) = (l1.length : Int) then (laws_eqNewsS.l0 k l0 l1 0) else (some false)
theorem laws_eqNewsS.mono_l : ∀ k, (∀ y0 y1 y2, LeO (laws_eqNewsS.l0 k y0 y1 y2) (laws_eqNewsS.l0 (k + 1) y0 y1 y2))
 | 0 => fun _ _ _ r h => by simp [laws_eqNewsS.l0] at h
 | k + 1 => by
  have ih0 := laws_eqNewsS.mono_l k
  ·intro y0 y1 y2
   unfold laws_eqNewsS.l0
   repeat' first | (with_reducible exact ih0 _ _ _) | (with_reducible exact LeO.refl _) | (with_reducible refine LeO.ite ?_ ?_) | (with_reducible refine LeO.bind ?_ (fun _ => ?_))
theorem laws_eqNewsS.mono : ∀ a0 a1 k, LeO (laws_eqNewsS.f k a0 a1) (laws_eqNewsS.f (k + 1) a0 a1) := by
 intro a0 a1 k
 have ih0 := laws_eqNewsS.mono_l k
 unfold laws_eqNewsS.f
 repeat' first | (with_reducible exact ih0 _ _ _) | (with_reducible exact LeO.refl _) | (with_reducible refine LeO.ite ?_ ?_)
def laws_eqNewsS.T6 : Bool × List (List Nat × List Nat) := (true, [([], []), ([], []), ([0, 1], [0, 1]), ([2], [2]), ([], []), ([], []), ([4, 5], [4, 5]), ([6], [6]), ([3, 7], [3, 7]), ([8], [8])])
def laws_eqNewsS.B6 : List Nat := [0, 0, 3, 7, 0, 0, 48, 112, 255, 511]
theorem laws_eqNewsS.tab6 : rtab .any (opsOf Try.f82 6) = laws_eqNewsS.T6 := by kernel_rfl
theorem laws_eqNewsS.bits6 : waitsOk laws_eqNewsS.T6.2 laws_eqNewsS.B6 = true := by kernel_rfl
set_option maxHeartbeats 8000000 in
set_option maxRecDepth 100000 in
theorem laws_eqNewsS.calls (k : Nat) (A0 : Option Addr) (c0 : Nat) (l0 : List (S70)) (A1 : Option Addr) (c1 : Nat) (l1 : List (S70)) (r : Bool) (w : World) (hr0 : Kd.C k70 w A0 l0.length l0) (hc0 : l0.length ≤ c0) (hr1 : Kd.C k70 w A1 l1.length l1) (hc1 : l1.length ≤ c1) (h : laws_eqNewsS.f k l0 l1 = some r) :
  Calls Try.prog 82 #[.slice A0 l0.length c0, .slice A1 l1.length c1] w fun e w' => e = .returned (.bool r) ∧ Below w.heap.size w w' := by
 have hu70 := Try.underlying70
 have HR0 := ak hr0
 have HC0 := ak hc0
 clear hr0 hc0
 have HR1 := ak hr1
 have HC1 := ak hc1
 clear hr1 hc1
 have HB := ak (Below.refl w.heap.size w)
 have H : (if (l0.length : Int) = (l1.length : Int) then (laws_eqNewsS.l0 k l0 l1 0) else (some false)) = some r := h
 clear h
 by_cases c3 : (l0.length : Int) = (l1.length : Int)
 rotate_left
 ·rw [if_neg c3] at H
  have c3b0 : ((l0.length : Int) == (l1.length : Int)) = false := beq_eq_false_iff_ne.mpr c3
  have c3b1 : ((l0.length : Int) != (l1.length : Int)) = true := bne_iff_ne.mpr c3
  have c3b2 : (l0.length == l1.length) = false := by (simp at c3 ⊢; omega)
  obtain rfl := Option.some.inj H
  go_enter Try.func82, Try.ntmps82
  go_wp2
  go_ret
  exact ⟨by rfl, bl HB⟩
 rw [if_pos c3] at H
 have c3b0 : ((l0.length : Int) == (l1.length : Int)) = true := beq_iff_eq.mpr c3
 have c3b1 : ((l0.length : Int) != (l1.length : Int)) = false := bne_eq_false_iff_eq.mpr c3
 have c3b2 : (l0.length == l1.length) = true := by (simp at c3 ⊢; omega)
 clear c3
 have H' := ak H
 clear H
 go_enter Try.func82, Try.ntmps82
 go_wp2
 go_loopg [5] k (fun kq v5 w' => ∃ (x5_1 : Int), v5 = .int .i64 x5_1 ∧ Aside0 (laws_eqNewsS.l0 kq l0 l1 x5_1 = some r) ∧ Aside0 (kq ≤ k) ∧ Aside0 (Below w.heap.size w w'))
 case atStart => exact ⟨(0), (by rfl), H', ⟨Nat.le_refl _⟩, ⟨bl HB⟩⟩
 clear H'
 try clear c1
 try clear p2
 try clear c3
 try clear c3b0
 try clear c3b1
 try clear c3b2
 obtain ⟨x5_1, rfl, HA, HK1, HB⟩ := hrel
 cases gk with
 | zero => exact absurd HA.out (by simp [laws_eqNewsS.l0])
 | succ k1 =>
  have H := HA.out
  clear HA
  simp only [laws_eqNewsS.l0] at H
  by_cases c4 : x5_1 < (l0.length : Int)
  rotate_left
  ·rw [if_neg c4] at H
   have c4b0 : decide (x5_1 < (l0.length : Int)) = false := decide_eq_false c4
   clear c4
   obtain rfl := Option.some.inj H
   go_wp2
   go_ret
   exact ⟨by rfl, bl HB⟩
  rw [if_pos c4] at H
  have c4b0 : decide (x5_1 < (l0.length : Int)) = true := decide_eq_true c4
  clear c4
  by_cases c5 : 0 ≤ x5_1
  rotate_left
  ·rw [if_neg c5] at H
   exact absurd H (by simp)
  rw [if_pos c5] at H
  have c5b0 : decide (0 ≤ x5_1) = true := decide_eq_true c5
  clear c5
  by_cases c6 : x5_1 < (l1.length : Int)
  rotate_left
  ·rw [if_neg c6] at H
   exact absurd H (by simp)
  rw [if_pos c6] at H
  have c6b0 : decide (x5_1 < (l1.length : Int)) = true := decide_eq_true c6
  clear c6
  replace H := Option.bind_eq_some_iff.mp H
  obtain ⟨t600, A70, H⟩ := H
  have A7 := ak A70
  clear A70
  by_cases c8 : t600 = true
  rotate_left
  ·replace c8 := Bool.eq_false_iff.mpr c8
   subst c8
   rw [if_neg (show ¬ (false = true) by decide)] at H
   obtain rfl := Option.some.inj H
   try go_wp2
   replace HB := ak (below_drew1 HB.out)
   have p598 : 0 ≤ (x5_1 : Int) := oT (by (with_reducible assumption))
   have q598 : x5_1 < (l0.length : Int) := oT (by (with_reducible assumption))
   obtain ⟨ad598, e598, hx598_0, hx598_1, hx598_2⟩ := at_T70 HR0.out x5_1 p598 q598
   have hw598_2 := hx598_2
   have hw598_1 := hx598_1
   have hw598_0 := hx598_0
   cases e598
   replace hx598_0 := hcb HB.out hx598_0
   replace hx598_1 := hcb HB.out hx598_1
   replace hx598_2 := hcb HB.out hx598_2
   replace p598 := eq_true p598
   replace q598 := eq_true q598
   have p599 : 0 ≤ (x5_1 : Int) := oT (by (with_reducible assumption))
   have q599 : x5_1 < (l1.length : Int) := oT (by (with_reducible assumption))
   obtain ⟨ad599, e599, hx599_0, hx599_1, hx599_2⟩ := at_T70 HR1.out x5_1 p599 q599
   have hw599_2 := hx599_2
   have hw599_1 := hx599_1
   have hw599_0 := hx599_0
   cases e599
   replace hx599_0 := hcb HB.out hx599_0
   replace hx599_1 := hcb HB.out hx599_1
   replace hx599_2 := hcb HB.out hx599_2
   replace p599 := eq_true p599
   replace q599 := eq_true q599
   refine start_ (n := 10) (S := fun w' => w'.cell? (ad598.add ((x5_1).toNat * 3)) = some (.int .i64 ((rd_T70 l0 x5_1).f0)) ∧ w'.cell? ⟨(ad598.add ((x5_1).toNat * 3)).block, (ad598.add ((x5_1).toNat * 3)).off + 1, none⟩ = some (.int .i64 ((rd_T70 l0 x5_1).f1)) ∧ w'.cell? ⟨(ad598.add ((x5_1).toNat * 3)).block, (ad598.add ((x5_1).toNat * 3)).off + 2, none⟩ = some (.int .i64 ((rd_T70 l0 x5_1).f2)) ∧ w'.cell? (ad599.add ((x5_1).toNat * 3)) = some (.int .i64 ((rd_T70 l1 x5_1).f0)) ∧ w'.cell? ⟨(ad599.add ((x5_1).toNat * 3)).block, (ad599.add ((x5_1).toNat * 3)).off + 1, none⟩ = some (.int .i64 ((rd_T70 l1 x5_1).f1)) ∧ w'.cell? ⟨(ad599.add ((x5_1).toNat * 3)).block, (ad599.add ((x5_1).toNat * 3)).off + 2, none⟩ = some (.int .i64 ((rd_T70 l1 x5_1).f2))) (ds := []) (ms 10 0) (by kernel_rfl) rfl (by kernel_rfl) ⟨((HB.out.cell (World.block_lt_of_cell? w _ hw598_0)).trans hw598_0), ((HB.out.cell (World.block_lt_of_cell? w _ hw598_1)).trans hw598_1), ((HB.out.cell (World.block_lt_of_cell? w _ hw598_2)).trans hw598_2), ((HB.out.cell (World.block_lt_of_cell? w _ hw599_0)).trans hw599_0), ((HB.out.cell (World.block_lt_of_cell? w _ hw599_1)).trans hw599_1), ((HB.out.cell (World.block_lt_of_cell? w _ hw599_2)).trans hw599_2)⟩ (fun hHeld => ?_); refine with_tabW laws_eqNewsS.tab6 laws_eqNewsS.bits6 (fun HT_ HW_ => ?_)
   generalize wr.drew = w11 at HB hx598_0 hx598_1 hx598_2 hx599_0 hx599_1 hx599_2 hHeld ⊢
   refine pu 0 17 ?_ (ms 10 1) rfl rfl HT_ (by kernel_rfl) (fun _ _ _ h => h) (by rfl) ?_ ?_ ?_ ?_
   rotate_left
   ·intro w'
    go_simp
    with_reducible rfl
   rotate_left
   ·simp only [SX]
    rfl
   refine pu 1 18 ?_ (ms 10 3) rfl rfl HT_ (by kernel_rfl) (fun _ _ _ h => h) (by rfl) ?_ ?_ ?_ ?_
   rotate_left
   ·intro w'
    go_simp
    with_reducible rfl
   rotate_left
   ·simp only [SX]
    rfl
   refine pu 2 19 ?_ (ms 10 7) rfl rfl HT_ (by kernel_rfl) (fun _ _ _ h => h) (by rfl) ?_ ?_ ?_ ?_
   rotate_left
   ·intro w'
    go_simp
    with_reducible rfl
   rotate_left
   ·simp only [SX]
    rfl
   refine pu 4 21 ?_ (ms 10 23) rfl rfl HT_ (by kernel_rfl) (fun _ _ _ h => h) (by rfl) ?_ ?_ ?_ ?_
   rotate_left
   ·intro w'
    go_simp
    with_reducible rfl
   rotate_left
   ·simp only [SX]
    rfl
   refine pu 5 22 ?_ (ms 10 55) rfl rfl HT_ (by kernel_rfl) (fun _ _ _ h => h) (by rfl) ?_ ?_ ?_ ?_
   rotate_left
   ·intro w'
    go_simp
    with_reducible rfl
   rotate_left
   ·simp only [SX]
    rfl
   refine pu 6 23 ?_ (ms 10 119) rfl rfl HT_ (by kernel_rfl) (fun _ _ _ h => h) (by rfl) ?_ ?_ ?_ ?_
   rotate_left
   ·intro w'
    go_simp
    with_reducible rfl
   rotate_left
   ·simp only [SX]
    rfl
   refine tk 3 20 ?_ (ms 10 127) rfl rfl HT_ HW_ (by kernel_rfl) (fun _ _ _ h => h) (by rfl) ?_ hHeld ?_ ?_ ?_
   rotate_left
   ·rintro w' ⟨s0, s1, s2, s3, s4, s5⟩
    go_simp
    with_reducible rfl
   rotate_left
   ·simp only [SX]
    rfl
   refine tk 7 24 ?_ (ms 10 255) rfl rfl HT_ HW_ (by kernel_rfl) (fun _ _ _ h => h) (by rfl) ?_ hHeld ?_ ?_ ?_
   rotate_left
   ·rintro w' ⟨s0, s1, s2, s3, s4, s5⟩
    go_simp
    with_reducible rfl
   rotate_left
   ·simp only [SX]
    rfl
   refine one_ (i := 8) (N := some 25) (ms 10 511) rfl rfl (one_of HT_.out (by kernel_rfl)) (by decide) (fun K hK => ?_)
   refine goes_ Try.func131 (by kernel_rfl) rfl #[.agg #[.int .i64 ((rd_T70 l0 x5_1).f0), .int .i64 ((rd_T70 l0 x5_1).f1), .int .i64 ((rd_T70 l0 x5_1).f2)], .agg #[.int .i64 ((rd_T70 l1 x5_1).f0), .int .i64 ((rd_T70 l1 x5_1).f1), .int .i64 ((rd_T70 l1 x5_1).f2)]] (by rfl) rfl rfl (by (try simp only [List.map_toArray, List.map_cons, List.map_nil]); rfl) ?_
   with_reducible refine (laws_eqNews.calls ((rd_T70 l0 x5_1).f0) ((rd_T70 l0 x5_1).f1) ((rd_T70 l0 x5_1).f2) ((rd_T70 l1 x5_1).f0) ((rd_T70 l1 x5_1).f1) ((rd_T70 l1 x5_1).f2) false _ A7.out).mono ?_
   rintro e w12 ⟨rfl, hb⟩
   refine ⟨_, rfl, ?_⟩
   replace HB := ak (below_step (bl HB) hb)
   (try clear hb)
   (try clear hb2)
   (try clear hk)
   (try clear hi)
   refine hK.out _ _ ⟨((HB.out.cell (World.block_lt_of_cell? w _ hw598_0)).trans hw598_0), ((HB.out.cell (World.block_lt_of_cell? w _ hw598_1)).trans hw598_1), ((HB.out.cell (World.block_lt_of_cell? w _ hw598_2)).trans hw598_2), ((HB.out.cell (World.block_lt_of_cell? w _ hw599_0)).trans hw599_0), ((HB.out.cell (World.block_lt_of_cell? w _ hw599_1)).trans hw599_1), ((HB.out.cell (World.block_lt_of_cell? w _ hw599_2)).trans hw599_2)⟩ (fun hHeld => ?_)
   clear hK K
   refine norm_ (a' := ?_) ?_ ?_
   rotate_left
   ·show Act.put _ (some 25) _ = _
    simp only [SX]
    rfl
   refine pu 9 26 ?_ (ms 10 1023) rfl rfl HT_ (by kernel_rfl) (fun _ _ _ h => h) (by rfl) ?_ ?_ ?_ ?_
   rotate_left
   ·intro w'
    go_simp
    with_reducible rfl
   rotate_left
   ·simp only [SX]
    rfl
   refine done_ (done_of HT_.out (by kernel_rfl)) ?_
   try go_wp2
   go_ret
   exact ⟨by rfl, bl HB⟩
  subst c8
  rw [if_pos rfl] at H
  have H' := ak H
  clear H
  try go_wp2
  replace HB := ak (below_drew1 HB.out)
  have p598 : 0 ≤ (x5_1 : Int) := oT (by (with_reducible assumption))
  have q598 : x5_1 < (l0.length : Int) := oT (by (with_reducible assumption))
  obtain ⟨ad598, e598, hx598_0, hx598_1, hx598_2⟩ := at_T70 HR0.out x5_1 p598 q598
  have hw598_2 := hx598_2
  have hw598_1 := hx598_1
  have hw598_0 := hx598_0
  cases e598
  replace hx598_0 := hcb HB.out hx598_0
  replace hx598_1 := hcb HB.out hx598_1
  replace hx598_2 := hcb HB.out hx598_2
  replace p598 := eq_true p598
  replace q598 := eq_true q598
  have p599 : 0 ≤ (x5_1 : Int) := oT (by (with_reducible assumption))
  have q599 : x5_1 < (l1.length : Int) := oT (by (with_reducible assumption))
  obtain ⟨ad599, e599, hx599_0, hx599_1, hx599_2⟩ := at_T70 HR1.out x5_1 p599 q599
  have hw599_2 := hx599_2
  have hw599_1 := hx599_1
  have hw599_0 := hx599_0
  cases e599
  replace hx599_0 := hcb HB.out hx599_0
  replace hx599_1 := hcb HB.out hx599_1
  replace hx599_2 := hcb HB.out hx599_2
  replace p599 := eq_true p599
  replace q599 := eq_true q599
  refine start_ (n := 10) (S := fun w' => w'.cell? (ad598.add ((x5_1).toNat * 3)) = some (.int .i64 ((rd_T70 l0 x5_1).f0)) ∧ w'.cell? ⟨(ad598.add ((x5_1).toNat * 3)).block, (ad598.add ((x5_1).toNat * 3)).off + 1, none⟩ = some (.int .i64 ((rd_T70 l0 x5_1).f1)) ∧ w'.cell? ⟨(ad598.add ((x5_1).toNat * 3)).block, (ad598.add ((x5_1).toNat * 3)).off + 2, none⟩ = some (.int .i64 ((rd_T70 l0 x5_1).f2)) ∧ w'.cell? (ad599.add ((x5_1).toNat * 3)) = some (.int .i64 ((rd_T70 l1 x5_1).f0)) ∧ w'.cell? ⟨(ad599.add ((x5_1).toNat * 3)).block, (ad599.add ((x5_1).toNat * 3)).off + 1, none⟩ = some (.int .i64 ((rd_T70 l1 x5_1).f1)) ∧ w'.cell? ⟨(ad599.add ((x5_1).toNat * 3)).block, (ad599.add ((x5_1).toNat * 3)).off + 2, none⟩ = some (.int .i64 ((rd_T70 l1 x5_1).f2))) (ds := []) (ms 10 0) (by kernel_rfl) rfl (by kernel_rfl) ⟨((HB.out.cell (World.block_lt_of_cell? w _ hw598_0)).trans hw598_0), ((HB.out.cell (World.block_lt_of_cell? w _ hw598_1)).trans hw598_1), ((HB.out.cell (World.block_lt_of_cell? w _ hw598_2)).trans hw598_2), ((HB.out.cell (World.block_lt_of_cell? w _ hw599_0)).trans hw599_0), ((HB.out.cell (World.block_lt_of_cell? w _ hw599_1)).trans hw599_1), ((HB.out.cell (World.block_lt_of_cell? w _ hw599_2)).trans hw599_2)⟩ (fun hHeld => ?_); refine with_tabW laws_eqNewsS.tab6 laws_eqNewsS.bits6 (fun HT_ HW_ => ?_)
  generalize wr.drew = w9 at HB hx598_0 hx598_1 hx598_2 hx599_0 hx599_1 hx599_2 hHeld ⊢
  refine pu 0 17 ?_ (ms 10 1) rfl rfl HT_ (by kernel_rfl) (fun _ _ _ h => h) (by rfl) ?_ ?_ ?_ ?_
  rotate_left
  ·intro w'
   go_simp
   with_reducible rfl
  rotate_left
  ·simp only [SX]
   rfl
  refine pu 1 18 ?_ (ms 10 3) rfl rfl HT_ (by kernel_rfl) (fun _ _ _ h => h) (by rfl) ?_ ?_ ?_ ?_
  rotate_left
  ·intro w'
   go_simp
   with_reducible rfl
  rotate_left
  ·simp only [SX]
   rfl
  refine pu 2 19 ?_ (ms 10 7) rfl rfl HT_ (by kernel_rfl) (fun _ _ _ h => h) (by rfl) ?_ ?_ ?_ ?_
  rotate_left
  ·intro w'
   go_simp
   with_reducible rfl
  rotate_left
  ·simp only [SX]
   rfl
  refine pu 4 21 ?_ (ms 10 23) rfl rfl HT_ (by kernel_rfl) (fun _ _ _ h => h) (by rfl) ?_ ?_ ?_ ?_
  rotate_left
  ·intro w'
   go_simp
   with_reducible rfl
  rotate_left
  ·simp only [SX]
   rfl
  refine pu 5 22 ?_ (ms 10 55) rfl rfl HT_ (by kernel_rfl) (fun _ _ _ h => h) (by rfl) ?_ ?_ ?_ ?_
  rotate_left
  ·intro w'
   go_simp
   with_reducible rfl
  rotate_left
  ·simp only [SX]
   rfl
  refine pu 6 23 ?_ (ms 10 119) rfl rfl HT_ (by kernel_rfl) (fun _ _ _ h => h) (by rfl) ?_ ?_ ?_ ?_
  rotate_left
  ·intro w'
   go_simp
   with_reducible rfl
  rotate_left
  ·simp only [SX]
   rfl
  refine tk 3 20 ?_ (ms 10 127) rfl rfl HT_ HW_ (by kernel_rfl) (fun _ _ _ h => h) (by rfl) ?_ hHeld ?_ ?_ ?_
  rotate_left
  ·rintro w' ⟨s0, s1, s2, s3, s4, s5⟩
   go_simp
   with_reducible rfl
  rotate_left
  ·simp only [SX]
   rfl
  refine tk 7 24 ?_ (ms 10 255) rfl rfl HT_ HW_ (by kernel_rfl) (fun _ _ _ h => h) (by rfl) ?_ hHeld ?_ ?_ ?_
  rotate_left
  ·rintro w' ⟨s0, s1, s2, s3, s4, s5⟩
   go_simp
   with_reducible rfl
  rotate_left
  ·simp only [SX]
   rfl
  refine one_ (i := 8) (N := some 25) (ms 10 511) rfl rfl (one_of HT_.out (by kernel_rfl)) (by decide) (fun K hK => ?_)
  refine goes_ Try.func131 (by kernel_rfl) rfl #[.agg #[.int .i64 ((rd_T70 l0 x5_1).f0), .int .i64 ((rd_T70 l0 x5_1).f1), .int .i64 ((rd_T70 l0 x5_1).f2)], .agg #[.int .i64 ((rd_T70 l1 x5_1).f0), .int .i64 ((rd_T70 l1 x5_1).f1), .int .i64 ((rd_T70 l1 x5_1).f2)]] (by rfl) rfl rfl (by (try simp only [List.map_toArray, List.map_cons, List.map_nil]); rfl) ?_
  with_reducible refine (laws_eqNews.calls ((rd_T70 l0 x5_1).f0) ((rd_T70 l0 x5_1).f1) ((rd_T70 l0 x5_1).f2) ((rd_T70 l1 x5_1).f0) ((rd_T70 l1 x5_1).f1) ((rd_T70 l1 x5_1).f2) true _ A7.out).mono ?_
  rintro e w10 ⟨rfl, hb⟩
  refine ⟨_, rfl, ?_⟩
  replace HB := ak (below_step (bl HB) hb)
  (try clear hb)
  (try clear hb2)
  (try clear hk)
  (try clear hi)
  refine hK.out _ _ ⟨((HB.out.cell (World.block_lt_of_cell? w _ hw598_0)).trans hw598_0), ((HB.out.cell (World.block_lt_of_cell? w _ hw598_1)).trans hw598_1), ((HB.out.cell (World.block_lt_of_cell? w _ hw598_2)).trans hw598_2), ((HB.out.cell (World.block_lt_of_cell? w _ hw599_0)).trans hw599_0), ((HB.out.cell (World.block_lt_of_cell? w _ hw599_1)).trans hw599_1), ((HB.out.cell (World.block_lt_of_cell? w _ hw599_2)).trans hw599_2)⟩ (fun hHeld => ?_)
  clear hK K
  refine norm_ (a' := ?_) ?_ ?_
  rotate_left
  ·show Act.put _ (some 25) _ = _
   simp only [SX]
   rfl
  refine pu 9 26 ?_ (ms 10 1023) rfl rfl HT_ (by kernel_rfl) (fun _ _ _ h => h) (by rfl) ?_ ?_ ?_ ?_
  rotate_left
  ·intro w'
   go_simp
   with_reducible rfl
  rotate_left
  ·simp only [SX]
   rfl
  refine done_ (done_of HT_.out (by kernel_rfl)) ?_
  try go_wp2
  go_roundg k1
  case measure => have := HK1.out; omega
  case rel => exact ⟨(wrap64 (x5_1 + 1)), (by rfl), H', ⟨by have := HK1.out; omega⟩, ⟨bl HB⟩⟩

/-! ### laws_eqLive: function 33 -/
def laws_eqLive.f (k : Nat) (a0_0 : Int) (l0_1 : List (S100)) (l0_2 : List (S70)) (a1_0 : Int) (l1_1 : List (S100)) (l1_2 : List (S70)) : Option (Bool) := (laws_eqNet.f k a0_0 l0_1 a1_0 l1_1).bind fun t603 => (if t603 = true then ((laws_eqNewsS.f k l0_2 l1_2).bind fun t604 => (if t604 = true then (some true) else (some false))) else (some false))
theorem laws_eqLive.mono : ∀ a0 a1 a2 a3 a4 a5 k, LeO (laws_eqLive.f k a0 a1 a2 a3 a4 a5) (laws_eqLive.f (k + 1) a0 a1 a2 a3 a4 a5) := by
 intro a0 a1 a2 a3 a4 a5 k
 unfold laws_eqLive.f
 repeat' first | (with_reducible exact laws_eqNet.mono _ _ _ _ _) | (with_reducible exact laws_eqNewsS.mono _ _ _) | (with_reducible exact LeO.refl _) | (with_reducible refine LeO.ite ?_ ?_) | (with_reducible refine LeO.bind ?_ (fun _ => ?_))
set_option maxHeartbeats 8000000 in
set_option maxRecDepth 100000 in
theorem laws_eqLive.calls (k : Nat) (a0_0 : Int) (A0_1 : Option Addr) (c0_1 : Nat) (l0_1 : List (S100)) (A0_2 : Option Addr) (c0_2 : Nat) (l0_2 : List (S70)) (a1_0 : Int) (A1_1 : Option Addr) (c1_1 : Nat) (l1_1 : List (S100)) (A1_2 : Option Addr) (c1_2 : Nat) (l1_2 : List (S70)) (r : Bool) (w : World) (hr0_1 : Kd.C k100 w A0_1 l0_1.length l0_1) (hc0_1 : l0_1.length ≤ c0_1) (hr0_2 : Kd.C k70 w A0_2 l0_2.length l0_2) (hc0_2 : l0_2.length ≤ c0_2) (hr1_1 : Kd.C k100 w A1_1 l1_1.length l1_1) (hc1_1 : l1_1.length ≤ c1_1) (hr1_2 : Kd.C k70 w A1_2 l1_2.length l1_2) (hc1_2 : l1_2.length ≤ c1_2) (h : laws_eqLive.f k a0_0 l0_1 l0_2 a1_0 l1_1 l1_2 = some r) :
  Calls Try.prog 33 #[.agg #[.int .i64 a0_0, .slice A0_1 l0_1.length c0_1, .slice A0_2 l0_2.length c0_2], .agg #[.int .i64 a1_0, .slice A1_1 l1_1.length c1_1, .slice A1_2 l1_2.length c1_2]] w fun e w' => e = .returned (.bool r) ∧ Below w.heap.size w w' := by
 have hu49 := Try.underlying49
 have hu30 := Try.underlying30
 have HR0_1 := ak hr0_1
 have HC0_1 := ak hc0_1
 clear hr0_1 hc0_1
 have HR0_2 := ak hr0_2
 have HC0_2 := ak hc0_2
 clear hr0_2 hc0_2
 have HR1_1 := ak hr1_1
 have HC1_1 := ak hc1_1
 clear hr1_1 hc1_1
 have HR1_2 := ak hr1_2
 have HC1_2 := ak hc1_2
 clear hr1_2 hc1_2
 have HB := ak (Below.refl w.heap.size w)
 have H : ((laws_eqNet.f k a0_0 l0_1 a1_0 l1_1).bind fun t603 => (if t603 = true then ((laws_eqNewsS.f k l0_2 l1_2).bind fun t604 => (if t604 = true then (some true) else (some false))) else (some false))) = some r := h
 clear h
 replace H := Option.bind_eq_some_iff.mp H
 obtain ⟨t603, A30, H⟩ := H
 have A3 := ak A30
 clear A30
 by_cases c4 : t603 = true
 rotate_left
 ·replace c4 := Bool.eq_false_iff.mpr c4
  subst c4
  rw [if_neg (show ¬ (false = true) by decide)] at H
  obtain rfl := Option.some.inj H
  go_enter Try.func33, Try.ntmps33
  go_wp2_with (first | ((with_reducible refine gate_dst (N := 2) rfl ?_); refine box_event ?hg (N := 2) ?hd (cs := #[.int .i64 a0_0, .slice A0_1 l0_1.length c0_1, .slice A0_2 l0_2.length c0_2]) (t := 49) ?hr ?_; (case hd => rfl); (case hg => rfl); (case hr => (go_simp; done)); intro gb601 hg w25 hbox hb; have BK601 := ak (hbox); have GW601 := ak ((by rw [hg]; exact (below_size (bl HB)) : w.heap.size ≤ gb601)); have GE601 := ak ((by rw [hg]; exact (below_size (bl HB)) : w.heap.size ≤ gb601)); replace HB := ak (below_step (bl HB) hb); clear hb hbox hg) | ((with_reducible refine gate_dst (N := 3) rfl ?_); refine box_event ?hg (N := 3) ?hd (cs := #[.int .i64 a1_0, .slice A1_1 l1_1.length c1_1, .slice A1_2 l1_2.length c1_2]) (t := 49) ?hr ?_; (case hd => rfl); (case hg => rfl); (case hr => (go_simp; done)); intro gb602 hg w26 hbox hb; have BK602 := ak (hbox); have GW602 := ak ((by rw [hg]; exact (below_size (bl1 HB GE601)) : w.heap.size ≤ gb602)); have GE602 := ak ((by rw [hg]; exact (below_size (bl1 HB GE601)) : w.heap.size ≤ gb602)); replace HB := ak (below_step (bl1 HB GE601) hb); have NB601_602 := ak ((by rw [hg]; exact Nat.ne_of_lt (blk_lt (bk BK601)) : gb601 ≠ gb602)); have NB602_601 := ak ((by rw [hg]; exact Nat.ne_of_gt (blk_lt (bk BK601)) : gb602 ≠ gb601)); replace BK601 := ak (blk_below (bk BK601) hb); clear hb hbox hg; have hnb27 := NB601_602.out; have hnc27 := NB602_601.out; have hcz28_0 := bc w26 BK601 0 (.int .i64 a0_0) rfl; have hcz28_1 := bc w26 BK601 1 (.slice A0_1 l0_1.length c0_1) rfl; have hcz28_2 := bc w26 BK601 2 (.slice A0_2 l0_2.length c0_2) rfl; have hfz28_0 := fz BK601 0; have hfz28_1 := fz BK601 1; have hfz28_2 := fz BK601 2; have hcz29_0 := bc w26 BK602 0 (.int .i64 a1_0) rfl; have hcz29_1 := bc w26 BK602 1 (.slice A1_1 l1_1.length c1_1) rfl; have hcz29_2 := bc w26 BK602 2 (.slice A1_2 l1_2.length c1_2) rfl; have hfz29_0 := fz BK602 0; have hfz29_1 := fz BK602 1; have hfz29_2 := fz BK602 2) | ((with_reducible refine gate_callee (f := 20) rfl ?_); refine goesL_ (some 9) rfl rfl Try.func20 (by kernel_rfl) rfl #[.agg #[.int .i64 a0_0, .slice A0_1 l0_1.length c0_1], .agg #[.int .i64 a1_0, .slice A1_1 l1_1.length c1_1]] rfl (by (try simp only [List.map_toArray, List.map_cons, List.map_nil]); rfl) ?_; (with_reducible refine (laws_eqNet.calls k a0_0 _ _ l0_1 a1_0 _ _ l1_1 false _ ?side1 ?side2 ?side3 ?side4 A3.out).mono ?_); (case side1 => repeat (exact (Kd.C_below HR0_1.out HB.out))); (case side2 => exact HC0_1.out); (case side3 => repeat (exact (Kd.C_below HR1_1.out HB.out))); (case side4 => exact HC1_1.out); rintro e w30 ⟨rfl, hb⟩; refine ⟨_, rfl, ?_⟩; replace BK601 := ak (blk_below (bk BK601) hb); replace BK602 := ak (blk_below (bk BK602) hb); replace HB := ak (below_step (bl2 HB GE601 GE602) hb); (try clear hb); (try clear hb2); (try clear hk); (try clear hi)))
  go_ret
  exact ⟨by rfl, bl2 HB GE601 GE602⟩
 subst c4
 rw [if_pos rfl] at H
 replace H := Option.bind_eq_some_iff.mp H
 obtain ⟨t604, A50, H⟩ := H
 have A5 := ak A50
 clear A50
 by_cases c6 : t604 = true
 ·subst c6
  rw [if_pos rfl] at H
  obtain rfl := Option.some.inj H
  go_enter Try.func33, Try.ntmps33
  go_wp2_with (first | ((with_reducible refine gate_dst (N := 2) rfl ?_); refine box_event ?hg (N := 2) ?hd (cs := #[.int .i64 a0_0, .slice A0_1 l0_1.length c0_1, .slice A0_2 l0_2.length c0_2]) (t := 49) ?hr ?_; (case hd => rfl); (case hg => rfl); (case hr => (go_simp; done)); intro gb601 hg w7 hbox hb; have BK601 := ak (hbox); have GW601 := ak ((by rw [hg]; exact (below_size (bl HB)) : w.heap.size ≤ gb601)); have GE601 := ak ((by rw [hg]; exact (below_size (bl HB)) : w.heap.size ≤ gb601)); replace HB := ak (below_step (bl HB) hb); clear hb hbox hg) | ((with_reducible refine gate_dst (N := 3) rfl ?_); refine box_event ?hg (N := 3) ?hd (cs := #[.int .i64 a1_0, .slice A1_1 l1_1.length c1_1, .slice A1_2 l1_2.length c1_2]) (t := 49) ?hr ?_; (case hd => rfl); (case hg => rfl); (case hr => (go_simp; done)); intro gb602 hg w8 hbox hb; have BK602 := ak (hbox); have GW602 := ak ((by rw [hg]; exact (below_size (bl1 HB GE601)) : w.heap.size ≤ gb602)); have GE602 := ak ((by rw [hg]; exact (below_size (bl1 HB GE601)) : w.heap.size ≤ gb602)); replace HB := ak (below_step (bl1 HB GE601) hb); have NB601_602 := ak ((by rw [hg]; exact Nat.ne_of_lt (blk_lt (bk BK601)) : gb601 ≠ gb602)); have NB602_601 := ak ((by rw [hg]; exact Nat.ne_of_gt (blk_lt (bk BK601)) : gb602 ≠ gb601)); replace BK601 := ak (blk_below (bk BK601) hb); clear hb hbox hg; have hnb9 := NB601_602.out; have hnc9 := NB602_601.out; have hcz10_0 := bc w8 BK601 0 (.int .i64 a0_0) rfl; have hcz10_1 := bc w8 BK601 1 (.slice A0_1 l0_1.length c0_1) rfl; have hcz10_2 := bc w8 BK601 2 (.slice A0_2 l0_2.length c0_2) rfl; have hfz10_0 := fz BK601 0; have hfz10_1 := fz BK601 1; have hfz10_2 := fz BK601 2; have hcz11_0 := bc w8 BK602 0 (.int .i64 a1_0) rfl; have hcz11_1 := bc w8 BK602 1 (.slice A1_1 l1_1.length c1_1) rfl; have hcz11_2 := bc w8 BK602 2 (.slice A1_2 l1_2.length c1_2) rfl; have hfz11_0 := fz BK602 0; have hfz11_1 := fz BK602 1; have hfz11_2 := fz BK602 2) | ((with_reducible refine gate_callee (f := 20) rfl ?_); refine goesL_ (some 9) rfl rfl Try.func20 (by kernel_rfl) rfl #[.agg #[.int .i64 a0_0, .slice A0_1 l0_1.length c0_1], .agg #[.int .i64 a1_0, .slice A1_1 l1_1.length c1_1]] rfl (by (try simp only [List.map_toArray, List.map_cons, List.map_nil]); rfl) ?_; (with_reducible refine (laws_eqNet.calls k a0_0 _ _ l0_1 a1_0 _ _ l1_1 true _ ?side1 ?side2 ?side3 ?side4 A3.out).mono ?_); (case side1 => repeat (exact (Kd.C_below HR0_1.out HB.out))); (case side2 => exact HC0_1.out); (case side3 => repeat (exact (Kd.C_below HR1_1.out HB.out))); (case side4 => exact HC1_1.out); rintro e w12 ⟨rfl, hb⟩; refine ⟨_, rfl, ?_⟩; replace BK601 := ak (blk_below (bk BK601) hb); replace BK602 := ak (blk_below (bk BK602) hb); replace HB := ak (below_step (bl2 HB GE601 GE602) hb); (try clear hb); (try clear hb2); (try clear hk); (try clear hi); have hcz13_0 := bc w12 BK601 0 (.int .i64 a0_0) rfl; have hcz13_1 := bc w12 BK601 1 (.slice A0_1 l0_1.length c0_1) rfl; have hcz13_2 := bc w12 BK601 2 (.slice A0_2 l0_2.length c0_2) rfl; have hfz13_0 := fz BK601 0; have hfz13_1 := fz BK601 1; have hfz13_2 := fz BK601 2; have hcz14_0 := bc w12 BK602 0 (.int .i64 a1_0) rfl; have hcz14_1 := bc w12 BK602 1 (.slice A1_1 l1_1.length c1_1) rfl; have hcz14_2 := bc w12 BK602 2 (.slice A1_2 l1_2.length c1_2) rfl; have hfz14_0 := fz BK602 0; have hfz14_1 := fz BK602 1; have hfz14_2 := fz BK602 2) | ((with_reducible refine gate_callee (f := 82) rfl ?_); refine goesL_ (some 15) rfl rfl Try.func82 (by kernel_rfl) rfl #[.slice A0_2 l0_2.length c0_2, .slice A1_2 l1_2.length c1_2] rfl (by (try simp only [List.map_toArray, List.map_cons, List.map_nil]); rfl) ?_; (with_reducible refine (laws_eqNewsS.calls k _ _ l0_2 _ _ l1_2 true _ ?side1 ?side2 ?side3 ?side4 A5.out).mono ?_); (case side1 => repeat (exact (Kd.C_below HR0_2.out HB.out))); (case side2 => exact HC0_2.out); (case side3 => repeat (exact (Kd.C_below HR1_2.out HB.out))); (case side4 => exact HC1_2.out); rintro e w15 ⟨rfl, hb⟩; refine ⟨_, rfl, ?_⟩; replace BK601 := ak (blk_below (bk BK601) hb); replace BK602 := ak (blk_below (bk BK602) hb); replace HB := ak (below_step (bl2 HB GE601 GE602) hb); (try clear hb); (try clear hb2); (try clear hk); (try clear hi)))
  go_ret
  exact ⟨by rfl, bl2 HB GE601 GE602⟩
 replace c6 := Bool.eq_false_iff.mpr c6
 subst c6
 rw [if_neg (show ¬ (false = true) by decide)] at H
 obtain rfl := Option.some.inj H
 go_enter Try.func33, Try.ntmps33
 go_wp2_with (first | ((with_reducible refine gate_dst (N := 2) rfl ?_); refine box_event ?hg (N := 2) ?hd (cs := #[.int .i64 a0_0, .slice A0_1 l0_1.length c0_1, .slice A0_2 l0_2.length c0_2]) (t := 49) ?hr ?_; (case hd => rfl); (case hg => rfl); (case hr => (go_simp; done)); intro gb601 hg w16 hbox hb; have BK601 := ak (hbox); have GW601 := ak ((by rw [hg]; exact (below_size (bl HB)) : w.heap.size ≤ gb601)); have GE601 := ak ((by rw [hg]; exact (below_size (bl HB)) : w.heap.size ≤ gb601)); replace HB := ak (below_step (bl HB) hb); clear hb hbox hg) | ((with_reducible refine gate_dst (N := 3) rfl ?_); refine box_event ?hg (N := 3) ?hd (cs := #[.int .i64 a1_0, .slice A1_1 l1_1.length c1_1, .slice A1_2 l1_2.length c1_2]) (t := 49) ?hr ?_; (case hd => rfl); (case hg => rfl); (case hr => (go_simp; done)); intro gb602 hg w17 hbox hb; have BK602 := ak (hbox); have GW602 := ak ((by rw [hg]; exact (below_size (bl1 HB GE601)) : w.heap.size ≤ gb602)); have GE602 := ak ((by rw [hg]; exact (below_size (bl1 HB GE601)) : w.heap.size ≤ gb602)); replace HB := ak (below_step (bl1 HB GE601) hb); have NB601_602 := ak ((by rw [hg]; exact Nat.ne_of_lt (blk_lt (bk BK601)) : gb601 ≠ gb602)); have NB602_601 := ak ((by rw [hg]; exact Nat.ne_of_gt (blk_lt (bk BK601)) : gb602 ≠ gb601)); replace BK601 := ak (blk_below (bk BK601) hb); clear hb hbox hg; have hnb18 := NB601_602.out; have hnc18 := NB602_601.out; have hcz19_0 := bc w17 BK601 0 (.int .i64 a0_0) rfl; have hcz19_1 := bc w17 BK601 1 (.slice A0_1 l0_1.length c0_1) rfl; have hcz19_2 := bc w17 BK601 2 (.slice A0_2 l0_2.length c0_2) rfl; have hfz19_0 := fz BK601 0; have hfz19_1 := fz BK601 1; have hfz19_2 := fz BK601 2; have hcz20_0 := bc w17 BK602 0 (.int .i64 a1_0) rfl; have hcz20_1 := bc w17 BK602 1 (.slice A1_1 l1_1.length c1_1) rfl; have hcz20_2 := bc w17 BK602 2 (.slice A1_2 l1_2.length c1_2) rfl; have hfz20_0 := fz BK602 0; have hfz20_1 := fz BK602 1; have hfz20_2 := fz BK602 2) | ((with_reducible refine gate_callee (f := 20) rfl ?_); refine goesL_ (some 9) rfl rfl Try.func20 (by kernel_rfl) rfl #[.agg #[.int .i64 a0_0, .slice A0_1 l0_1.length c0_1], .agg #[.int .i64 a1_0, .slice A1_1 l1_1.length c1_1]] rfl (by (try simp only [List.map_toArray, List.map_cons, List.map_nil]); rfl) ?_; (with_reducible refine (laws_eqNet.calls k a0_0 _ _ l0_1 a1_0 _ _ l1_1 true _ ?side1 ?side2 ?side3 ?side4 A3.out).mono ?_); (case side1 => repeat (exact (Kd.C_below HR0_1.out HB.out))); (case side2 => exact HC0_1.out); (case side3 => repeat (exact (Kd.C_below HR1_1.out HB.out))); (case side4 => exact HC1_1.out); rintro e w21 ⟨rfl, hb⟩; refine ⟨_, rfl, ?_⟩; replace BK601 := ak (blk_below (bk BK601) hb); replace BK602 := ak (blk_below (bk BK602) hb); replace HB := ak (below_step (bl2 HB GE601 GE602) hb); (try clear hb); (try clear hb2); (try clear hk); (try clear hi); have hcz22_0 := bc w21 BK601 0 (.int .i64 a0_0) rfl; have hcz22_1 := bc w21 BK601 1 (.slice A0_1 l0_1.length c0_1) rfl; have hcz22_2 := bc w21 BK601 2 (.slice A0_2 l0_2.length c0_2) rfl; have hfz22_0 := fz BK601 0; have hfz22_1 := fz BK601 1; have hfz22_2 := fz BK601 2; have hcz23_0 := bc w21 BK602 0 (.int .i64 a1_0) rfl; have hcz23_1 := bc w21 BK602 1 (.slice A1_1 l1_1.length c1_1) rfl; have hcz23_2 := bc w21 BK602 2 (.slice A1_2 l1_2.length c1_2) rfl; have hfz23_0 := fz BK602 0; have hfz23_1 := fz BK602 1; have hfz23_2 := fz BK602 2) | ((with_reducible refine gate_callee (f := 82) rfl ?_); refine goesL_ (some 15) rfl rfl Try.func82 (by kernel_rfl) rfl #[.slice A0_2 l0_2.length c0_2, .slice A1_2 l1_2.length c1_2] rfl (by (try simp only [List.map_toArray, List.map_cons, List.map_nil]); rfl) ?_; (with_reducible refine (laws_eqNewsS.calls k _ _ l0_2 _ _ l1_2 false _ ?side1 ?side2 ?side3 ?side4 A5.out).mono ?_); (case side1 => repeat (exact (Kd.C_below HR0_2.out HB.out))); (case side2 => exact HC0_2.out); (case side3 => repeat (exact (Kd.C_below HR1_2.out HB.out))); (case side4 => exact HC1_2.out); rintro e w24 ⟨rfl, hb⟩; refine ⟨_, rfl, ?_⟩; replace BK601 := ak (blk_below (bk BK601) hb); replace BK602 := ak (blk_below (bk BK602) hb); replace HB := ak (below_step (bl2 HB GE601 GE602) hb); (try clear hb); (try clear hb2); (try clear hk); (try clear hi)))
 go_ret
 exact ⟨by rfl, bl2 HB GE601 GE602⟩

end Go.Proofs.Ytbappbbljncdeaa.F
