-- Printed by wip/px/px.py of this claim's repository (the kit's printer, extended there). Lean checks it.
import Derived.Test.YtbappbbljncdeaaFKinds
import Derived.Test.YtbappbbljncdeaaFlawsheldNet
import Derived.Test.YtbappbbljncdeaaFlawsheldNewsS
namespace Go.Proofs.Ytbappbbljncdeaa.F
open Go.RowKit Go.Proofs.YtbappbbljncdeaaW.PrintWords Go.Proofs.YtbappbbljncdeaaW.PrintLast Go.Proofs.YtbappbbljncdeaaW.PrintMore
attribute [local go_sem] max2_int min2_int max_two min_two max_three min_three max_four min_four   -- for this text's walks alone
set_option linter.unusedVariables false
set_option linter.unusedSimpArgs false

/-! ### laws_heldLive: function 46 -/
def laws_heldLive.f (k : Nat) (a0_0 : Int) (l0_1 : List (S100)) (l0_2 : List (S70)) (a1 : Int) : Option (Int) := (laws_heldNet.f k a0_0 l0_1 a1).bind fun t1029 => (if t1029 < 0 then (some (-1)) else ((laws_heldNewsS.f k l0_2 t1029).bind fun t1030 => (if t1030 < 0 then (some (-1)) else (some t1030))))
theorem laws_heldLive.mono : ∀ a0 a1 a2 a3 k, LeO (laws_heldLive.f k a0 a1 a2 a3) (laws_heldLive.f (k + 1) a0 a1 a2 a3) := by
 intro a0 a1 a2 a3 k
 unfold laws_heldLive.f
 repeat' first | (with_reducible exact laws_heldNet.mono _ _ _ _) | (with_reducible exact laws_heldNewsS.mono _ _ _) | (with_reducible exact LeO.refl _) | (with_reducible refine LeO.ite ?_ ?_) | (with_reducible refine LeO.bind ?_ (fun _ => ?_))
set_option maxHeartbeats 8000000 in
set_option maxRecDepth 100000 in
theorem laws_heldLive.calls (k : Nat) (a0_0 : Int) (A0_1 : Option Addr) (c0_1 : Nat) (l0_1 : List (S100)) (A0_2 : Option Addr) (c0_2 : Nat) (l0_2 : List (S70)) (a1 : Int) (r : Int) (w : World) (hr0_1 : Kd.C k100 w A0_1 l0_1.length l0_1) (hc0_1 : l0_1.length ≤ c0_1) (hr0_2 : Kd.C k70 w A0_2 l0_2.length l0_2) (hc0_2 : l0_2.length ≤ c0_2) (h : laws_heldLive.f k a0_0 l0_1 l0_2 a1 = some r) :
  Calls Try.prog 46 #[.agg #[.int .i64 a0_0, .slice A0_1 l0_1.length c0_1, .slice A0_2 l0_2.length c0_2], .int .i64 a1] w fun e w' => e = .returned (.int .i64 r) ∧ Below w.heap.size w w' := by
 have hu49 := Try.underlying49
 have hu30 := Try.underlying30
 have HR0_1 := ak hr0_1
 have HC0_1 := ak hc0_1
 clear hr0_1 hc0_1
 have HR0_2 := ak hr0_2
 have HC0_2 := ak hc0_2
 clear hr0_2 hc0_2
 have HB := ak (Below.refl w.heap.size w)
 have H : ((laws_heldNet.f k a0_0 l0_1 a1).bind fun t1029 => (if t1029 < 0 then (some (-1)) else ((laws_heldNewsS.f k l0_2 t1029).bind fun t1030 => (if t1030 < 0 then (some (-1)) else (some t1030))))) = some r := h
 clear h
 replace H := Option.bind_eq_some_iff.mp H
 obtain ⟨t1029, A30, H⟩ := H
 have A3 := ak A30
 clear A30
 by_cases c4 : t1029 < 0
 ·rw [if_pos c4] at H
  have c4b0 : decide (t1029 < 0) = true := decide_eq_true c4
  clear c4
  obtain rfl := Option.some.inj H
  go_enter Try.func46, Try.ntmps46
  go_wp2_with (first | ((with_reducible refine gate_dst (N := 2) rfl ?_); refine box_event ?hg (N := 2) ?hd (cs := #[.int .i64 a0_0, .slice A0_1 l0_1.length c0_1, .slice A0_2 l0_2.length c0_2]) (t := 49) ?hr ?_; (case hd => rfl); (case hg => rfl); (case hr => (go_simp; done)); intro gb1028 hg w5 hbox hb; have BK1028 := ak (hbox); have GW1028 := ak ((by rw [hg]; exact (below_size (bl HB)) : w.heap.size ≤ gb1028)); have GE1028 := ak ((by rw [hg]; exact (below_size (bl HB)) : w.heap.size ≤ gb1028)); replace HB := ak (below_step (bl HB) hb); clear hb hbox hg; have hcz6_0 := bc w5 BK1028 0 (.int .i64 a0_0) rfl; have hcz6_1 := bc w5 BK1028 1 (.slice A0_1 l0_1.length c0_1) rfl; have hcz6_2 := bc w5 BK1028 2 (.slice A0_2 l0_2.length c0_2) rfl; have hfz6_0 := fz BK1028 0; have hfz6_1 := fz BK1028 1; have hfz6_2 := fz BK1028 2) | ((with_reducible refine gate_callee (f := 104) rfl ?_); refine goesL_ (some 8) rfl rfl Try.func104 (by kernel_rfl) rfl #[.agg #[.int .i64 a0_0, .slice A0_1 l0_1.length c0_1], .int .i64 a1] rfl (by (try simp only [List.map_toArray, List.map_cons, List.map_nil]); rfl) ?_; (with_reducible refine (laws_heldNet.calls k a0_0 _ _ l0_1 a1 t1029 _ ?side1 ?side2 A3.out).mono ?_); (case side1 => repeat (exact (Kd.C_below HR0_1.out HB.out))); (case side2 => exact HC0_1.out); rintro e w7 ⟨rfl, hb⟩; refine ⟨_, rfl, ?_⟩; replace BK1028 := ak (blk_below (bk BK1028) hb); replace HB := ak (below_step (bl1 HB GE1028) hb); (try clear hb); (try clear hb2); (try clear hk); (try clear hi)))
  go_ret
  exact ⟨by rfl, bl1 HB GE1028⟩
 rw [if_neg c4] at H
 have c4b0 : decide (t1029 < 0) = false := decide_eq_false c4
 clear c4
 replace H := Option.bind_eq_some_iff.mp H
 obtain ⟨t1030, A80, H⟩ := H
 have A8 := ak A80
 clear A80
 by_cases c9 : t1030 < 0
 ·rw [if_pos c9] at H
  have c9b0 : decide (t1030 < 0) = true := decide_eq_true c9
  clear c9
  obtain rfl := Option.some.inj H
  go_enter Try.func46, Try.ntmps46
  go_wp2_with (first | ((with_reducible refine gate_dst (N := 2) rfl ?_); refine box_event ?hg (N := 2) ?hd (cs := #[.int .i64 a0_0, .slice A0_1 l0_1.length c0_1, .slice A0_2 l0_2.length c0_2]) (t := 49) ?hr ?_; (case hd => rfl); (case hg => rfl); (case hr => (go_simp; done)); intro gb1028 hg w10 hbox hb; have BK1028 := ak (hbox); have GW1028 := ak ((by rw [hg]; exact (below_size (bl HB)) : w.heap.size ≤ gb1028)); have GE1028 := ak ((by rw [hg]; exact (below_size (bl HB)) : w.heap.size ≤ gb1028)); replace HB := ak (below_step (bl HB) hb); clear hb hbox hg; have hcz11_0 := bc w10 BK1028 0 (.int .i64 a0_0) rfl; have hcz11_1 := bc w10 BK1028 1 (.slice A0_1 l0_1.length c0_1) rfl; have hcz11_2 := bc w10 BK1028 2 (.slice A0_2 l0_2.length c0_2) rfl; have hfz11_0 := fz BK1028 0; have hfz11_1 := fz BK1028 1; have hfz11_2 := fz BK1028 2) | ((with_reducible refine gate_callee (f := 104) rfl ?_); refine goesL_ (some 8) rfl rfl Try.func104 (by kernel_rfl) rfl #[.agg #[.int .i64 a0_0, .slice A0_1 l0_1.length c0_1], .int .i64 a1] rfl (by (try simp only [List.map_toArray, List.map_cons, List.map_nil]); rfl) ?_; (with_reducible refine (laws_heldNet.calls k a0_0 _ _ l0_1 a1 t1029 _ ?side1 ?side2 A3.out).mono ?_); (case side1 => repeat (exact (Kd.C_below HR0_1.out HB.out))); (case side2 => exact HC0_1.out); rintro e w12 ⟨rfl, hb⟩; refine ⟨_, rfl, ?_⟩; replace BK1028 := ak (blk_below (bk BK1028) hb); replace HB := ak (below_step (bl1 HB GE1028) hb); (try clear hb); (try clear hb2); (try clear hk); (try clear hi); have hcz13_0 := bc w12 BK1028 0 (.int .i64 a0_0) rfl; have hcz13_1 := bc w12 BK1028 1 (.slice A0_1 l0_1.length c0_1) rfl; have hcz13_2 := bc w12 BK1028 2 (.slice A0_2 l0_2.length c0_2) rfl; have hfz13_0 := fz BK1028 0; have hfz13_1 := fz BK1028 1; have hfz13_2 := fz BK1028 2) | ((with_reducible refine gate_callee (f := 105) rfl ?_); refine goesL_ (some 14) rfl rfl Try.func105 (by kernel_rfl) rfl #[.slice A0_2 l0_2.length c0_2, .int .i64 t1029] rfl (by (try simp only [List.map_toArray, List.map_cons, List.map_nil]); rfl) ?_; (with_reducible refine (laws_heldNewsS.calls k _ _ l0_2 t1029 t1030 _ ?side1 ?side2 A8.out).mono ?_); (case side1 => repeat (exact (Kd.C_below HR0_2.out HB.out))); (case side2 => exact HC0_2.out); rintro e w' ⟨rfl, ⟨nd, rfl⟩⟩; refine ⟨_, rfl, ?_⟩))
  go_ret
  exact ⟨by rfl, bl1 HB GE1028⟩
 rw [if_neg c9] at H
 have c9b0 : decide (t1030 < 0) = false := decide_eq_false c9
 clear c9
 obtain rfl := Option.some.inj H
 go_enter Try.func46, Try.ntmps46
 go_wp2_with (first | ((with_reducible refine gate_dst (N := 2) rfl ?_); refine box_event ?hg (N := 2) ?hd (cs := #[.int .i64 a0_0, .slice A0_1 l0_1.length c0_1, .slice A0_2 l0_2.length c0_2]) (t := 49) ?hr ?_; (case hd => rfl); (case hg => rfl); (case hr => (go_simp; done)); intro gb1028 hg w14 hbox hb; have BK1028 := ak (hbox); have GW1028 := ak ((by rw [hg]; exact (below_size (bl HB)) : w.heap.size ≤ gb1028)); have GE1028 := ak ((by rw [hg]; exact (below_size (bl HB)) : w.heap.size ≤ gb1028)); replace HB := ak (below_step (bl HB) hb); clear hb hbox hg; have hcz15_0 := bc w14 BK1028 0 (.int .i64 a0_0) rfl; have hcz15_1 := bc w14 BK1028 1 (.slice A0_1 l0_1.length c0_1) rfl; have hcz15_2 := bc w14 BK1028 2 (.slice A0_2 l0_2.length c0_2) rfl; have hfz15_0 := fz BK1028 0; have hfz15_1 := fz BK1028 1; have hfz15_2 := fz BK1028 2) | ((with_reducible refine gate_callee (f := 104) rfl ?_); refine goesL_ (some 8) rfl rfl Try.func104 (by kernel_rfl) rfl #[.agg #[.int .i64 a0_0, .slice A0_1 l0_1.length c0_1], .int .i64 a1] rfl (by (try simp only [List.map_toArray, List.map_cons, List.map_nil]); rfl) ?_; (with_reducible refine (laws_heldNet.calls k a0_0 _ _ l0_1 a1 t1029 _ ?side1 ?side2 A3.out).mono ?_); (case side1 => repeat (exact (Kd.C_below HR0_1.out HB.out))); (case side2 => exact HC0_1.out); rintro e w16 ⟨rfl, hb⟩; refine ⟨_, rfl, ?_⟩; replace BK1028 := ak (blk_below (bk BK1028) hb); replace HB := ak (below_step (bl1 HB GE1028) hb); (try clear hb); (try clear hb2); (try clear hk); (try clear hi); have hcz17_0 := bc w16 BK1028 0 (.int .i64 a0_0) rfl; have hcz17_1 := bc w16 BK1028 1 (.slice A0_1 l0_1.length c0_1) rfl; have hcz17_2 := bc w16 BK1028 2 (.slice A0_2 l0_2.length c0_2) rfl; have hfz17_0 := fz BK1028 0; have hfz17_1 := fz BK1028 1; have hfz17_2 := fz BK1028 2) | ((with_reducible refine gate_callee (f := 105) rfl ?_); refine goesL_ (some 14) rfl rfl Try.func105 (by kernel_rfl) rfl #[.slice A0_2 l0_2.length c0_2, .int .i64 t1029] rfl (by (try simp only [List.map_toArray, List.map_cons, List.map_nil]); rfl) ?_; (with_reducible refine (laws_heldNewsS.calls k _ _ l0_2 t1029 t1030 _ ?side1 ?side2 A8.out).mono ?_); (case side1 => repeat (exact (Kd.C_below HR0_2.out HB.out))); (case side2 => exact HC0_2.out); rintro e w' ⟨rfl, ⟨nd, rfl⟩⟩; refine ⟨_, rfl, ?_⟩))
 go_ret
 exact ⟨by rfl, bl1 HB GE1028⟩

end Go.Proofs.Ytbappbbljncdeaa.F
